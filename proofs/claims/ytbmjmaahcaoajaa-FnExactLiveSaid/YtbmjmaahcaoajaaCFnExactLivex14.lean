import Derived.Test.YtbmjmaahcaoajaaCFnExactLivex0
import Derived.Test.YtbmjmaahcaoajaaCFnExactLivex10
import Derived.Test.YtbmjmaahcaoajaaCFnExactLivex11
namespace Go.Proofs.Ytbmjmaahcaoajaa.QFnExactLive
open Go.RowKit Go.Proofs.YtbmjmaahcaoajaaW
open PrintWords PrintLast PrintMore PrintShort PrintIsh
attribute [local go_sem] max2_int min2_int max_two min_two max_three min_three max_four min_four   -- for this text's walks alone
set_option linter.unusedVariables false
set_option maxHeartbeats 8000000
set_option maxRecDepth 100000
set_option linter.unusedSimpArgs false

def impl_prog_reached.f (l0_0 : List (S100)) (l0_1 : List (List Int)) (a1 : Int) (a2 : Int) : Option (Bool) := (impl_hasFunc.f l0_0 a1).bind fun t411 => (if t411 = true then (if a2 ≥ 0 then (if 0 ≤ a1 then (if a1 < (l0_1.length : Int) then (if a2 < ((rd_L9 l0_1 a1).length : Int) then (if 0 ≤ a2 then (some (decide ((rd (rd_L9 l0_1 a1) a2) ≥ 0))) else (none)) else (some false)) else (none)) else (none)) else (some false)) else (some false))
theorem impl_prog_reached.calls (g0_ : Nat) (A0_0 : Option Addr) (c0_0 : Nat) (l0_0 : List (S100)) (A0_1 : Option Addr) (c0_1 : Nat) (l0_1 : List (List Int)) (a1 : Int) (a2 : Int) (r : Bool) (w : World) (hp0 : w.heap[g0_]? = some (.cells #[.slice A0_0 l0_0.length c0_0, .slice A0_1 l0_1.length c0_1] 92 (0, 0))) (hr0_0 : Kd.C k100 w A0_0 l0_0.length l0_0) (hc0_0 : l0_0.length ≤ c0_0) (hr0_1 : Kd.C (Kd.slice 2 (Kd.int .i64)) w A0_1 l0_1.length l0_1) (hc0_1 : l0_1.length ≤ c0_1) (h : impl_prog_reached.f l0_0 l0_1 a1 a2 = some r) :
  Calls Try.prog 132 #[.pointer (some ⟨g0_, 0, none⟩), .int .i64 a1, .int .i64 a2] w fun e w' => e = .returned (.bool r) ∧ Below w.heap.size w w' := by
 have hu30 := Try.underlying30
 have HP0_ := am hp0
 clear hp0
 have HR0_0 := am hr0_0
 have HC0_0 := am hc0_0
 clear hr0_0 hc0_0
 have HR0_1 := am hr0_1
 have HC0_1 := am hc0_1
 clear hr0_1 hc0_1
 have HB := am (Below.refl w.heap.size w)
 have H : ((impl_hasFunc.f l0_0 a1).bind fun t411 => (if t411 = true then (if a2 ≥ 0 then (if 0 ≤ a1 then (if a1 < (l0_1.length : Int) then (if a2 < ((rd_L9 l0_1 a1).length : Int) then (if 0 ≤ a2 then (some (decide ((rd (rd_L9 l0_1 a1) a2) ≥ 0))) else (none)) else (some false)) else (none)) else (none)) else (some false)) else (some false))) = some r := h
 clear h
 refine be H ?_; clear H; intro t411 A4 H
 refine qT H ?_ ?_ <;> clear H <;> intro c5 H <;> subst c5
 ·refine qL H ?_ ?_ <;> clear H <;> intro c6b0 H
  ·refine iM H ?_; clear H; intro c7b0 H
   refine iM H ?_; clear H; intro c8b0 H
   refine qI H ?_ ?_ <;> clear H <;> intro c9b0 H
   ·refine iM H ?_; clear H; intro c10b0 H
    obtain rfl := Option.some.inj H
    have hcz11 := bK w HP0_
    have hfz11 := bF HP0_
    go_enter Try.func132, Try.ntmps132
    go_wp2_with (first | ((with_reducible refine gk 121 rfl ?_); refine gB 121 (some 12) Try.func121 #[.agg #[.slice A0_0 l0_0.length c0_0], .int .i64 a1] (impl_hasFunc.calls _ _ l0_0 a1 true _ (by repeat (first | exact HR0_0.out | (with_reducible refine Kd.C_alloc ?_ _) | (with_reducible refine Kd.C_drewN ?_ _) | (with_reducible refine Kd.C_drew ?_))) HC0_0.out A4.out) ?_; intro w12 hb; replace HP0_ := bb HP0_ hb; replace HB := bs HB hb; clear hb; have hcz13 := bK w12 HP0_; have hfz13 := bF HP0_; have p412 : 0 ≤ (a1 : Int) := of_decide_eq_true as1; have q412 : a1 < (l0_1.length : Int) := of_decide_eq_true as1; obtain ⟨ad412, A412_0, c412_0, e412, hx412_0, hl412_0, hi412_0⟩ := at_L9 HR0_1.out a1 p412 q412; cases e412; replace hx412_0 := cl HB hx412_0; have HR412_0 := am hi412_0; have HC412_0 := am hl412_0; clear hi412_0 hl412_0; replace p412 := eq_true p412; replace q412 := eq_true q412; have p413 : 0 ≤ (a1 : Int) := of_decide_eq_true as1; have q413 : a1 < (l0_1.length : Int) := of_decide_eq_true as1; obtain ⟨ad413, A413_0, c413_0, e413, hx413_0, hl413_0, hi413_0⟩ := at_L9 HR0_1.out a1 p413 q413; obtain rfl : ad412 = ad413 := (by injection e413); replace hx413_0 := cl HB hx413_0; have HR413_0 := am hi413_0; have HC413_0 := am hl413_0; clear hi413_0 hl413_0; replace p413 := eq_true p413; replace q413 := eq_true q413; have ea_ := Option.some.inj (hx412_0.symm.trans hx413_0); injection ea_ with ea_ en_ ec_; subst ea_; subst ec_; clear en_; have p414 : 0 ≤ (a2 : Int) := of_decide_eq_true as1; have q414 : a2 < ((rd_L9 l0_1 a1).length : Int) := of_decide_eq_true as1; obtain ⟨ad414, e414, hx414_0⟩ := Kd.at_int HR413_0.out a2 p414 q414; cases e414; replace hx414_0 := cl HB hx414_0; replace p414 := eq_true p414; replace q414 := eq_true q414))
    go_ret
    exact ⟨er, bw HB⟩
   obtain rfl := Option.some.inj H
   have hcz14 := bK w HP0_
   have hfz14 := bF HP0_
   go_enter Try.func132, Try.ntmps132
   go_wp2_with (first | ((with_reducible refine gk 121 rfl ?_); refine gB 121 (some 12) Try.func121 #[.agg #[.slice A0_0 l0_0.length c0_0], .int .i64 a1] (impl_hasFunc.calls _ _ l0_0 a1 true _ (by repeat (first | exact HR0_0.out | (with_reducible refine Kd.C_alloc ?_ _) | (with_reducible refine Kd.C_drewN ?_ _) | (with_reducible refine Kd.C_drew ?_))) HC0_0.out A4.out) ?_; intro w15 hb; replace HP0_ := bb HP0_ hb; replace HB := bs HB hb; clear hb; have hcz16 := bK w15 HP0_; have hfz16 := bF HP0_; have p412 : 0 ≤ (a1 : Int) := of_decide_eq_true as1; have q412 : a1 < (l0_1.length : Int) := of_decide_eq_true as1; obtain ⟨ad412, A412_0, c412_0, e412, hx412_0, hl412_0, hi412_0⟩ := at_L9 HR0_1.out a1 p412 q412; cases e412; replace hx412_0 := cl HB hx412_0; have HR412_0 := am hi412_0; have HC412_0 := am hl412_0; clear hi412_0 hl412_0; replace p412 := eq_true p412; replace q412 := eq_true q412))
   go_ret
   exact ⟨er, bw HB⟩
  obtain rfl := Option.some.inj H
  have hcz17 := bK w HP0_
  have hfz17 := bF HP0_
  go_enter Try.func132, Try.ntmps132
  go_wp2_with (first | ((with_reducible refine gk 121 rfl ?_); refine gB 121 (some 12) Try.func121 #[.agg #[.slice A0_0 l0_0.length c0_0], .int .i64 a1] (impl_hasFunc.calls _ _ l0_0 a1 true _ (by repeat (first | exact HR0_0.out | (with_reducible refine Kd.C_alloc ?_ _) | (with_reducible refine Kd.C_drewN ?_ _) | (with_reducible refine Kd.C_drew ?_))) HC0_0.out A4.out) ?_; intro w18 hb; replace HP0_ := bb HP0_ hb; replace HB := bs HB hb; clear hb))
  go_ret
  exact ⟨er, bw HB⟩
 obtain rfl := Option.some.inj H
 have hcz19 := bK w HP0_
 have hfz19 := bF HP0_
 go_enter Try.func132, Try.ntmps132
 go_wp2_with (first | ((with_reducible refine gk 121 rfl ?_); refine gB 121 (some 12) Try.func121 #[.agg #[.slice A0_0 l0_0.length c0_0], .int .i64 a1] (impl_hasFunc.calls _ _ l0_0 a1 false _ (by repeat (first | exact HR0_0.out | (with_reducible refine Kd.C_alloc ?_ _) | (with_reducible refine Kd.C_drewN ?_ _) | (with_reducible refine Kd.C_drew ?_))) HC0_0.out A4.out) ?_; intro w20 hb; replace HP0_ := bb HP0_ hb; replace HB := bs HB hb; clear hb))
 go_ret
 exact ⟨er, bw HB⟩

def impl_prog_slots.f (l0_0 : List (S100)) (l0_1 : List (List Int)) (a1 : Int) (a2 : Int) : Option (Int) := if 0 ≤ a1 then (if a1 < (l0_0.length : Int) then (if a1 < (l0_1.length : Int) then (if 0 ≤ a2 then (if a2 < ((rd_L9 l0_1 a1).length : Int) then (some (wrap64 (((rd_T100 l0_0 a1).f1) + (rd (rd_L9 l0_1 a1) a2)))) else (none)) else (none)) else (none)) else (none)) else (none)
theorem impl_prog_slots.calls (g0_ : Nat) (A0_0 : Option Addr) (c0_0 : Nat) (l0_0 : List (S100)) (A0_1 : Option Addr) (c0_1 : Nat) (l0_1 : List (List Int)) (a1 : Int) (a2 : Int) (r : Int) (w : World) (hp0 : w.heap[g0_]? = some (.cells #[.slice A0_0 l0_0.length c0_0, .slice A0_1 l0_1.length c0_1] 92 (0, 0))) (hr0_0 : Kd.C k100 w A0_0 l0_0.length l0_0) (hc0_0 : l0_0.length ≤ c0_0) (hr0_1 : Kd.C (Kd.slice 2 (Kd.int .i64)) w A0_1 l0_1.length l0_1) (hc0_1 : l0_1.length ≤ c0_1) (h : impl_prog_slots.f l0_0 l0_1 a1 a2 = some r) :
  Calls Try.prog 133 #[.pointer (some ⟨g0_, 0, none⟩), .int .i64 a1, .int .i64 a2] w fun e w' => e = .returned (.int .i64 r) ∧ Below w.heap.size w w' := by
 have HP0_ := am hp0
 clear hp0
 have HR0_0 := am hr0_0
 have HC0_0 := am hc0_0
 clear hr0_0 hc0_0
 have HR0_1 := am hr0_1
 have HC0_1 := am hc0_1
 clear hr0_1 hc0_1
 have HB := am (Below.refl w.heap.size w)
 have H : (if 0 ≤ a1 then (if a1 < (l0_0.length : Int) then (if a1 < (l0_1.length : Int) then (if 0 ≤ a2 then (if a2 < ((rd_L9 l0_1 a1).length : Int) then (some (wrap64 (((rd_T100 l0_0 a1).f1) + (rd (rd_L9 l0_1 a1) a2)))) else (none)) else (none)) else (none)) else (none)) else (none)) = some r := h
 clear h
 refine iM H ?_; clear H; intro c4b0 H
 refine iM H ?_; clear H; intro c5b0 H
 refine iM H ?_; clear H; intro c6b0 H
 refine iM H ?_; clear H; intro c7b0 H
 refine iM H ?_; clear H; intro c8b0 H
 obtain rfl := Option.some.inj H
 have hcz9 := bK w HP0_
 have hfz9 := bF HP0_
 have p415 : 0 ≤ (a1 : Int) := of_decide_eq_true as1
 have q415 : a1 < (l0_0.length : Int) := of_decide_eq_true as1
 obtain ⟨ad415, A415_2, c415_2, e415, hx415_0, hx415_1, hx415_2, hl415_2, hi415_2⟩ := at_T100 HR0_0.out a1 p415 q415
 cases e415
 have HR415_2 := am hi415_2
 have HC415_2 := am hl415_2
 clear hi415_2 hl415_2
 replace p415 := eq_true p415
 replace q415 := eq_true q415
 have p416 : 0 ≤ (a1 : Int) := of_decide_eq_true as1
 have q416 : a1 < (l0_1.length : Int) := of_decide_eq_true as1
 obtain ⟨ad416, A416_0, c416_0, e416, hx416_0, hl416_0, hi416_0⟩ := at_L9 HR0_1.out a1 p416 q416
 cases e416
 have HR416_0 := am hi416_0
 have HC416_0 := am hl416_0
 clear hi416_0 hl416_0
 replace p416 := eq_true p416
 replace q416 := eq_true q416
 have p417 : 0 ≤ (a2 : Int) := of_decide_eq_true as1
 have q417 : a2 < ((rd_L9 l0_1 a1).length : Int) := of_decide_eq_true as1
 obtain ⟨ad417, e417, hx417_0⟩ := Kd.at_int HR416_0.out a2 p417 q417
 cases e417
 replace p417 := eq_true p417
 replace q417 := eq_true q417
 go_enter Try.func133, Try.ntmps133
 go_wp2
 repeat (go_quiet (fail); try go_wp2)
 go_ret
 exact ⟨er, bw HB⟩

def impl_prog_at.f (l0_0 : List (S100)) (l0_1 : List (List Int)) (a1 : Int) (a2 : Int) : Option (Int × Int) := if 0 ≤ a1 then (if a1 < (l0_0.length : Int) then (if 0 ≤ a2 then (if a2 < (((rd_T100 l0_0 a1).f2).length : Int) then (some ((rd_T102 ((rd_T100 l0_0 a1).f2) a2).f0, (rd_T102 ((rd_T100 l0_0 a1).f2) a2).f1)) else (none)) else (none)) else (none)) else (none)
theorem impl_prog_at.calls (g0_ : Nat) (A0_0 : Option Addr) (c0_0 : Nat) (l0_0 : List (S100)) (A0_1 : Option Addr) (c0_1 : Nat) (l0_1 : List (List Int)) (a1 : Int) (a2 : Int) (r1 : Int) (r2 : Int) (w : World) (hp0 : w.heap[g0_]? = some (.cells #[.slice A0_0 l0_0.length c0_0, .slice A0_1 l0_1.length c0_1] 92 (0, 0))) (hr0_0 : Kd.C k100 w A0_0 l0_0.length l0_0) (hc0_0 : l0_0.length ≤ c0_0) (hr0_1 : Kd.C (Kd.slice 2 (Kd.int .i64)) w A0_1 l0_1.length l0_1) (hc0_1 : l0_1.length ≤ c0_1) (h : impl_prog_at.f l0_0 l0_1 a1 a2 = some (r1, r2)) :
  Calls Try.prog 141 #[.pointer (some ⟨g0_, 0, none⟩), .int .i64 a1, .int .i64 a2] w fun e w' => e = .returned (.agg #[.int .i64 r1, .int .i64 r2]) ∧ Below w.heap.size w w' := by
 have hu102 := Try.underlying102
 have HP0_ := am hp0
 clear hp0
 have HR0_0 := am hr0_0
 have HC0_0 := am hc0_0
 clear hr0_0 hc0_0
 have HR0_1 := am hr0_1
 have HC0_1 := am hc0_1
 clear hr0_1 hc0_1
 have HB := am (Below.refl w.heap.size w)
 have H : (if 0 ≤ a1 then (if a1 < (l0_0.length : Int) then (if 0 ≤ a2 then (if a2 < (((rd_T100 l0_0 a1).f2).length : Int) then (some ((rd_T102 ((rd_T100 l0_0 a1).f2) a2).f0, (rd_T102 ((rd_T100 l0_0 a1).f2) a2).f1)) else (none)) else (none)) else (none)) else (none)) = some (r1, r2) := h
 clear h
 refine iM H ?_; clear H; intro c4b0 H
 refine iM H ?_; clear H; intro c5b0 H
 refine iM H ?_; clear H; intro c6b0 H
 refine iM H ?_; clear H; intro c7b0 H
 simp only [Option.some.injEq, Prod.mk.injEq] at H
 obtain ⟨rfl, rfl⟩ := H
 go_enter Try.func141, Try.ntmps141
 go_wp2_with (first | ((with_reducible refine gd 6 rfl ?_); refine bX 6 #[.int .i64 0, .int .i64 0] 102 HB ?_; clear HB; intro gb418 w8 hg hb BK418 GW418 HB; obtain ⟨NB0_418, NB418_0, HP0_⟩ := b3 hg HP0_ hb; clear hb hg; have hnb9 := NB0_418.out; have hnc9 := NB418_0.out; have hcz10 := bK w8 HP0_; have hfz10 := bF HP0_; have p419 : 0 ≤ (a1 : Int) := of_decide_eq_true as1; have q419 : a1 < (l0_0.length : Int) := of_decide_eq_true as1; obtain ⟨ad419, A419_2, c419_2, e419, hx419_0, hx419_1, hx419_2, hl419_2, hi419_2⟩ := at_T100 HR0_0.out a1 p419 q419; cases e419; replace hx419_0 := cl HB hx419_0; replace hx419_1 := cl HB hx419_1; replace hx419_2 := cl HB hx419_2; have HR419_2 := am hi419_2; have HC419_2 := am hl419_2; clear hi419_2 hl419_2; replace p419 := eq_true p419; replace q419 := eq_true q419; have p420 : 0 ≤ (a2 : Int) := of_decide_eq_true as1; have q420 : a2 < (((rd_T100 l0_0 a1).f2).length : Int) := of_decide_eq_true as1; obtain ⟨ad420, e420, hx420_0, hx420_1⟩ := at_T102 HR419_2.out a2 p420 q420; cases e420; replace hx420_0 := cl HB hx420_0; replace hx420_1 := cl HB hx420_1; replace p420 := eq_true p420; replace q420 := eq_true q420; have hcz11 := bK w8 BK418; have hfz11 := bF BK418))
 refine bodyPost_ret (results_cell_row rfl _ _ gb418 102 #[.int .i64 ((rd_T102 ((rd_T100 l0_0 a1).f2) a2).f0), .int .i64 ((rd_T102 ((rd_T100 l0_0 a1).f2) a2).f1)] (0, 0) _ rfl (bt BK418) Try.underlying102 rfl (by kernel_rfl)) rfl ?_
 exact ⟨er, bw HB⟩

def impl_prog_top.f (l0_0 : List (S100)) (l0_1 : List (List Int)) (a1 : Int) (a2 : Int) (a3 : Int) : Option (Int) := if 0 ≤ a1 then (if a1 < (l0_0.length : Int) then (if 0 ≤ a3 then (if 0 ≤ (wrap64 ((wrap64 (((rd_T100 l0_0 a1).f1) + a2)) - a3)) then (some (shl .i64 (wrap64 ((shl .i64 1 a3) - 1)) (wrap64 ((wrap64 (((rd_T100 l0_0 a1).f1) + a2)) - a3)))) else (none)) else (none)) else (none)) else (none)
theorem impl_prog_top.calls (g0_ : Nat) (A0_0 : Option Addr) (c0_0 : Nat) (l0_0 : List (S100)) (A0_1 : Option Addr) (c0_1 : Nat) (l0_1 : List (List Int)) (a1 : Int) (a2 : Int) (a3 : Int) (r : Int) (w : World) (hp0 : w.heap[g0_]? = some (.cells #[.slice A0_0 l0_0.length c0_0, .slice A0_1 l0_1.length c0_1] 92 (0, 0))) (hr0_0 : Kd.C k100 w A0_0 l0_0.length l0_0) (hc0_0 : l0_0.length ≤ c0_0) (hr0_1 : Kd.C (Kd.slice 2 (Kd.int .i64)) w A0_1 l0_1.length l0_1) (hc0_1 : l0_1.length ≤ c0_1) (h : impl_prog_top.f l0_0 l0_1 a1 a2 a3 = some r) :
  Calls Try.prog 178 #[.pointer (some ⟨g0_, 0, none⟩), .int .i64 a1, .int .i64 a2, .int .i64 a3] w fun e w' => e = .returned (.int .i64 r) ∧ Below w.heap.size w w' := by
 have HP0_ := am hp0
 clear hp0
 have HR0_0 := am hr0_0
 have HC0_0 := am hc0_0
 clear hr0_0 hc0_0
 have HR0_1 := am hr0_1
 have HC0_1 := am hc0_1
 clear hr0_1 hc0_1
 have HB := am (Below.refl w.heap.size w)
 have H : (if 0 ≤ a1 then (if a1 < (l0_0.length : Int) then (if 0 ≤ a3 then (if 0 ≤ (wrap64 ((wrap64 (((rd_T100 l0_0 a1).f1) + a2)) - a3)) then (some (shl .i64 (wrap64 ((shl .i64 1 a3) - 1)) (wrap64 ((wrap64 (((rd_T100 l0_0 a1).f1) + a2)) - a3)))) else (none)) else (none)) else (none)) else (none)) = some r := h
 clear h
 refine iM H ?_; clear H; intro c5b0 H
 refine iM H ?_; clear H; intro c6b0 H
 refine iN H ?_; clear H; intro c7 H
 have c7b0 := eq_true c7
 have c7b1 := decide_eq_true c7
 clear c7
 obtain ⟨ji8, hji8⟩ : ∃ j_ : Int, (shl .i64 1 a3) = j_ := ⟨_, rfl⟩
 replace H : (if 0 ≤ (wrap64 ((wrap64 (((rd_T100 l0_0 a1).f1) + a2)) - a3)) then (some (shl .i64 (wrap64 ((ji8) - 1)) (wrap64 ((wrap64 (((rd_T100 l0_0 a1).f1) + a2)) - a3)))) else (none)) = some r := by first | (rw [hji8] at H; exact H) | (simp only [hji8] at H ⊢; exact H)
 have hji8_ : (IntKind.i64.wrap (1 * 2 ^ min a3.toNat 64)) = ji8 := hji8
 have hji8z : a3 ≤ 64 → (IntKind.i64.wrap (1 * 2 ^ a3.toNat)) = ji8 := shl_small hji8
 have hji8u : (IntKind.i64.wrap (2 ^ min a3.toNat 64)) = ji8 := by have h_ := hji8_; rw [Int.one_mul] at h_; exact h_
 have hji8v : a3 ≤ 64 → (IntKind.i64.wrap (2 ^ a3.toNat)) = ji8 := fun hle_ => by have h_ := hji8z hle_; rw [Int.one_mul] at h_; exact h_
 have hji8y : (wrap64 (1 * 2 ^ min a3.toNat 64)) = ji8 := (i64_w _).symm.trans hji8_
 have hji8x : a3 ≤ 64 → (wrap64 (1 * 2 ^ a3.toNat)) = ji8 := fun h_ => (i64_w _).symm.trans (hji8z h_)
 obtain ⟨ji9, hji9⟩ : ∃ j_ : Int, (wrap64 ((wrap64 (((rd_T100 l0_0 a1).f1) + a2)) - a3)) = j_ := ⟨_, rfl⟩
 replace H : (if 0 ≤ (ji9) then (some (shl .i64 (wrap64 ((ji8) - 1)) (ji9))) else (none)) = some r := by first | (rw [hji9] at H; exact H) | (simp only [hji9] at H ⊢; exact H)
 have hji9w : (IntKind.i64.wrap ((wrap64 (((rd_T100 l0_0 a1).f1) + a2)) - a3)) = ji9 := (i64_w _).trans hji9
 refine iN H ?_; clear H; intro c10 H
 have c10b0 := eq_true c10
 have c10b1 := decide_eq_true c10
 clear c10
 obtain ⟨ji11, hji11⟩ : ∃ j_ : Int, (shl .i64 (wrap64 ((ji8) - 1)) (ji9)) = j_ := ⟨_, rfl⟩
 replace H : (some ji11) = some r := by first | (rw [hji11] at H; exact H) | (simp only [hji11] at H ⊢; exact H)
 have hji11_ : (IntKind.i64.wrap ((wrap64 ((ji8) - 1)) * 2 ^ min (ji9).toNat 64)) = ji11 := hji11
 have hji11z : (ji9) ≤ 64 → (IntKind.i64.wrap ((wrap64 ((ji8) - 1)) * 2 ^ (ji9).toNat)) = ji11 := shl_small hji11
 have hji11y : (wrap64 ((wrap64 ((ji8) - 1)) * 2 ^ min (ji9).toNat 64)) = ji11 := (i64_w _).symm.trans hji11_
 have hji11x : (ji9) ≤ 64 → (wrap64 ((wrap64 ((ji8) - 1)) * 2 ^ (ji9).toNat)) = ji11 := fun h_ => (i64_w _).symm.trans (hji11z h_)
 obtain rfl := Option.some.inj H
 have hcz12 := bK w HP0_
 have hfz12 := bF HP0_
 have p421 : 0 ≤ (a1 : Int) := of_decide_eq_true as1
 have q421 : a1 < (l0_0.length : Int) := of_decide_eq_true as1
 obtain ⟨ad421, A421_2, c421_2, e421, hx421_0, hx421_1, hx421_2, hl421_2, hi421_2⟩ := at_T100 HR0_0.out a1 p421 q421
 cases e421
 have HR421_2 := am hi421_2
 have HC421_2 := am hl421_2
 clear hi421_2 hl421_2
 replace p421 := eq_true p421
 replace q421 := eq_true q421
 go_enter Try.func178, Try.ntmps178
 go_wp2
 go_ret
 exact ⟨by first | rfl | (simp [errW_none, errW_some] <;> rfl) | (simp only [← hji8, ← hji9, ← hji11]; first | rfl | (simp [errW_none, errW_some] <;> rfl)) | (simp [*, errW_none, errW_some] <;> rfl), bw HB⟩

def impl_prog_reads.f (k : Nat) (l0_0 : List (S100)) (l0_1 : List (List Int)) (a1 : Int) (a2 : Int) : Option (Int) := (impl_prog_at.f l0_0 l0_1 a1 a2).bind fun bt422 => (if bt422.1 = 2 then (if 0 ≤ bt422.2 then (some (shl .i64 1 bt422.2)) else (none)) else (if 0 ≤ a1 then (if a1 < (l0_1.length : Int) then (if 0 ≤ a2 then (if a2 < ((rd_L9 l0_1 a1).length : Int) then ((impl_Takes.f k l0_0 bt422.1 bt422.2).bind fun t427 => ((impl_prog_top.f l0_0 l0_1 a1 (rd (rd_L9 l0_1 a1) a2) t427).bind fun t428 => (some t428))) else (none)) else (none)) else (none)) else (none)))
theorem impl_prog_reads.mono : ∀ a0 a1 a2 a3 k, LeO (impl_prog_reads.f k a0 a1 a2 a3) (impl_prog_reads.f (k + 1) a0 a1 a2 a3) := by
 intro a0 a1 a2 a3 k
 unfold impl_prog_reads.f
 with_reducible repeat' first | exact impl_Takes.mono .. | exact LeO.refl _ | exact LeO.none _ | refine LeO.ite ?_ ?_ | refine LeO.bind ?_ (fun _ => ?_)
def impl_prog_reads.T4 : Bool × List (List Nat × List Nat) := (true, [([], []), ([], []), ([], []), ([2], [2]), ([3], [3]), ([4], [4]), ([], []), ([5, 6], [5, 6]), ([7], [7]), ([], []), ([8, 9], [8, 9]), ([10], [10]), ([], []), ([12], [12]), ([13], [13]), ([14], [14]), ([], []), ([15, 16], [15, 16]), ([0, 1, 11, 17, 17], [0, 1, 11, 17]), ([18, 18, 0, 1, 2, 3, 4, 5, 6, 7, 8, 9, 10, 11, 12, 13, 14, 15, 16, 17, 18], [18])])
def impl_prog_reads.B4 : List Nat := [0, 0, 0, 4, 12, 28, 0, 124, 252, 0, 1020, 2044, 0, 4096, 12288, 28672, 0, 126976, 262143, 524287]
theorem impl_prog_reads.tab4 : rtab .any (opsOf Try.f148 4) = impl_prog_reads.T4 := by kernel_rfl
theorem impl_prog_reads.bits4 : waitsOk impl_prog_reads.T4.2 impl_prog_reads.B4 = true := by kernel_rfl
theorem impl_prog_reads.calls (k : Nat) (g0_ : Nat) (A0_0 : Option Addr) (c0_0 : Nat) (l0_0 : List (S100)) (A0_1 : Option Addr) (c0_1 : Nat) (l0_1 : List (List Int)) (a1 : Int) (a2 : Int) (r : Int) (w : World) (hp0 : w.heap[g0_]? = some (.cells #[.slice A0_0 l0_0.length c0_0, .slice A0_1 l0_1.length c0_1] 92 (0, 0))) (hr0_0 : Kd.C k100 w A0_0 l0_0.length l0_0) (hc0_0 : l0_0.length ≤ c0_0) (hr0_1 : Kd.C (Kd.slice 2 (Kd.int .i64)) w A0_1 l0_1.length l0_1) (hc0_1 : l0_1.length ≤ c0_1) (h : impl_prog_reads.f k l0_0 l0_1 a1 a2 = some r) :
  Calls Try.prog 148 #[.pointer (some ⟨g0_, 0, none⟩), .int .i64 a1, .int .i64 a2] w fun e w' => e = .returned (.int .i64 r) ∧ Below w.heap.size w w' := by
 have hu102 := Try.underlying102
 have hu30 := Try.underlying30
 have HP0_ := am hp0
 clear hp0
 have HR0_0 := am hr0_0
 have HC0_0 := am hc0_0
 clear hr0_0 hc0_0
 have HR0_1 := am hr0_1
 have HC0_1 := am hc0_1
 clear hr0_1 hc0_1
 have HB := am (Below.refl w.heap.size w)
 have H : ((impl_prog_at.f l0_0 l0_1 a1 a2).bind fun bt422 => (if bt422.1 = 2 then (if 0 ≤ bt422.2 then (some (shl .i64 1 bt422.2)) else (none)) else (if 0 ≤ a1 then (if a1 < (l0_1.length : Int) then (if 0 ≤ a2 then (if a2 < ((rd_L9 l0_1 a1).length : Int) then ((impl_Takes.f k l0_0 bt422.1 bt422.2).bind fun t427 => ((impl_prog_top.f l0_0 l0_1 a1 (rd (rd_L9 l0_1 a1) a2) t427).bind fun t428 => (some t428))) else (none)) else (none)) else (none)) else (none)))) = some r := h
 clear h
 replace H := Option.bind_eq_some_iff.mp H
 obtain ⟨⟨t422, t423⟩, A40, H⟩ := H
 replace H : (if t422 = 2 then (if 0 ≤ t423 then (some (shl .i64 1 t423)) else (none)) else (if 0 ≤ a1 then (if a1 < (l0_1.length : Int) then (if 0 ≤ a2 then (if a2 < ((rd_L9 l0_1 a1).length : Int) then ((impl_Takes.f k l0_0 t422 t423).bind fun t427 => ((impl_prog_top.f l0_0 l0_1 a1 (rd (rd_L9 l0_1 a1) a2) t427).bind fun t428 => (some t428))) else (none)) else (none)) else (none)) else (none))) = some r := H
 have A4 := am A40
 clear A40
 have HC5 := am H
 clear H
 go_enter Try.func148, Try.ntmps148
 go_upto_if 14 with (first | ((with_reducible refine gk 141 rfl ?_); refine gB 141 (some 11) Try.func141 #[.pointer (some ⟨g0_, 0, none⟩), .int .i64 a1, .int .i64 a2] (impl_prog_at.calls g0_ A0_0 c0_0 l0_0 A0_1 c0_1 l0_1 a1 a2 t422 t423 _ (bp HP0_) (by repeat (first | exact HR0_0.out | (with_reducible refine Kd.C_alloc ?_ _) | (with_reducible refine Kd.C_drewN ?_ _) | (with_reducible refine Kd.C_drew ?_))) HC0_0.out (by repeat (first | exact HR0_1.out | (with_reducible refine Kd.C_alloc ?_ _) | (with_reducible refine Kd.C_drewN ?_ _) | (with_reducible refine Kd.C_drew ?_))) HC0_1.out A4.out) ?_; intro w6 hb; replace HP0_ := bb HP0_ hb; replace HB := bs HB hb; clear hb) | ((with_reducible refine gd 7 rfl ?_); refine bX 7 #[.int .i64 0, .int .i64 0] 102 HB ?_; clear HB; intro gb424 w7 hg hb BK424 GW424 HB; obtain ⟨NB0_424, NB424_0, HP0_⟩ := b3 hg HP0_ hb; clear hb hg; have hnb8 := NB424_0.out; have hnc8 := NB0_424.out; have hcz9 := bK w7 BK424; have hfz9 := bF BK424))
 (try simp only [Act.put, sa, sz, ss])
 have H := HC5.out
 clear HC5
 refine qE H ?_ ?_ <;> clear H
 ·intro c10b0 c10b1 H
  (first | rw [c10b0] | (simp only [i64_w, i32_w]; rw [c10b0]) | skip)
  refine iN H ?_; clear H; intro c11 H
  have c11b0 := eq_true c11
  have c11b1 := decide_eq_true c11
  clear c11
  obtain ⟨ji12, hji12⟩ : ∃ j_ : Int, (shl .i64 1 t423) = j_ := ⟨_, rfl⟩
  replace H : (some ji12) = some r := by first | (rw [hji12] at H; exact H) | (simp only [hji12] at H ⊢; exact H)
  have hji12_ : (IntKind.i64.wrap (1 * 2 ^ min t423.toNat 64)) = ji12 := hji12
  have hji12z : t423 ≤ 64 → (IntKind.i64.wrap (1 * 2 ^ t423.toNat)) = ji12 := shl_small hji12
  have hji12u : (IntKind.i64.wrap (2 ^ min t423.toNat 64)) = ji12 := by have h_ := hji12_; rw [Int.one_mul] at h_; exact h_
  have hji12v : t423 ≤ 64 → (IntKind.i64.wrap (2 ^ t423.toNat)) = ji12 := fun hle_ => by have h_ := hji12z hle_; rw [Int.one_mul] at h_; exact h_
  have hji12y : (wrap64 (1 * 2 ^ min t423.toNat 64)) = ji12 := (i64_w _).symm.trans hji12_
  have hji12x : t423 ≤ 64 → (wrap64 (1 * 2 ^ t423.toNat)) = ji12 := fun h_ => (i64_w _).symm.trans (hji12z h_)
  obtain rfl := Option.some.inj H
  have hnb13 := NB424_0.out
  have hnc13 := NB0_424.out
  have hcz14 := bK w7 BK424
  have hfz14 := bF BK424
  go_wp2
  go_ret
  exact ⟨by first | rfl | (simp [errW_none, errW_some] <;> rfl) | (simp only [← hji12]; first | rfl | (simp [errW_none, errW_some] <;> rfl)) | (simp [*, errW_none, errW_some] <;> rfl), bw HB⟩
 intro c10 c10b0 c10b1 H
 (first | rw [c10b0] | (simp only [i64_w, i32_w]; rw [c10b0]) | skip)
 refine iM H ?_; clear H; intro c15b0 H
 refine iM H ?_; clear H; intro c16b0 H
 refine iM H ?_; clear H; intro c17b0 H
 refine iM H ?_; clear H; intro c18b0 H
 refine be H ?_; clear H; intro t427 A19 H
 refine be H ?_; clear H; intro t428 A20 H
 obtain rfl := Option.some.inj H
 try go_wp2
 replace HP0_ : Aside0 (((w7.setCell ⟨gb424, 0, none⟩ (.int .i64 t422)).setCell ⟨gb424, 1, none⟩ (.int .i64 t423)).heap[g0_]? = some (.cells #[.slice A0_0 l0_0.length c0_0, .slice A0_1 l0_1.length c0_1] 92 (0, 0))) := ⟨by (with_reducible repeat (first | apply dN | apply dW | apply dA)); refine blk_far ?_ NB0_424.out _; (with_reducible repeat (first | apply dN | apply dW | apply dA)); refine blk_far ?_ NB0_424.out _; exact bp HP0_⟩
 replace BK424 : Aside0 (((w7.setCell ⟨gb424, 0, none⟩ (.int .i64 t422)).setCell ⟨gb424, 1, none⟩ (.int .i64 t423)).heap[gb424]? = some (.cells #[.int .i64 t422, .int .i64 t423] 102 (0, 0))) := ⟨by (with_reducible repeat (first | apply dN | apply dW | apply dA)); refine blk_put (cs := #[.int .i64 t422, .int .i64 0]) ?_ 1 _ rfl; (with_reducible repeat (first | apply dN | apply dW | apply dA)); refine blk_put (cs := #[.int .i64 0, .int .i64 0]) ?_ 0 _ rfl; exact bp BK424⟩
 replace HB : Aside0 (Below w.heap.size w ((w7.setCell ⟨gb424, 0, none⟩ (.int .i64 t422)).setCell ⟨gb424, 1, none⟩ (.int .i64 t423))) := ⟨bw HB⟩
 generalize ((w7.setCell ⟨gb424, 0, none⟩ (.int .i64 t422)).setCell ⟨gb424, 1, none⟩ (.int .i64 t423)) = w21 at HP0_ BK424 HB ⊢
 replace HP0_ := am (blk_drew HP0_.out)
 replace BK424 := am (blk_drew BK424.out)
 replace HB := am (below_drew1 HB.out)
 have p425 : 0 ≤ (a1 : Int) := of_decide_eq_true as1
 have q425 : a1 < (l0_1.length : Int) := of_decide_eq_true as1
 obtain ⟨ad425, A425_0, c425_0, e425, hx425_0, hl425_0, hi425_0⟩ := at_L9 HR0_1.out a1 p425 q425
 have hw425_0 := hx425_0
 cases e425
 replace hx425_0 := cl HB hx425_0
 have HR425_0 := am hi425_0
 have HC425_0 := am hl425_0
 clear hi425_0 hl425_0
 replace p425 := eq_true p425
 replace q425 := eq_true q425
 have p426 : 0 ≤ (a2 : Int) := of_decide_eq_true as1
 have q426 : a2 < ((rd_L9 l0_1 a1).length : Int) := of_decide_eq_true as1
 obtain ⟨ad426, e426, hx426_0⟩ := Kd.at_int HR425_0.out a2 p426 q426
 have hw426_0 := hx426_0
 cases e426
 replace hx426_0 := cl HB hx426_0
 replace p426 := eq_true p426
 replace q426 := eq_true q426
 refine start_ (n := 20) (S := fun w' => w'.cell? ⟨g0_, 0, none⟩ = some (.slice A0_0 l0_0.length c0_0) ∧ w'.cell? ⟨g0_, 1, none⟩ = some (.slice (some ad425) l0_1.length c0_1) ∧ w'.cell? ⟨gb424, 0, none⟩ = some (.int .i64 t422) ∧ w'.cell? ⟨gb424, 1, none⟩ = some (.int .i64 t423) ∧ w'.cell? (ad425.add (a1).toNat) = some (.slice (some ad426) (rd_L9 l0_1 a1).length c425_0) ∧ w'.cell? (ad426.add (a2).toNat) = some (.int .i64 (rd (rd_L9 l0_1 a1) a2))) (ds := []) (bv 20 0) (by kernel_rfl) rfl (by kernel_rfl) ⟨bc HP0_ 0, bc HP0_ 1, bc BK424 0, bc BK424 1, (cq HB hw425_0), (cq HB hw426_0)⟩ (fun hHeld => ?_); refine with_tabW impl_prog_reads.tab4 impl_prog_reads.bits4 (fun HT_ HW_ => ?_)
 generalize w21.drew = w22 at HP0_ BK424 HB HR425_0 hx425_0 hx426_0 hHeld ⊢
 refine pu 0 18 20 1 HT_ ?_
 refine pu 1 19 20 3 HT_ ?_
 refine pu 2 20 20 7 HT_ ?_
 refine pu 3 21 20 15 HT_ ?_
 refine pu 4 22 20 31 HT_ ?_
 refine pu 6 24 20 95 HT_ ?_
 refine pu 9 27 20 607 HT_ ?_
 refine pu 12 30 20 4703 HT_ ?_
 refine pu 13 31 20 12895 HT_ ?_
 refine pu 14 32 20 29279 HT_ ?_
 refine tk 5 23 20 29311 HT_ HW_ hHeld ?_
 refine pu 7 25 20 29439 HT_ ?_
 refine tk 8 26 20 29695 HT_ HW_ hHeld ?_
 refine pu 10 28 20 30719 HT_ ?_
 refine tk 11 29 20 32767 HT_ HW_ hHeld ?_
 refine tk 15 33 20 65535 HT_ HW_ hHeld ?_
 refine tk 16 34 20 131071 HT_ HW_ hHeld ?_
 refine on 17 (some 35) 20 262143 HT_ fun K hK => ?_
 refine goes_ Try.func134 (by kernel_rfl) rfl #[.agg #[.slice A0_0 l0_0.length c0_0], .agg #[.int .i64 t422, .int .i64 t423]] (by rfl) rfl rfl gl ?_
 with_reducible refine (impl_Takes.calls k _ _ l0_0 t422 t423 t427 _ ?side1 ?side2 A19.out).mono ?_
 (case side1 => exact cc (Kd.C_below HR0_0.out HB.out))
 (case side2 => exact HC0_0.out)
 rintro e w23 ⟨rfl, hb⟩
 refine ⟨_, rfl, ?_⟩
 replace HP0_ := bb HP0_ hb
 replace BK424 := bb BK424 hb
 replace HB := am (below_step (bw HB) hb)
 clear hb
 refine hK.out _ _ ⟨bc HP0_ 0, bc HP0_ 1, bc BK424 0, bc BK424 1, (cq HB hw425_0), (cq HB hw426_0)⟩ (fun hHeld => ?_)
 clear hK K
 refine nm (some 35) ?_
 refine on 18 (some 36) 20 524287 HT_ fun K hK => ?_
 refine goes_ Try.func178 (by kernel_rfl) rfl #[.pointer (some ⟨g0_, 0, none⟩), .int .i64 a1, .int .i64 (rd (rd_L9 l0_1 a1) a2), .int .i64 t427] (by rfl) rfl rfl gl ?_
 refine (impl_prog_top.calls g0_ A0_0 c0_0 l0_0 (some ad425) c0_1 l0_1 a1 (rd (rd_L9 l0_1 a1) a2) t427 t428 _ ?side1 ?side2 ?side3 ?side4 ?side5 A20.out).mono ?_
 (case side1 => exact (bp HP0_))
 (case side2 => exact cc (Kd.C_below HR0_0.out HB.out))
 (case side3 => exact HC0_0.out)
 (case side4 => exact cc (Kd.C_below HR0_1.out HB.out))
 (case side5 => exact HC0_1.out)
 rintro e w24 ⟨rfl, hb⟩
 refine ⟨_, rfl, ?_⟩
 replace HP0_ := bb HP0_ hb
 replace BK424 := bb BK424 hb
 replace HB := am (below_step (bw HB) hb)
 clear hb
 refine hK.out _ _ ⟨bc HP0_ 0, bc HP0_ 1, bc BK424 0, bc BK424 1, (cq HB hw425_0), (cq HB hw426_0)⟩ (fun hHeld => ?_)
 clear hK K
 refine nm (some 36) ?_
 refine pu 19 6 20 1048575 HT_ ?_
 refine done_ (done_of HT_.out (by kernel_rfl)) ?_
 try go_wp2
 go_ret
 exact ⟨er, bw HB⟩

end Go.Proofs.Ytbmjmaahcaoajaa.QFnExactLive
