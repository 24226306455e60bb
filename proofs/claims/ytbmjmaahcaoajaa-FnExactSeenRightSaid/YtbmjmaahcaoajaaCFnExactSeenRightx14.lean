import Derived.Test.YtbmjmaahcaoajaaCFnExactSeenRightx0
import Derived.Test.YtbmjmaahcaoajaaCFnExactSeenRightx10
import Derived.Test.YtbmjmaahcaoajaaCFnExactSeenRightx13
namespace Go.Proofs.Ytbmjmaahcaoajaa.QFnExactSeenRight
open Go.RowKit Go.Proofs.YtbmjmaahcaoajaaW
open PrintWords PrintLast PrintMore PrintShort
attribute [local go_sem] max2_int min2_int max_two min_two max_three min_three max_four min_four   -- for this text's walks alone
set_option linter.unusedVariables false
set_option maxHeartbeats 8000000
set_option maxRecDepth 100000
set_option linter.unusedSimpArgs false

def impl_prog_isJz.f (l0_0 : List (S100)) (l0_1 : List (List Int)) (a1 : Int) (a2 : Int) : Option (Bool) := (impl_hasFunc.f l0_0 a1).bind fun t361 => (if t361 = true then (if a2 ≥ 0 then ((impl_prog_code.f l0_0 l0_1 a1).bind fun t362 => (if a2 < (t362.length : Int) then ((impl_prog_at.f l0_0 l0_1 a1 a2).bind fun bt365 => (some (bt365.1 == 31))) else (some false))) else (some false)) else (some false))
theorem impl_prog_isJz.calls (g0_ : Nat) (A0_0 : Option Addr) (c0_0 : Nat) (l0_0 : List (S100)) (A0_1 : Option Addr) (c0_1 : Nat) (l0_1 : List (List Int)) (a1 : Int) (a2 : Int) (r : Bool) (w : World) (hp0 : w.heap[g0_]? = some (.cells #[.slice A0_0 l0_0.length c0_0, .slice A0_1 l0_1.length c0_1] 92 (0, 0))) (hr0_0 : Kd.C k100 w A0_0 l0_0.length l0_0) (hc0_0 : l0_0.length ≤ c0_0) (hr0_1 : Kd.C (Kd.slice 2 (Kd.int .i64)) w A0_1 l0_1.length l0_1) (hc0_1 : l0_1.length ≤ c0_1) (h : impl_prog_isJz.f l0_0 l0_1 a1 a2 = some r) :
  Calls Try.prog 79 #[.pointer (some ⟨g0_, 0, none⟩), .int .i64 a1, .int .i64 a2] w fun e w' => e = .returned (.bool r) ∧ Below w.heap.size w w' := by
 have hu30 := Try.underlying30
 have hu102 := Try.underlying102
 have hfd102_0 : ∀ (v0_ v1_ : Value) (W : World), (Instr.field 102 (.agg #[v0_, v1_]) 0).run Try.prog W = .ok (v0_) W := fun v0_ v1_ W => by kernel_rfl
 have HP0_ := am hp0
 clear hp0
 have HR0_0 := am hr0_0
 have HC0_0 := am hc0_0
 clear hr0_0 hc0_0
 have HR0_1 := am hr0_1
 have HC0_1 := am hc0_1
 clear hr0_1 hc0_1
 have HB := am (Below.refl w.heap.size w)
 have H : ((impl_hasFunc.f l0_0 a1).bind fun t361 => (if t361 = true then (if a2 ≥ 0 then ((impl_prog_code.f l0_0 l0_1 a1).bind fun t362 => (if a2 < (t362.length : Int) then ((impl_prog_at.f l0_0 l0_1 a1 a2).bind fun bt365 => (some (bt365.1 == 31))) else (some false))) else (some false)) else (some false))) = some r := h
 clear h
 refine be H ?_; clear H; intro t361 A4 H
 refine qT H ?_ ?_ <;> clear H <;> intro c5 H <;> subst c5
 ·refine qL H ?_ ?_ <;> clear H <;> intro c6b0 H
  ·refine be H ?_; clear H; intro t362 A7 H
   refine qI H ?_ ?_ <;> clear H <;> intro c8b0 H
   ·replace H := Option.bind_eq_some_iff.mp H
    obtain ⟨⟨t365, t366⟩, A90, H⟩ := H
    replace H : (some (t365 == 31)) = some r := H
    have A9 := am A90
    clear A90
    obtain rfl := Option.some.inj H
    have hcz10 := bK w HP0_
    have hfz10 := bF HP0_
    go_enter Try.func79, Try.ntmps79
    go_wp2_with (first | ((with_reducible refine gk 121 rfl ?_); refine gB 121 (some 12) Try.func121 #[.agg #[.slice A0_0 l0_0.length c0_0], .int .i64 a1] (impl_hasFunc.calls _ _ l0_0 a1 true _ (by repeat (first | exact HR0_0.out | (with_reducible refine Kd.C_alloc ?_ _) | (with_reducible refine Kd.C_drewN ?_ _) | (with_reducible refine Kd.C_drew ?_))) HC0_0.out A4.out) ?_; intro w11 hb; replace HP0_ := bb HP0_ hb; replace HB := bs HB hb; clear hb) | (go_at_call 127; refine (impl_prog_code.calls g0_ (fun k_ => k_ < w.heap.size) A0_0 c0_0 l0_0 A0_1 c0_1 l0_1 a1 t362 _ (bp HP0_) (Kd.V_mk HC0_0.out (Kd.F_below (Kd.C_F k100_heap HR0_0.out) (bw HB))) (cc (Kd.C_below HR0_1.out HB.out)) HC0_1.out A7.out).mono ?_; rintro e w12 ⟨v363, rfl, ho0, hb⟩; have HO364 := am (Kd.V_lower (Kd.V_mono (ok' := fun k_ => True) ho0 (fun k_ hk_ => trivial)) (below_size (bw HB))); replace HP0_ := bb HP0_ hb; replace HB := bs HB hb; clear hb; (try clear ho0); obtain ⟨Ao13, co13, eo13⟩ := Kd.V_slice HO364.out; subst eo13; (try clear HO364)) | (go_at_call 141; refine (impl_prog_at.calls g0_ A0_0 c0_0 l0_0 A0_1 c0_1 l0_1 a1 a2 t365 t366 _ (bp HP0_) (cc (Kd.C_below HR0_0.out HB.out)) HC0_0.out (cc (Kd.C_below HR0_1.out HB.out)) HC0_1.out A9.out).mono ?_; rintro e w14 ⟨rfl, hb⟩; replace HP0_ := bb HP0_ hb; replace HB := bs HB hb; clear hb))
    go_ret
    exact ⟨er, bw HB⟩
   obtain rfl := Option.some.inj H
   have hcz15 := bK w HP0_
   have hfz15 := bF HP0_
   go_enter Try.func79, Try.ntmps79
   go_wp2_with (first | ((with_reducible refine gk 121 rfl ?_); refine gB 121 (some 12) Try.func121 #[.agg #[.slice A0_0 l0_0.length c0_0], .int .i64 a1] (impl_hasFunc.calls _ _ l0_0 a1 true _ (by repeat (first | exact HR0_0.out | (with_reducible refine Kd.C_alloc ?_ _) | (with_reducible refine Kd.C_drewN ?_ _) | (with_reducible refine Kd.C_drew ?_))) HC0_0.out A4.out) ?_; intro w16 hb; replace HP0_ := bb HP0_ hb; replace HB := bs HB hb; clear hb) | (go_at_call 127; refine (impl_prog_code.calls g0_ (fun k_ => k_ < w.heap.size) A0_0 c0_0 l0_0 A0_1 c0_1 l0_1 a1 t362 _ (bp HP0_) (Kd.V_mk HC0_0.out (Kd.F_below (Kd.C_F k100_heap HR0_0.out) (bw HB))) (cc (Kd.C_below HR0_1.out HB.out)) HC0_1.out A7.out).mono ?_; rintro e w17 ⟨v363, rfl, ho0, hb⟩; have HO364 := am (Kd.V_lower (Kd.V_mono (ok' := fun k_ => True) ho0 (fun k_ hk_ => trivial)) (below_size (bw HB))); replace HP0_ := bb HP0_ hb; replace HB := bs HB hb; clear hb; (try clear ho0); obtain ⟨Ao18, co18, eo18⟩ := Kd.V_slice HO364.out; subst eo18))
   go_ret
   exact ⟨er, bw HB⟩
  obtain rfl := Option.some.inj H
  have hcz19 := bK w HP0_
  have hfz19 := bF HP0_
  go_enter Try.func79, Try.ntmps79
  go_wp2_with (first | ((with_reducible refine gk 121 rfl ?_); refine gB 121 (some 12) Try.func121 #[.agg #[.slice A0_0 l0_0.length c0_0], .int .i64 a1] (impl_hasFunc.calls _ _ l0_0 a1 true _ (by repeat (first | exact HR0_0.out | (with_reducible refine Kd.C_alloc ?_ _) | (with_reducible refine Kd.C_drewN ?_ _) | (with_reducible refine Kd.C_drew ?_))) HC0_0.out A4.out) ?_; intro w20 hb; replace HP0_ := bb HP0_ hb; replace HB := bs HB hb; clear hb))
  go_ret
  exact ⟨er, bw HB⟩
 obtain rfl := Option.some.inj H
 have hcz21 := bK w HP0_
 have hfz21 := bF HP0_
 go_enter Try.func79, Try.ntmps79
 go_wp2_with (first | ((with_reducible refine gk 121 rfl ?_); refine gB 121 (some 12) Try.func121 #[.agg #[.slice A0_0 l0_0.length c0_0], .int .i64 a1] (impl_hasFunc.calls _ _ l0_0 a1 false _ (by repeat (first | exact HR0_0.out | (with_reducible refine Kd.C_alloc ?_ _) | (with_reducible refine Kd.C_drewN ?_ _) | (with_reducible refine Kd.C_drew ?_))) HC0_0.out A4.out) ?_; intro w22 hb; replace HP0_ := bb HP0_ hb; replace HB := bs HB hb; clear hb))
 go_ret
 exact ⟨er, bw HB⟩

def impl_bySpot.f (a0_0 : Int) (a0_1 : Int) (a0_2 : Int) (a0_3 : Int) (a1_0 : Int) (a1_1 : Int) (a1_2 : Int) (a1_3 : Int) : Option (Int) := if a0_0 = a1_0 then (if a0_1 < a1_1 then (some (-1)) else (if a0_1 > a1_1 then (some 1) else (some 0))) else (if a0_0 < a1_0 then (some (-1)) else (some 1))
theorem impl_bySpot.calls (a0_0 : Int) (a0_1 : Int) (a0_2 : Int) (a0_3 : Int) (a1_0 : Int) (a1_1 : Int) (a1_2 : Int) (a1_3 : Int) (r : Int) (w : World) (h : impl_bySpot.f a0_0 a0_1 a0_2 a0_3 a1_0 a1_1 a1_2 a1_3 = some r) :
  Calls Try.prog 128 #[.agg #[.int .i64 a0_0, .int .i64 a0_1, .int .i64 a0_2, .int .i64 a0_3], .agg #[.int .i64 a1_0, .int .i64 a1_1, .int .i64 a1_2, .int .i64 a1_3]] w fun e w' => e = .returned (.int .i64 r) ∧ Below w.heap.size w w' := by
 have hu108 := Try.underlying108
 have HB := am (Below.refl w.heap.size w)
 have H : (if a0_0 = a1_0 then (if a0_1 < a1_1 then (some (-1)) else (if a0_1 > a1_1 then (some 1) else (some 0))) else (if a0_0 < a1_0 then (some (-1)) else (some 1))) = some r := h
 clear h
 refine qE H ?_ ?_ <;> clear H
 ·intro c3b0 c3b1 H
  refine qI H ?_ ?_ <;> clear H <;> intro c4b0 H
  ·obtain rfl := Option.some.inj H
   go_enter Try.func128, Try.ntmps128
   go_wp2_with (first | ((with_reducible refine gd 2 rfl ?_); refine bX 2 #[.int .i64 a0_0, .int .i64 a0_1, .int .i64 a0_2, .int .i64 a0_3] 108 HB ?_; clear HB; intro gb367 w5 hg hb BK367 GW367 HB; clear hb hg) | ((with_reducible refine gd 3 rfl ?_); refine bX 3 #[.int .i64 a1_0, .int .i64 a1_1, .int .i64 a1_2, .int .i64 a1_3] 108 HB ?_; clear HB; intro gb368 w6 hg hb BK368 GW368 HB; obtain ⟨NB367_368, NB368_367, BK367⟩ := b3 hg BK367 hb; clear hb hg; have hnb7 := NB367_368.out; have hnc7 := NB368_367.out; have hcz8 := bK w6 BK367; have hfz8 := bF BK367; have hcz9 := bK w6 BK368; have hfz9 := bF BK368))
   go_ret
   exact ⟨er, bw HB⟩
  refine qG H ?_ ?_ <;> clear H <;> intro c10b0 H
  ·obtain rfl := Option.some.inj H
   go_enter Try.func128, Try.ntmps128
   go_wp2_with (first | ((with_reducible refine gd 2 rfl ?_); refine bX 2 #[.int .i64 a0_0, .int .i64 a0_1, .int .i64 a0_2, .int .i64 a0_3] 108 HB ?_; clear HB; intro gb367 w11 hg hb BK367 GW367 HB; clear hb hg) | ((with_reducible refine gd 3 rfl ?_); refine bX 3 #[.int .i64 a1_0, .int .i64 a1_1, .int .i64 a1_2, .int .i64 a1_3] 108 HB ?_; clear HB; intro gb368 w12 hg hb BK368 GW368 HB; obtain ⟨NB367_368, NB368_367, BK367⟩ := b3 hg BK367 hb; clear hb hg; have hnb13 := NB367_368.out; have hnc13 := NB368_367.out; have hcz14 := bK w12 BK367; have hfz14 := bF BK367; have hcz15 := bK w12 BK368; have hfz15 := bF BK368))
   go_ret
   exact ⟨er, bw HB⟩
  obtain rfl := Option.some.inj H
  go_enter Try.func128, Try.ntmps128
  go_wp2_with (first | ((with_reducible refine gd 2 rfl ?_); refine bX 2 #[.int .i64 a0_0, .int .i64 a0_1, .int .i64 a0_2, .int .i64 a0_3] 108 HB ?_; clear HB; intro gb367 w16 hg hb BK367 GW367 HB; clear hb hg) | ((with_reducible refine gd 3 rfl ?_); refine bX 3 #[.int .i64 a1_0, .int .i64 a1_1, .int .i64 a1_2, .int .i64 a1_3] 108 HB ?_; clear HB; intro gb368 w17 hg hb BK368 GW368 HB; obtain ⟨NB367_368, NB368_367, BK367⟩ := b3 hg BK367 hb; clear hb hg; have hnb18 := NB367_368.out; have hnc18 := NB368_367.out; have hcz19 := bK w17 BK367; have hfz19 := bF BK367; have hcz20 := bK w17 BK368; have hfz20 := bF BK368))
  go_ret
  exact ⟨er, bw HB⟩
 intro c3 c3b0 c3b1 H
 refine qI H ?_ ?_ <;> clear H <;> intro c21b0 H
 ·obtain rfl := Option.some.inj H
  go_enter Try.func128, Try.ntmps128
  go_wp2_with (first | ((with_reducible refine gd 2 rfl ?_); refine bX 2 #[.int .i64 a0_0, .int .i64 a0_1, .int .i64 a0_2, .int .i64 a0_3] 108 HB ?_; clear HB; intro gb367 w22 hg hb BK367 GW367 HB; clear hb hg) | ((with_reducible refine gd 3 rfl ?_); refine bX 3 #[.int .i64 a1_0, .int .i64 a1_1, .int .i64 a1_2, .int .i64 a1_3] 108 HB ?_; clear HB; intro gb368 w23 hg hb BK368 GW368 HB; obtain ⟨NB367_368, NB368_367, BK367⟩ := b3 hg BK367 hb; clear hb hg; have hnb24 := NB367_368.out; have hnc24 := NB368_367.out; have hcz25 := bK w23 BK367; have hfz25 := bF BK367; have hcz26 := bK w23 BK368; have hfz26 := bF BK368))
  go_ret
  exact ⟨er, bw HB⟩
 obtain rfl := Option.some.inj H
 go_enter Try.func128, Try.ntmps128
 go_wp2_with (first | ((with_reducible refine gd 2 rfl ?_); refine bX 2 #[.int .i64 a0_0, .int .i64 a0_1, .int .i64 a0_2, .int .i64 a0_3] 108 HB ?_; clear HB; intro gb367 w27 hg hb BK367 GW367 HB; clear hb hg) | ((with_reducible refine gd 3 rfl ?_); refine bX 3 #[.int .i64 a1_0, .int .i64 a1_1, .int .i64 a1_2, .int .i64 a1_3] 108 HB ?_; clear HB; intro gb368 w28 hg hb BK368 GW368 HB; obtain ⟨NB367_368, NB368_367, BK367⟩ := b3 hg BK367 hb; clear hb hg; have hnb29 := NB367_368.out; have hnc29 := NB368_367.out; have hcz30 := bK w28 BK367; have hfz30 := bF BK367; have hcz31 := bK w28 BK368; have hfz31 := bF BK368))
 go_ret
 exact ⟨er, bw HB⟩

end Go.Proofs.Ytbmjmaahcaoajaa.QFnExactSeenRight
