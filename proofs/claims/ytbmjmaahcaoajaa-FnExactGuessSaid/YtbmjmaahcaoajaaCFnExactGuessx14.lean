import Derived.Test.YtbmjmaahcaoajaaCFnExactGuessx0
import Derived.Test.YtbmjmaahcaoajaaCFnExactGuessx9
import Derived.Test.YtbmjmaahcaoajaaCFnExactGuessx13
namespace Go.Proofs.Ytbmjmaahcaoajaa.QFnExactGuess
open Go.RowKit Go.Proofs.YtbmjmaahcaoajaaW
open PrintWords PrintLast PrintMore PrintShort PrintIsh
attribute [local go_sem] max2_int min2_int max_two min_two max_three min_three max_four min_four   -- for this text's walks alone
set_option linter.unusedVariables false
set_option maxHeartbeats 8000000
set_option maxRecDepth 100000
set_option linter.unusedSimpArgs false

def impl_prog_isJz.f (l0_0 : List (S100)) (l0_1 : List (List Int)) (a1 : Int) (a2 : Int) : Option (Bool) := (impl_hasFunc.f l0_0 a1).bind fun t376 => (if t376 = true then (if a2 ≥ 0 then ((impl_prog_code.f l0_0 l0_1 a1).bind fun t377 => (if a2 < (t377.length : Int) then ((impl_prog_at.f l0_0 l0_1 a1 a2).bind fun bt380 => (some (bt380.1 == 31))) else (some false))) else (some false)) else (some false))
theorem impl_prog_isJz.calls (g0_ : Nat) (A0_0 : Option Addr) (c0_0 : Nat) (l0_0 : List (S100)) (A0_1 : Option Addr) (c0_1 : Nat) (l0_1 : List (List Int)) (a1 : Int) (a2 : Int) (r : Bool) (w : World) (hp0 : w.heap[g0_]? = some (.cells #[.slice A0_0 l0_0.length c0_0, .slice A0_1 l0_1.length c0_1] 92 (0, 0))) (hr0_0 : Kd.C k100 w A0_0 l0_0.length l0_0) (hc0_0 : l0_0.length ≤ c0_0) (hr0_1 : Kd.C (Kd.slice 2 (Kd.int .i64)) w A0_1 l0_1.length l0_1) (hc0_1 : l0_1.length ≤ c0_1) (h : impl_prog_isJz.f l0_0 l0_1 a1 a2 = some r) :
  Calls Try.prog 79 #[.pointer (some ⟨g0_, 0, none⟩), .int .i64 a1, .int .i64 a2] w fun e w' => e = .returned (.bool r) ∧ Below w.heap.size w w' := by
 have hu30 := Try.underlying30
 have hu102 := Try.underlying102
 have hfd102_0 : ∀ (v0_ v1_ : Value) (W : World), (Instr.field 102 (.agg #[v0_, v1_]) 0).run Try.prog W = .ok (v0_) W := fun v0_ v1_ W => by kernel_rfl
 have HP0_ := am hp0
 clear hp0
 have HR0_0 := am hr0_0
 have HC0_0 := am hc0_0
 clear hr0_0 hc0_0
 have HR0_1 := am hr0_1
 have HC0_1 := am hc0_1
 clear hr0_1 hc0_1
 have HB := am (Below.refl w.heap.size w)
 have H : ((impl_hasFunc.f l0_0 a1).bind fun t376 => (if t376 = true then (if a2 ≥ 0 then ((impl_prog_code.f l0_0 l0_1 a1).bind fun t377 => (if a2 < (t377.length : Int) then ((impl_prog_at.f l0_0 l0_1 a1 a2).bind fun bt380 => (some (bt380.1 == 31))) else (some false))) else (some false)) else (some false))) = some r := h
 clear h
 refine be H ?_; clear H; intro t376 A4 H
 refine qT H ?_ ?_ <;> clear H <;> intro c5 H <;> subst c5
 ·refine qL H ?_ ?_ <;> clear H <;> intro c6b0 H
  ·refine be H ?_; clear H; intro t377 A7 H
   refine qI H ?_ ?_ <;> clear H <;> intro c8b0 H
   ·replace H := Option.bind_eq_some_iff.mp H
    obtain ⟨⟨t380, t381⟩, A90, H⟩ := H
    replace H : (some (t380 == 31)) = some r := H
    have A9 := am A90
    clear A90
    obtain rfl := Option.some.inj H
    have hcz10 := bK w HP0_
    have hfz10 := bF HP0_
    go_enter Try.func79, Try.ntmps79
    go_wp2_with (first | ((with_reducible refine gk 121 rfl ?_); refine gB 121 (some 12) Try.func121 #[.agg #[.slice A0_0 l0_0.length c0_0], .int .i64 a1] (impl_hasFunc.calls _ _ l0_0 a1 true _ (by repeat (first | exact HR0_0.out | (with_reducible refine Kd.C_alloc ?_ _) | (with_reducible refine Kd.C_drewN ?_ _) | (with_reducible refine Kd.C_drew ?_))) HC0_0.out A4.out) ?_; intro w11 hb; replace HP0_ := bb HP0_ hb; replace HB := bs HB hb; clear hb) | (go_at_call 127; refine (impl_prog_code.calls g0_ (fun k_ => k_ < w.heap.size) A0_0 c0_0 l0_0 A0_1 c0_1 l0_1 a1 t377 _ (bp HP0_) (Kd.V_mk HC0_0.out (Kd.F_below (Kd.C_F k100_heap HR0_0.out) (bw HB))) (cc (Kd.C_below HR0_1.out HB.out)) HC0_1.out A7.out).mono ?_; rintro e w12 ⟨v378, rfl, ho0, hb⟩; have HO379 := am (Kd.V_lower (Kd.V_mono (ok' := fun k_ => True) ho0 (fun k_ hk_ => trivial)) (below_size (bw HB))); replace HP0_ := bb HP0_ hb; replace HB := bs HB hb; clear hb; (try clear ho0); obtain ⟨Ao13, co13, eo13⟩ := Kd.V_slice HO379.out; subst eo13; (try clear HO379)) | (go_at_call 141; refine (impl_prog_at.calls g0_ A0_0 c0_0 l0_0 A0_1 c0_1 l0_1 a1 a2 t380 t381 _ (bp HP0_) (cc (Kd.C_below HR0_0.out HB.out)) HC0_0.out (cc (Kd.C_below HR0_1.out HB.out)) HC0_1.out A9.out).mono ?_; rintro e w14 ⟨rfl, hb⟩; replace HP0_ := bb HP0_ hb; replace HB := bs HB hb; clear hb))
    go_ret
    exact ⟨er, bw HB⟩
   obtain rfl := Option.some.inj H
   have hcz15 := bK w HP0_
   have hfz15 := bF HP0_
   go_enter Try.func79, Try.ntmps79
   go_wp2_with (first | ((with_reducible refine gk 121 rfl ?_); refine gB 121 (some 12) Try.func121 #[.agg #[.slice A0_0 l0_0.length c0_0], .int .i64 a1] (impl_hasFunc.calls _ _ l0_0 a1 true _ (by repeat (first | exact HR0_0.out | (with_reducible refine Kd.C_alloc ?_ _) | (with_reducible refine Kd.C_drewN ?_ _) | (with_reducible refine Kd.C_drew ?_))) HC0_0.out A4.out) ?_; intro w16 hb; replace HP0_ := bb HP0_ hb; replace HB := bs HB hb; clear hb) | (go_at_call 127; refine (impl_prog_code.calls g0_ (fun k_ => k_ < w.heap.size) A0_0 c0_0 l0_0 A0_1 c0_1 l0_1 a1 t377 _ (bp HP0_) (Kd.V_mk HC0_0.out (Kd.F_below (Kd.C_F k100_heap HR0_0.out) (bw HB))) (cc (Kd.C_below HR0_1.out HB.out)) HC0_1.out A7.out).mono ?_; rintro e w17 ⟨v378, rfl, ho0, hb⟩; have HO379 := am (Kd.V_lower (Kd.V_mono (ok' := fun k_ => True) ho0 (fun k_ hk_ => trivial)) (below_size (bw HB))); replace HP0_ := bb HP0_ hb; replace HB := bs HB hb; clear hb; (try clear ho0); obtain ⟨Ao18, co18, eo18⟩ := Kd.V_slice HO379.out; subst eo18))
   go_ret
   exact ⟨er, bw HB⟩
  obtain rfl := Option.some.inj H
  have hcz19 := bK w HP0_
  have hfz19 := bF HP0_
  go_enter Try.func79, Try.ntmps79
  go_wp2_with (first | ((with_reducible refine gk 121 rfl ?_); refine gB 121 (some 12) Try.func121 #[.agg #[.slice A0_0 l0_0.length c0_0], .int .i64 a1] (impl_hasFunc.calls _ _ l0_0 a1 true _ (by repeat (first | exact HR0_0.out | (with_reducible refine Kd.C_alloc ?_ _) | (with_reducible refine Kd.C_drewN ?_ _) | (with_reducible refine Kd.C_drew ?_))) HC0_0.out A4.out) ?_; intro w20 hb; replace HP0_ := bb HP0_ hb; replace HB := bs HB hb; clear hb))
  go_ret
  exact ⟨er, bw HB⟩
 obtain rfl := Option.some.inj H
 have hcz21 := bK w HP0_
 have hfz21 := bF HP0_
 go_enter Try.func79, Try.ntmps79
 go_wp2_with (first | ((with_reducible refine gk 121 rfl ?_); refine gB 121 (some 12) Try.func121 #[.agg #[.slice A0_0 l0_0.length c0_0], .int .i64 a1] (impl_hasFunc.calls _ _ l0_0 a1 false _ (by repeat (first | exact HR0_0.out | (with_reducible refine Kd.C_alloc ?_ _) | (with_reducible refine Kd.C_drewN ?_ _) | (with_reducible refine Kd.C_drew ?_))) HC0_0.out A4.out) ?_; intro w22 hb; replace HP0_ := bb HP0_ hb; replace HB := bs HB hb; clear hb))
 go_ret
 exact ⟨er, bw HB⟩

def impl_bySpot.f (a0_0 : Int) (a0_1 : Int) (a0_2 : Int) (a0_3 : Int) (a1_0 : Int) (a1_1 : Int) (a1_2 : Int) (a1_3 : Int) : Option (Int) := if a0_0 = a1_0 then (if a0_1 < a1_1 then (some (-1)) else (if a0_1 > a1_1 then (some 1) else (some 0))) else (if a0_0 < a1_0 then (some (-1)) else (some 1))
theorem impl_bySpot.calls (a0_0 : Int) (a0_1 : Int) (a0_2 : Int) (a0_3 : Int) (a1_0 : Int) (a1_1 : Int) (a1_2 : Int) (a1_3 : Int) (r : Int) (w : World) (h : impl_bySpot.f a0_0 a0_1 a0_2 a0_3 a1_0 a1_1 a1_2 a1_3 = some r) :
  Calls Try.prog 128 #[.agg #[.int .i64 a0_0, .int .i64 a0_1, .int .i64 a0_2, .int .i64 a0_3], .agg #[.int .i64 a1_0, .int .i64 a1_1, .int .i64 a1_2, .int .i64 a1_3]] w fun e w' => e = .returned (.int .i64 r) ∧ Below w.heap.size w w' := by
 have hu108 := Try.underlying108
 have HB := am (Below.refl w.heap.size w)
 have H : (if a0_0 = a1_0 then (if a0_1 < a1_1 then (some (-1)) else (if a0_1 > a1_1 then (some 1) else (some 0))) else (if a0_0 < a1_0 then (some (-1)) else (some 1))) = some r := h
 clear h
 have HC3 := am H
 clear H
 go_enter Try.func128, Try.ntmps128
 go_upto_if 9 with (first | ((with_reducible refine gd 2 rfl ?_); refine bX 2 #[.int .i64 a0_0, .int .i64 a0_1, .int .i64 a0_2, .int .i64 a0_3] 108 HB ?_; clear HB; intro gb382 w4 hg hb BK382 GW382 HB; clear hb hg) | ((with_reducible refine gd 3 rfl ?_); refine bX 3 #[.int .i64 a1_0, .int .i64 a1_1, .int .i64 a1_2, .int .i64 a1_3] 108 HB ?_; clear HB; intro gb383 w5 hg hb BK383 GW383 HB; obtain ⟨NB382_383, NB383_382, BK382⟩ := b3 hg BK382 hb; clear hb hg; have hnb6 := NB382_383.out; have hnc6 := NB383_382.out; have hcz7 := bK w5 BK382; have hfz7 := bF BK382; have hcz8 := bK w5 BK383; have hfz8 := bF BK383))
 (try simp only [Act.put, sa, sz, ss])
 have H := HC3.out
 clear HC3
 refine qE H ?_ ?_ <;> clear H
 ·intro c9b0 c9b1 H
  (first | rw [c9b0] | (simp only [i64_w, i32_w]; rw [c9b0]) | skip)
  refine qI H ?_ ?_ <;> clear H <;> intro c10b0 H
  ·obtain rfl := Option.some.inj H
   have hnb11 := NB382_383.out
   have hnc11 := NB383_382.out
   have hcz12 := bK w5 BK382
   have hfz12 := bF BK382
   have hcz13 := bK w5 BK383
   have hfz13 := bF BK383
   go_wp2
   go_ret
   exact ⟨er, bw HB⟩
  refine qG H ?_ ?_ <;> clear H <;> intro c14b0 H
  ·obtain rfl := Option.some.inj H
   have hnb15 := NB382_383.out
   have hnc15 := NB383_382.out
   have hcz16 := bK w5 BK382
   have hfz16 := bF BK382
   have hcz17 := bK w5 BK383
   have hfz17 := bF BK383
   go_wp2
   go_ret
   exact ⟨er, bw HB⟩
  obtain rfl := Option.some.inj H
  have hnb18 := NB382_383.out
  have hnc18 := NB383_382.out
  have hcz19 := bK w5 BK382
  have hfz19 := bF BK382
  have hcz20 := bK w5 BK383
  have hfz20 := bF BK383
  go_wp2
  go_ret
  exact ⟨er, bw HB⟩
 intro c9 c9b0 c9b1 H
 (first | rw [c9b0] | (simp only [i64_w, i32_w]; rw [c9b0]) | skip)
 refine qI H ?_ ?_ <;> clear H <;> intro c21b0 H
 ·obtain rfl := Option.some.inj H
  have hnb22 := NB382_383.out
  have hnc22 := NB383_382.out
  have hcz23 := bK w5 BK382
  have hfz23 := bF BK382
  have hcz24 := bK w5 BK383
  have hfz24 := bF BK383
  go_wp2
  go_ret
  exact ⟨er, bw HB⟩
 obtain rfl := Option.some.inj H
 have hnb25 := NB382_383.out
 have hnc25 := NB383_382.out
 have hcz26 := bK w5 BK382
 have hfz26 := bF BK382
 have hcz27 := bK w5 BK383
 have hfz27 := bF BK383
 go_wp2
 go_ret
 exact ⟨er, bw HB⟩

end Go.Proofs.Ytbmjmaahcaoajaa.QFnExactGuess
