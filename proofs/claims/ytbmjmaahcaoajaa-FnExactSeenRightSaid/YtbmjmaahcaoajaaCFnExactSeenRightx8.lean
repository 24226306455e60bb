import Derived.Test.YtbmjmaahcaoajaaCFnExactSeenRightx0
namespace Go.Proofs.Ytbmjmaahcaoajaa.QFnExactSeenRight
open Go.RowKit Go.Proofs.YtbmjmaahcaoajaaW
open PrintWords PrintLast PrintMore PrintShort
attribute [local go_sem] max2_int min2_int max_two min_two max_three min_three max_four min_four   -- for this text's walks alone
set_option linter.unusedVariables false
set_option maxHeartbeats 8000000
set_option maxRecDepth 100000
set_option linter.unusedSimpArgs false

def spec_l07Jz.f (l0_0 : List (S100)) (a1 : Int) (a2 : Int) : Option (Bool) := if a1 ≥ 0 then (if a1 < (l0_0.length : Int) then (if a2 ≥ 0 then (if 0 ≤ a1 then (if a2 < (((rd_T100 l0_0 a1).f2).length : Int) then (if 0 ≤ a2 then (some (((rd_T102 ((rd_T100 l0_0 a1).f2) a2).f0) == 31)) else (none)) else (some false)) else (none)) else (some false)) else (some false)) else (some false)
theorem spec_l07Jz.calls (A0_0 : Option Addr) (c0_0 : Nat) (l0_0 : List (S100)) (a1 : Int) (a2 : Int) (r : Bool) (w : World) (hr0_0 : Kd.C k100 w A0_0 l0_0.length l0_0) (hc0_0 : l0_0.length ≤ c0_0) (h : spec_l07Jz.f l0_0 a1 a2 = some r) :
  Calls Try.prog 70 #[.agg #[.slice A0_0 l0_0.length c0_0], .int .i64 a1, .int .i64 a2] w fun e w' => e = .returned (.bool r) ∧ Below w.heap.size w w' := by
 have hu30 := Try.underlying30
 have HR0_0 := am hr0_0
 have HC0_0 := am hc0_0
 clear hr0_0 hc0_0
 have HB := am (Below.refl w.heap.size w)
 have H : (if a1 ≥ 0 then (if a1 < (l0_0.length : Int) then (if a2 ≥ 0 then (if 0 ≤ a1 then (if a2 < (((rd_T100 l0_0 a1).f2).length : Int) then (if 0 ≤ a2 then (some (((rd_T102 ((rd_T100 l0_0 a1).f2) a2).f0) == 31)) else (none)) else (some false)) else (none)) else (some false)) else (some false)) else (some false)) = some r := h
 clear h
 refine qL H ?_ ?_ <;> clear H <;> intro c4b0 H
 ·refine qI H ?_ ?_ <;> clear H <;> intro c5b0 H
  ·refine qL H ?_ ?_ <;> clear H <;> intro c6b0 H
   ·refine iM H ?_; clear H; intro c7b0 H
    refine qI H ?_ ?_ <;> clear H <;> intro c8b0 H
    ·refine iM H ?_; clear H; intro c9b0 H
     obtain rfl := Option.some.inj H
     go_enter Try.func70, Try.ntmps70
     go_wp2_with (first | ((with_reducible refine gate_dst (N := 3) rfl ?_); (try (refine gate_guard (by rfl) ?_; dsimp only)); refine box_event ?hg (N := 3) ?hd (cs := #[.slice A0_0 l0_0.length c0_0]) (t := 30) ?hr ?_; (case hd => rfl); (case hg => rfl); (case hr => exact gs); intro gb239 hg w10 hbox hb; have BK239 := am (hbox); have GW239 := gw hg HB; replace HB := bs HB hb; clear hb hbox hg; have hcz11 := bK w10 BK239; have hfz11 := bF BK239; have p240 : 0 ≤ (a1 : Int) := of_decide_eq_true as1; have q240 : a1 < (l0_0.length : Int) := of_decide_eq_true as1; obtain ⟨ad240, A240_2, c240_2, e240, hx240_0, hx240_1, hx240_2, hl240_2, hi240_2⟩ := at_T100 HR0_0.out a1 p240 q240; cases e240; replace hx240_0 := cl HB hx240_0; replace hx240_1 := cl HB hx240_1; replace hx240_2 := cl HB hx240_2; have HR240_2 := am hi240_2; have HC240_2 := am hl240_2; clear hi240_2 hl240_2; replace p240 := eq_true p240; replace q240 := eq_true q240; have p241 : 0 ≤ (a1 : Int) := of_decide_eq_true as1; have q241 : a1 < (l0_0.length : Int) := of_decide_eq_true as1; obtain ⟨ad241, A241_2, c241_2, e241, hx241_0, hx241_1, hx241_2, hl241_2, hi241_2⟩ := at_T100 HR0_0.out a1 p241 q241; obtain rfl : ad240 = ad241 := (by injection e241); replace hx241_0 := cl HB hx241_0; replace hx241_1 := cl HB hx241_1; replace hx241_2 := cl HB hx241_2; have HR241_2 := am hi241_2; have HC241_2 := am hl241_2; clear hi241_2 hl241_2; replace p241 := eq_true p241; replace q241 := eq_true q241; have ea_ := Option.some.inj (hx240_2.symm.trans hx241_2); injection ea_ with ea_ en_ ec_; subst ea_; subst ec_; clear en_; have p242 : 0 ≤ (a2 : Int) := of_decide_eq_true as1; have q242 : a2 < (((rd_T100 l0_0 a1).f2).length : Int) := of_decide_eq_true as1; obtain ⟨ad242, e242, hx242_0, hx242_1⟩ := at_T102 HR241_2.out a2 p242 q242; cases e242; replace hx242_0 := cl HB hx242_0; replace hx242_1 := cl HB hx242_1; replace p242 := eq_true p242; replace q242 := eq_true q242))
     go_ret
     exact ⟨er, bw HB⟩
    obtain rfl := Option.some.inj H
    go_enter Try.func70, Try.ntmps70
    go_wp2_with (first | ((with_reducible refine gate_dst (N := 3) rfl ?_); (try (refine gate_guard (by rfl) ?_; dsimp only)); refine box_event ?hg (N := 3) ?hd (cs := #[.slice A0_0 l0_0.length c0_0]) (t := 30) ?hr ?_; (case hd => rfl); (case hg => rfl); (case hr => exact gs); intro gb239 hg w12 hbox hb; have BK239 := am (hbox); have GW239 := gw hg HB; replace HB := bs HB hb; clear hb hbox hg; have hcz13 := bK w12 BK239; have hfz13 := bF BK239; have p240 : 0 ≤ (a1 : Int) := of_decide_eq_true as1; have q240 : a1 < (l0_0.length : Int) := of_decide_eq_true as1; obtain ⟨ad240, A240_2, c240_2, e240, hx240_0, hx240_1, hx240_2, hl240_2, hi240_2⟩ := at_T100 HR0_0.out a1 p240 q240; cases e240; replace hx240_0 := cl HB hx240_0; replace hx240_1 := cl HB hx240_1; replace hx240_2 := cl HB hx240_2; have HR240_2 := am hi240_2; have HC240_2 := am hl240_2; clear hi240_2 hl240_2; replace p240 := eq_true p240; replace q240 := eq_true q240))
    go_ret
    exact ⟨er, bw HB⟩
   obtain rfl := Option.some.inj H
   go_enter Try.func70, Try.ntmps70
   go_wp2_with (first | ((with_reducible refine gate_dst (N := 3) rfl ?_); (try (refine gate_guard (by rfl) ?_; dsimp only)); refine box_event ?hg (N := 3) ?hd (cs := #[.slice A0_0 l0_0.length c0_0]) (t := 30) ?hr ?_; (case hd => rfl); (case hg => rfl); (case hr => exact gs); intro gb239 hg w14 hbox hb; have BK239 := am (hbox); have GW239 := gw hg HB; replace HB := bs HB hb; clear hb hbox hg; have hcz15 := bK w14 BK239; have hfz15 := bF BK239))
   go_ret
   exact ⟨er, bw HB⟩
  obtain rfl := Option.some.inj H
  go_enter Try.func70, Try.ntmps70
  go_wp2_with (first | ((with_reducible refine gate_dst (N := 3) rfl ?_); (try (refine gate_guard (by rfl) ?_; dsimp only)); refine box_event ?hg (N := 3) ?hd (cs := #[.slice A0_0 l0_0.length c0_0]) (t := 30) ?hr ?_; (case hd => rfl); (case hg => rfl); (case hr => exact gs); intro gb239 hg w16 hbox hb; have BK239 := am (hbox); have GW239 := gw hg HB; replace HB := bs HB hb; clear hb hbox hg; have hcz17 := bK w16 BK239; have hfz17 := bF BK239))
  go_ret
  exact ⟨er, bw HB⟩
 obtain rfl := Option.some.inj H
 go_enter Try.func70, Try.ntmps70
 go_wp2_with (first | ((with_reducible refine gate_dst (N := 3) rfl ?_); (try (refine gate_guard (by rfl) ?_; dsimp only)); refine box_event ?hg (N := 3) ?hd (cs := #[.slice A0_0 l0_0.length c0_0]) (t := 30) ?hr ?_; (case hd => rfl); (case hg => rfl); (case hr => exact gs); intro gb239 hg w18 hbox hb; have BK239 := am (hbox); have GW239 := gw hg HB; replace HB := bs HB hb; clear hb hbox hg))
 go_ret
 exact ⟨er, bw HB⟩

def spec_l07Less.f (a0_0 : Int) (a0_1 : Int) (a0_2 : Int) (a0_3 : Int) (a1_0 : Int) (a1_1 : Int) (a1_2 : Int) (a1_3 : Int) : Option (Bool) := if a0_0 < a1_0 then (some true) else (if a0_0 = a1_0 then (some (decide (a0_1 < a1_1))) else (some false))
theorem spec_l07Less.calls (a0_0 : Int) (a0_1 : Int) (a0_2 : Int) (a0_3 : Int) (a1_0 : Int) (a1_1 : Int) (a1_2 : Int) (a1_3 : Int) (r : Bool) (w : World) (h : spec_l07Less.f a0_0 a0_1 a0_2 a0_3 a1_0 a1_1 a1_2 a1_3 = some r) :
  Calls Try.prog 71 #[.agg #[.int .i64 a0_0, .int .i64 a0_1, .int .i64 a0_2, .int .i64 a0_3], .agg #[.int .i64 a1_0, .int .i64 a1_1, .int .i64 a1_2, .int .i64 a1_3]] w fun e w' => e = .returned (.bool r) ∧ Below w.heap.size w w' := by
 have hu108 := Try.underlying108
 have HB := am (Below.refl w.heap.size w)
 have H : (if a0_0 < a1_0 then (some true) else (if a0_0 = a1_0 then (some (decide (a0_1 < a1_1))) else (some false))) = some r := h
 clear h
 refine qI H ?_ ?_ <;> clear H <;> intro c3b0 H
 ·obtain rfl := Option.some.inj H
  go_enter Try.func71, Try.ntmps71
  go_wp2_with (first | ((with_reducible refine gd 2 rfl ?_); refine bX 2 #[.int .i64 a0_0, .int .i64 a0_1, .int .i64 a0_2, .int .i64 a0_3] 108 HB ?_; clear HB; intro gb243 w4 hg hb BK243 GW243 HB; clear hb hg) | ((with_reducible refine gd 3 rfl ?_); refine bX 3 #[.int .i64 a1_0, .int .i64 a1_1, .int .i64 a1_2, .int .i64 a1_3] 108 HB ?_; clear HB; intro gb244 w5 hg hb BK244 GW244 HB; obtain ⟨NB243_244, NB244_243, BK243⟩ := b3 hg BK243 hb; clear hb hg; have hnb6 := NB243_244.out; have hnc6 := NB244_243.out; have hcz7 := bK w5 BK243; have hfz7 := bF BK243; have hcz8 := bK w5 BK244; have hfz8 := bF BK244))
  go_ret
  exact ⟨er, bw HB⟩
 refine qE H ?_ ?_ <;> clear H
 ·intro c9b0 c9b1 H
  obtain rfl := Option.some.inj H
  go_enter Try.func71, Try.ntmps71
  go_wp2_with (first | ((with_reducible refine gd 2 rfl ?_); refine bX 2 #[.int .i64 a0_0, .int .i64 a0_1, .int .i64 a0_2, .int .i64 a0_3] 108 HB ?_; clear HB; intro gb243 w10 hg hb BK243 GW243 HB; clear hb hg) | ((with_reducible refine gd 3 rfl ?_); refine bX 3 #[.int .i64 a1_0, .int .i64 a1_1, .int .i64 a1_2, .int .i64 a1_3] 108 HB ?_; clear HB; intro gb244 w11 hg hb BK244 GW244 HB; obtain ⟨NB243_244, NB244_243, BK243⟩ := b3 hg BK243 hb; clear hb hg; have hnb12 := NB243_244.out; have hnc12 := NB244_243.out; have hcz13 := bK w11 BK243; have hfz13 := bF BK243; have hcz14 := bK w11 BK244; have hfz14 := bF BK244))
  go_ret
  exact ⟨er, bw HB⟩
 intro c9 c9b0 c9b1 H
 obtain rfl := Option.some.inj H
 go_enter Try.func71, Try.ntmps71
 go_wp2_with (first | ((with_reducible refine gd 2 rfl ?_); refine bX 2 #[.int .i64 a0_0, .int .i64 a0_1, .int .i64 a0_2, .int .i64 a0_3] 108 HB ?_; clear HB; intro gb243 w15 hg hb BK243 GW243 HB; clear hb hg) | ((with_reducible refine gd 3 rfl ?_); refine bX 3 #[.int .i64 a1_0, .int .i64 a1_1, .int .i64 a1_2, .int .i64 a1_3] 108 HB ?_; clear HB; intro gb244 w16 hg hb BK244 GW244 HB; obtain ⟨NB243_244, NB244_243, BK243⟩ := b3 hg BK243 hb; clear hb hg; have hnb17 := NB243_244.out; have hnc17 := NB244_243.out; have hcz18 := bK w16 BK243; have hfz18 := bF BK243; have hcz19 := bK w16 BK244; have hfz19 := bF BK244))
 go_ret
 exact ⟨er, bw HB⟩

end Go.Proofs.Ytbmjmaahcaoajaa.QFnExactSeenRight
