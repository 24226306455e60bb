import Derived.Test.YtmfhmfhkknijeaaCFnExactAsmRightx0
import Derived.Test.YtmfhmfhkknijeaaCFnExactAsmRightx7
namespace Go.Proofs.Ytmfhmfhkknijeaa.QFnExactAsmRight
open Go.RowKit Go.Proofs.YtmfhmfhkknijeaaW
open PrintWords PrintLast PrintMore PrintShort
attribute [local go_sem] max2_int min2_int max_two min_two max_three min_three max_four min_four   -- for this text's walks alone
set_option linter.unusedVariables false
set_option maxHeartbeats 8000000
set_option maxRecDepth 100000
set_option linter.unusedSimpArgs false

def spec_l10Val.f (a0_0 : Int) (a0_1 : Int) : Option (Bool) := if a0_0 = 0 then (some (a0_1 == 0)) else (if a0_0 = 1 then ((spec_l10Loc.f a0_1).bind fun t206 => (some t206)) else (some (a0_0 == 2)))
theorem spec_l10Val.calls (a0_0 : Int) (a0_1 : Int) (r : Bool) (w : World) (h : spec_l10Val.f a0_0 a0_1 = some r) :
  Calls Try.prog 18 #[.agg #[.int .i64 a0_0, .int .i64 a0_1]] w fun e w' => e = .returned (.bool r) ∧ Below w.heap.size w w' := by
 have hu63 := Try.underlying63
 have HB := am (Below.refl w.heap.size w)
 have H : (if a0_0 = 0 then (some (a0_1 == 0)) else (if a0_0 = 1 then ((spec_l10Loc.f a0_1).bind fun t206 => (some t206)) else (some (a0_0 == 2)))) = some r := h
 clear h
 have HC2 := am H
 clear H
 go_enter Try.func18, Try.ntmps18
 go_upto_if 5 with (first | ((with_reducible refine gd 1 rfl ?_); refine bX 1 #[.int .i64 a0_0, .int .i64 a0_1] 63 HB ?_; clear HB; intro gb205 w3 hg hb BK205 GW205 HB; clear hb hg; have hcz4 := bK w3 BK205; have hfz4 := bF BK205))
 (try simp only [Act.put, sa, sz, ss])
 have H := HC2.out
 clear HC2
 refine qE H ?_ ?_ <;> clear H
 ·intro c5b0 c5b1 H
  (first | rw [c5b0] | (simp only [i64_w, i32_w]; rw [c5b0]) | skip)
  obtain rfl := Option.some.inj H
  have hcz6 := bK w3 BK205
  have hfz6 := bF BK205
  go_wp2
  go_ret
  exact ⟨er, bw HB⟩
 intro c5 c5b0 c5b1 H
 (first | rw [c5b0] | (simp only [i64_w, i32_w]; rw [c5b0]) | skip)
 refine qE H ?_ ?_ <;> clear H
 ·intro c7b0 c7b1 H
  refine be H ?_; clear H; intro t206 A8 H
  obtain rfl := Option.some.inj H
  have hcz9 := bK w3 BK205
  have hfz9 := bF BK205
  go_wp2_with (first | ((with_reducible refine gate_callee (f := 34) rfl ?_); refine goesL_ (some 14) rfl rfl Try.func34 (by kernel_rfl) rfl #[.int .i64 a0_1] rfl gl ?_; (with_reducible refine (spec_l10Loc.calls a0_1 t206 _ A8.out).mono ?_); rintro e w' ⟨rfl, ⟨nd, rfl⟩⟩; refine ⟨_, rfl, ?_⟩))
  go_ret
  exact ⟨er, bw HB⟩
 intro c7 c7b0 c7b1 H
 obtain rfl := Option.some.inj H
 have hcz10 := bK w3 BK205
 have hfz10 := bF BK205
 go_wp2
 go_ret
 exact ⟨er, bw HB⟩

def spec_l10Some.f (a0_0 : Int) (a0_1 : Int) : Option (Bool) := (spec_l10Val.f a0_0 a0_1).bind fun t208 => (if t208 = true then (some (a0_0 != 0)) else (some false))
theorem spec_l10Some.calls (a0_0 : Int) (a0_1 : Int) (r : Bool) (w : World) (h : spec_l10Some.f a0_0 a0_1 = some r) :
  Calls Try.prog 35 #[.agg #[.int .i64 a0_0, .int .i64 a0_1]] w fun e w' => e = .returned (.bool r) ∧ Below w.heap.size w w' := by
 have hu63 := Try.underlying63
 have HB := am (Below.refl w.heap.size w)
 have H : ((spec_l10Val.f a0_0 a0_1).bind fun t208 => (if t208 = true then (some (a0_0 != 0)) else (some false))) = some r := h
 clear h
 refine be H ?_; clear H; intro t208 A2 H
 refine qT H ?_ ?_ <;> clear H <;> intro c3 H <;> subst c3
 ·obtain rfl := Option.some.inj H
  go_enter Try.func35, Try.ntmps35
  go_wp2_with (first | ((with_reducible refine gd 1 rfl ?_); refine bX 1 #[.int .i64 a0_0, .int .i64 a0_1] 63 HB ?_; clear HB; intro gb207 w4 hg hb BK207 GW207 HB; clear hb hg; have hcz5 := bK w4 BK207; have hfz5 := bF BK207) | ((with_reducible refine gate_callee (f := 18) rfl ?_); refine goesL_ (some 4) rfl rfl Try.func18 (by kernel_rfl) rfl #[.agg #[.int .i64 a0_0, .int .i64 a0_1]] rfl gl ?_; (with_reducible refine (spec_l10Val.calls a0_0 a0_1 true _ A2.out).mono ?_); rintro e w6 ⟨rfl, hb⟩; refine ⟨_, rfl, ?_⟩; replace BK207 := bb BK207 hb; replace HB := bs HB hb; clear hb; have hcz7 := bK w6 BK207; have hfz7 := bF BK207))
  go_ret
  exact ⟨er, bw HB⟩
 obtain rfl := Option.some.inj H
 go_enter Try.func35, Try.ntmps35
 go_wp2_with (first | ((with_reducible refine gd 1 rfl ?_); refine bX 1 #[.int .i64 a0_0, .int .i64 a0_1] 63 HB ?_; clear HB; intro gb207 w8 hg hb BK207 GW207 HB; clear hb hg; have hcz9 := bK w8 BK207; have hfz9 := bF BK207) | ((with_reducible refine gate_callee (f := 18) rfl ?_); refine goesL_ (some 4) rfl rfl Try.func18 (by kernel_rfl) rfl #[.agg #[.int .i64 a0_0, .int .i64 a0_1]] rfl gl ?_; (with_reducible refine (spec_l10Val.calls a0_0 a0_1 false _ A2.out).mono ?_); rintro e w10 ⟨rfl, hb⟩; refine ⟨_, rfl, ?_⟩; replace BK207 := bb BK207 hb; replace HB := bs HB hb; clear hb))
 go_ret
 exact ⟨er, bw HB⟩

end Go.Proofs.Ytmfhmfhkknijeaa.QFnExactAsmRight
