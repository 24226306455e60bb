import Derived.Test.YtkhpiicijkhpkaaCFnExactAsmBytesx0
import Derived.Test.YtkhpiicijkhpkaaCFnExactAsmBytesx9
namespace Go.Proofs.Ytkhpiicijkhpkaa.QFnExactAsmBytes
open Go.RowKit Go.Proofs.YtkhpiicijkhpkaaW
open PrintWords PrintLast PrintMore PrintShort PrintIsh
attribute [local go_sem] max2_int min2_int max_two min_two max_three min_three max_four min_four
set_option linter.unusedVariables false
set_option maxHeartbeats 8000000
set_option maxRecDepth 100000
set_option linter.unusedSimpArgs false

def spec_l10Val.f (a0_0 : Int) (a0_1 : Int) : Option (Bool) := if a0_0 = 0 then (some (a0_1 == 0)) else (if a0_0 = 1 then ((spec_l10Loc.f a0_1).bind fun t252 => (some t252)) else (some (a0_0 == 2)))
theorem spec_l10Val.calls (a0_0 : Int) (a0_1 : Int) (r : Bool) (w : World) (h : spec_l10Val.f a0_0 a0_1 = some r) :
  Calls Try.prog 86 #[.agg #[.int .i64 a0_0, .int .i64 a0_1]] w fun e w' => e = .returned (.bool r) ∧ Below w.heap.size w w' := by
 have hu82 := Try.underlying82
 have HB := am (Below.refl w.heap.size w)
 have H : (if a0_0 = 0 then (some (a0_1 == 0)) else (if a0_0 = 1 then ((spec_l10Loc.f a0_1).bind fun t252 => (some t252)) else (some (a0_0 == 2)))) = some r := h
 clear h
 have HC2 := am H
 clear H
 go_enter Try.func86, Try.ntmps86
 go_upto_if 5 with (first | ((with_reducible refine gd 1 rfl ?_); refine bX 1 #[.int .i64 a0_0, .int .i64 a0_1] 82 HB ?_; clear HB; intro gb251 w3 hg hb BK251 GW251 HB; clear hb hg; have hcz4 := bK w3 BK251; have hfz4 := bF BK251))
 (try simp only [Act.put, sa, sz, ss])
 have H := HC2.out
 clear HC2
 refine qE H ?_ ?_ <;> clear H
 ·intro c5b0 c5b1 H
  (first | rw [c5b0] | (simp only [i64_w, i32_w]; rw [c5b0]) | skip)
  obtain rfl := oi H
  have hcz6 := bK w3 BK251
  have hfz6 := bF BK251
  go_wp2
  go_ret
  exact ⟨er, bw HB⟩
 intro c5 c5b0 c5b1 H
 (first | rw [c5b0] | (simp only [i64_w, i32_w]; rw [c5b0]) | skip)
 refine qE H ?_ ?_ <;> clear H
 ·intro c7b0 c7b1 H
  refine be H ?_; clear H; intro t252 A8 H
  obtain rfl := oi H
  have hcz9 := bK w3 BK251
  have hfz9 := bF BK251
  go_wp2_with (first | ((with_reducible refine gate_callee (f := 129) rfl ?_); refine goesL_ (some 14) rfl rfl Try.func129 (by kernel_rfl) rfl #[.int .i64 a0_1] rfl gl ?_; (with_reducible refine (spec_l10Loc.calls a0_1 t252 _ A8.out).mono ?_); rintro e w' ⟨rfl, ⟨nd, rfl⟩⟩; refine ⟨_, rfl, ?_⟩))
  go_ret
  exact ⟨er, bw HB⟩
 intro c7 c7b0 c7b1 H
 obtain rfl := oi H
 have hcz10 := bK w3 BK251
 have hfz10 := bF BK251
 go_wp2
 go_ret
 exact ⟨er, bw HB⟩

def spec_l10Some.f (a0_0 : Int) (a0_1 : Int) : Option (Bool) := (spec_l10Val.f a0_0 a0_1).bind fun t254 => (if t254 = true then (some (a0_0 != 0)) else (some false))
theorem spec_l10Some.calls (a0_0 : Int) (a0_1 : Int) (r : Bool) (w : World) (h : spec_l10Some.f a0_0 a0_1 = some r) :
  Calls Try.prog 130 #[.agg #[.int .i64 a0_0, .int .i64 a0_1]] w fun e w' => e = .returned (.bool r) ∧ Below w.heap.size w w' := by
 have hu82 := Try.underlying82
 have HB := am (Below.refl w.heap.size w)
 have H : ((spec_l10Val.f a0_0 a0_1).bind fun t254 => (if t254 = true then (some (a0_0 != 0)) else (some false))) = some r := h
 clear h
 refine be H ?_; clear H; intro t254 A2 H
 refine qT H ?_ ?_ <;> clear H <;> intro c3 H <;> subst c3
 ·obtain rfl := oi H
  go_enter Try.func130, Try.ntmps130
  go_wp2_with (first | ((with_reducible refine gd 1 rfl ?_); refine bX 1 #[.int .i64 a0_0, .int .i64 a0_1] 82 HB ?_; clear HB; intro gb253 w4 hg hb BK253 GW253 HB; clear hb hg; have hcz5 := bK w4 BK253; have hfz5 := bF BK253) | ((with_reducible refine gate_callee (f := 86) rfl ?_); refine goesL_ (some 4) rfl rfl Try.func86 (by kernel_rfl) rfl #[.agg #[.int .i64 a0_0, .int .i64 a0_1]] rfl gl ?_; (with_reducible refine (spec_l10Val.calls a0_0 a0_1 true _ A2.out).mono ?_); rintro e w6 ⟨rfl, hb⟩; refine ⟨_, rfl, ?_⟩; replace BK253 := bb BK253 hb; replace HB := bs HB hb; clear hb; have hcz7 := bK w6 BK253; have hfz7 := bF BK253))
  go_ret
  exact ⟨er, bw HB⟩
 obtain rfl := oi H
 go_enter Try.func130, Try.ntmps130
 go_wp2_with (first | ((with_reducible refine gd 1 rfl ?_); refine bX 1 #[.int .i64 a0_0, .int .i64 a0_1] 82 HB ?_; clear HB; intro gb253 w8 hg hb BK253 GW253 HB; clear hb hg; have hcz9 := bK w8 BK253; have hfz9 := bF BK253) | ((with_reducible refine gate_callee (f := 86) rfl ?_); refine goesL_ (some 4) rfl rfl Try.func86 (by kernel_rfl) rfl #[.agg #[.int .i64 a0_0, .int .i64 a0_1]] rfl gl ?_; (with_reducible refine (spec_l10Val.calls a0_0 a0_1 false _ A2.out).mono ?_); rintro e w10 ⟨rfl, hb⟩; refine ⟨_, rfl, ?_⟩; replace BK253 := bb BK253 hb; replace HB := bs HB hb; clear hb))
 go_ret
 exact ⟨er, bw HB⟩

end Go.Proofs.Ytkhpiicijkhpkaa.QFnExactAsmBytes
