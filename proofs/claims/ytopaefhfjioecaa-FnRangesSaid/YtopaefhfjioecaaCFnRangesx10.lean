import Derived.Test.YtopaefhfjioecaaCFnRangesx0
import Derived.Test.YtopaefhfjioecaaCFnRangesx7
import Derived.Test.YtopaefhfjioecaaCFnRangesx9
namespace Go.Proofs.Ytopaefhfjioecaa.QFnRanges
open Go.RowKit Go.Proofs.YtopaefhfjioecaaW
open PrintWords PrintLast PrintMore PrintShort
attribute [local go_sem] max2_int min2_int max_two min_two max_three min_three max_four min_four   -- for this text's walks alone
set_option linter.unusedVariables false
set_option maxHeartbeats 8000000
set_option maxRecDepth 100000
set_option linter.unusedSimpArgs false

def spec_Live.f (k : Nat) (l0_0 : List (S35)) (a1 : Int) : Option (List Int) := (spec_l04Is.f k l0_0 a1).bind fun t312 => (if t312 = true then ((spec_l08Live.f k l0_0 a1).bind fun t316 => (some t316)) else (some (([] : List Int))))
theorem spec_Live.mono : ∀ a0 a1 k, LeO (spec_Live.f k a0 a1) (spec_Live.f (k + 1) a0 a1) := by
 intro a0 a1 k
 unfold spec_Live.f
 with_reducible repeat' first | exact spec_l04Is.mono .. | exact spec_l08Live.mono .. | exact LeO.refl _ | exact LeO.none _ | refine LeO.ite ?_ ?_ | refine LeO.bind ?_ (fun _ => ?_)
theorem spec_Live.calls (k : Nat) (A0_0 : Option Addr) (c0_0 : Nat) (l0_0 : List (S35)) (a1 : Int) (r : List Int) (w : World) (hr0_0 : Kd.C k35 w A0_0 l0_0.length l0_0) (hc0_0 : l0_0.length ≤ c0_0) (h : spec_Live.f k l0_0 a1 = some r) :
  Calls Try.prog 25 #[.agg #[.slice A0_0 l0_0.length c0_0], .int .i64 a1] w fun e w' => ∃ v0_ : Value, e = .returned (v0_) ∧ Kd.R (Kd.int .i64) 2 w' w.heap.size (fun _ => True) v0_ r ∧ Below w.heap.size w w' := by
 have hu25 := Try.underlying25
 have HR0_0 := am hr0_0
 have HC0_0 := am hc0_0
 clear hr0_0 hc0_0
 have HB := am (Below.refl w.heap.size w)
 have H : ((spec_l04Is.f k l0_0 a1).bind fun t312 => (if t312 = true then ((spec_l08Live.f k l0_0 a1).bind fun t316 => (some t316)) else (some (([] : List Int))))) = some r := h
 clear h
 refine be H ?_; clear H; intro t312 A3 H
 have HC4 := am H
 clear H
 go_enter Try.func25, Try.ntmps25
 go_upto_if 8 with (first | ((with_reducible refine gd 2 rfl ?_); refine bX 2 #[.slice A0_0 l0_0.length c0_0] 25 HB ?_; clear HB; intro gb311 w5 hg hb BK311 GW311 HB; clear hb hg; have hcz6 := bK w5 BK311; have hfz6 := bF BK311) | ((with_reducible refine gk 63 rfl ?_); refine gB 63 (some 7) Try.func63 #[.agg #[.slice A0_0 l0_0.length c0_0], .int .i64 a1] (spec_l04Is.calls k _ _ l0_0 a1 t312 _ (cc (Kd.C_below HR0_0.out HB.out)) HC0_0.out A3.out) ?_; intro w7 hb; replace BK311 := bb BK311 hb; replace HB := bs HB hb; clear hb))
 (try simp only [Act.put, sa, sz, ss])
 have H := HC4.out
 clear HC4
 refine qT H ?_ ?_ <;> clear H <;> intro c8 H <;> subst c8
 ·refine be H ?_; clear H; intro t316 A9 H
  obtain rfl := Option.some.inj H
  have hcz10 := bK w7 BK311
  have hfz10 := bF BK311
  go_wp2_with (first | ((with_reducible refine gk 64 rfl ?_); refine gC 64 (some 12) Try.func64 #[.agg #[.slice A0_0 l0_0.length c0_0], .int .i64 a1] ((spec_l08Live.calls k _ _ l0_0 a1 t316 _ (cc (Kd.C_below HR0_0.out HB.out)) HC0_0.out A9.out).mono ?_); rintro e w11 ⟨v317, rfl, ho0, hb⟩; refine ⟨_, rfl, ?_⟩; have HO318 := am (Kd.R_lower ho0 (below_size (bw HB))); replace BK311 := bb BK311 hb; replace HB := bs HB hb; clear hb; (try clear ho0)))
  go_ret
  exact ⟨_, er, kR HO318, bw HB⟩
 obtain ⟨y313, hy313⟩ : ∃ y_ : List Int, y_ = (([] : List Int)) := ⟨_, rfl⟩
 replace H : (some y313) = some r := by first | (rw [hy313]; with_reducible exact H) | (have H2_ := (Option.bind_some _ _).symm.trans H; rw [hy313]; with_reducible exact H2_) | (have H2_ := (Option.bind_some _ _).symm.trans H; with_reducible exact H2_) | with_reducible exact H | (rw [hy313]; exact H) | exact H
 have Ny313 := am hy313
 clear hy313
 obtain rfl := Option.some.inj H
 go_wp2_with (first | ((with_reducible refine gate_dst (N := 9) rfl ?_); refine Kd.R_lit (Kd.int .i64) _ 2 ?hg (N := 9) ?hd (xs := ([] : List Int)) (inner := []) (ok := fun _ => True) (okp := fun _ => True) ?hr ?hp (fun _ hk => hk) trivial (Below.refl _ _) (Nat.le_refl _) (by simp) ?_; (case hd => rfl); (case hg => rfl); (case hr => exact gs); (case hp => exact (Reps.none _ _)); intro v314 w12 ho13 hb hg_ hnew_; clear hg_ hnew_; (first | rw [← Ny313.out] at ho13 | (simp only [Int.reduceToNat] at ho13; rw [← Ny313.out] at ho13)); have HO315 := am (Kd.R_lower ho13 (below_size (bw HB))); replace BK311 := bb BK311 hb; replace HB := bs HB hb; clear hb ho13))
 go_ret
 exact ⟨_, er, kR HO315, bw HB⟩

def impl_hasFunc.f (l0_0 : List (S35)) (a1 : Int) : Option (Bool) := if a1 ≥ 0 then (some (decide (a1 < (l0_0.length : Int)))) else (some false)
theorem impl_hasFunc.calls (A0_0 : Option Addr) (c0_0 : Nat) (l0_0 : List (S35)) (a1 : Int) (r : Bool) (w : World) (hr0_0 : Kd.C k35 w A0_0 l0_0.length l0_0) (hc0_0 : l0_0.length ≤ c0_0) (h : impl_hasFunc.f l0_0 a1 = some r) :
  Calls Try.prog 38 #[.agg #[.slice A0_0 l0_0.length c0_0], .int .i64 a1] w fun e w' => e = .returned (.bool r) ∧ Below w.heap.size w w' := by
 have hu25 := Try.underlying25
 have HR0_0 := am hr0_0
 have HC0_0 := am hc0_0
 clear hr0_0 hc0_0
 have HB := am (Below.refl w.heap.size w)
 have H : (if a1 ≥ 0 then (some (decide (a1 < (l0_0.length : Int)))) else (some false)) = some r := h
 clear h
 refine qL H ?_ ?_ <;> clear H <;> intro c3b0 H
 ·obtain rfl := Option.some.inj H
  go_enter Try.func38, Try.ntmps38
  go_wp2_with (first | ((with_reducible refine gate_dst (N := 2) rfl ?_); (try (refine gate_guard (by rfl) ?_; dsimp only)); refine box_event ?hg (N := 2) ?hd (cs := #[.slice A0_0 l0_0.length c0_0]) (t := 25) ?hr ?_; (case hd => rfl); (case hg => rfl); (case hr => exact gs); intro gb319 hg w4 hbox hb; have BK319 := am (hbox); have GW319 := gw hg HB; replace HB := bs HB hb; clear hb hbox hg; have hcz5 := bK w4 BK319; have hfz5 := bF BK319))
  go_ret
  exact ⟨er, bw HB⟩
 obtain rfl := Option.some.inj H
 go_enter Try.func38, Try.ntmps38
 go_wp2_with (first | ((with_reducible refine gate_dst (N := 2) rfl ?_); (try (refine gate_guard (by rfl) ?_; dsimp only)); refine box_event ?hg (N := 2) ?hd (cs := #[.slice A0_0 l0_0.length c0_0]) (t := 25) ?hr ?_; (case hd => rfl); (case hg => rfl); (case hr => exact gs); intro gb319 hg w6 hbox hb; have BK319 := am (hbox); have GW319 := gw hg HB; replace HB := bs HB hb; clear hb hbox hg))
 go_ret
 exact ⟨er, bw HB⟩

def impl_in.f (a0 : Int) (a1 : Int) (a2 : Int) : Option (Bool) := if a0 ≥ a1 then (some (decide (a0 ≤ a2))) else (some false)
theorem impl_in.calls (a0 : Int) (a1 : Int) (a2 : Int) (r : Bool) (w : World) (h : impl_in.f a0 a1 a2 = some r) :
  Calls Try.prog 71 #[.int .i64 a0, .int .i64 a1, .int .i64 a2] w fun e w' => e = .returned (.bool r) ∧ Drawn0 w w' := by
 have H : (if a0 ≥ a1 then (some (decide (a0 ≤ a2))) else (some false)) = some r := h
 clear h
 refine qL H ?_ ?_ <;> clear H <;> intro c4b0 H
 ·obtain rfl := Option.some.inj H
  go_enter Try.func71, Try.ntmps71
  go_wp2
  go_ret
  exact ⟨by first | rfl | (simp; done) | (simp [*]; done), by repeat (first | exact Drawn0.refl _ | apply Drawn0.step)⟩
 obtain rfl := Option.some.inj H
 go_enter Try.func71, Try.ntmps71
 go_wp2
 go_ret
 exact ⟨by first | rfl | (simp; done) | (simp [*]; done), by repeat (first | exact Drawn0.refl _ | apply Drawn0.step)⟩

def impl_opNames.f  : Option (List ByteArray) := some (([(⟨#[]⟩ : ByteArray), (⟨#[112, 117, 115, 104]⟩ : ByteArray), (⟨#[108, 111, 97, 100]⟩ : ByteArray), (⟨#[115, 116, 111, 114, 101]⟩ : ByteArray), (⟨#[100, 117, 112]⟩ : ByteArray), (⟨#[112, 111, 112]⟩ : ByteArray), (⟨#[]⟩ : ByteArray), (⟨#[]⟩ : ByteArray), (⟨#[]⟩ : ByteArray), (⟨#[]⟩ : ByteArray), (⟨#[97, 100, 100]⟩ : ByteArray), (⟨#[115, 117, 98]⟩ : ByteArray), (⟨#[109, 117, 108]⟩ : ByteArray), (⟨#[100, 105, 118]⟩ : ByteArray), (⟨#[114, 101, 109]⟩ : ByteArray), (⟨#[97, 110, 100]⟩ : ByteArray), (⟨#[111, 114]⟩ : ByteArray), (⟨#[120, 111, 114]⟩ : ByteArray), (⟨#[115, 104, 108]⟩ : ByteArray), (⟨#[115, 104, 114]⟩ : ByteArray), (⟨#[117, 115, 104, 114]⟩ : ByteArray), (⟨#[108, 101, 115, 115]⟩ : ByteArray), (⟨#[97, 116, 109, 111, 115, 116]⟩ : ByteArray), (⟨#[115, 97, 109, 101]⟩ : ByteArray), (⟨#[110, 101, 103]⟩ : ByteArray), (⟨#[110, 111, 116]⟩ : ByteArray), (⟨#[98, 121, 116, 101]⟩ : ByteArray), (⟨#[115, 104, 111, 114, 116]⟩ : ByteArray), (⟨#[105, 110, 116]⟩ : ByteArray), (⟨#[119, 111, 114, 100]⟩ : ByteArray), (⟨#[106, 117, 109, 112]⟩ : ByteArray), (⟨#[106, 122]⟩ : ByteArray), (⟨#[99, 97, 108, 108]⟩ : ByteArray), (⟨#[114, 101, 116]⟩ : ByteArray), (⟨#[110, 101, 119]⟩ : ByteArray), (⟨#[103, 101, 116]⟩ : ByteArray), (⟨#[115, 101, 116]⟩ : ByteArray), (⟨#[108, 101, 110]⟩ : ByteArray), (⟨#[111, 117, 116]⟩ : ByteArray)] : List ByteArray))
theorem impl_opNames.calls  (r : List ByteArray) (w : World) (h : impl_opNames.f  = some r) :
  Calls Try.prog 115 #[] w fun e w' => ∃ v0_ : Value, e = .returned (v0_) ∧ Kd.R Kd.string 9 w' w.heap.size (fun _ => True) v0_ r ∧ Below w.heap.size w w' := by
 have HB := am (Below.refl w.heap.size w)
 have H : (some (([(⟨#[]⟩ : ByteArray), (⟨#[112, 117, 115, 104]⟩ : ByteArray), (⟨#[108, 111, 97, 100]⟩ : ByteArray), (⟨#[115, 116, 111, 114, 101]⟩ : ByteArray), (⟨#[100, 117, 112]⟩ : ByteArray), (⟨#[112, 111, 112]⟩ : ByteArray), (⟨#[]⟩ : ByteArray), (⟨#[]⟩ : ByteArray), (⟨#[]⟩ : ByteArray), (⟨#[]⟩ : ByteArray), (⟨#[97, 100, 100]⟩ : ByteArray), (⟨#[115, 117, 98]⟩ : ByteArray), (⟨#[109, 117, 108]⟩ : ByteArray), (⟨#[100, 105, 118]⟩ : ByteArray), (⟨#[114, 101, 109]⟩ : ByteArray), (⟨#[97, 110, 100]⟩ : ByteArray), (⟨#[111, 114]⟩ : ByteArray), (⟨#[120, 111, 114]⟩ : ByteArray), (⟨#[115, 104, 108]⟩ : ByteArray), (⟨#[115, 104, 114]⟩ : ByteArray), (⟨#[117, 115, 104, 114]⟩ : ByteArray), (⟨#[108, 101, 115, 115]⟩ : ByteArray), (⟨#[97, 116, 109, 111, 115, 116]⟩ : ByteArray), (⟨#[115, 97, 109, 101]⟩ : ByteArray), (⟨#[110, 101, 103]⟩ : ByteArray), (⟨#[110, 111, 116]⟩ : ByteArray), (⟨#[98, 121, 116, 101]⟩ : ByteArray), (⟨#[115, 104, 111, 114, 116]⟩ : ByteArray), (⟨#[105, 110, 116]⟩ : ByteArray), (⟨#[119, 111, 114, 100]⟩ : ByteArray), (⟨#[106, 117, 109, 112]⟩ : ByteArray), (⟨#[106, 122]⟩ : ByteArray), (⟨#[99, 97, 108, 108]⟩ : ByteArray), (⟨#[114, 101, 116]⟩ : ByteArray), (⟨#[110, 101, 119]⟩ : ByteArray), (⟨#[103, 101, 116]⟩ : ByteArray), (⟨#[115, 101, 116]⟩ : ByteArray), (⟨#[108, 101, 110]⟩ : ByteArray), (⟨#[111, 117, 116]⟩ : ByteArray)] : List ByteArray))) = some r := h
 clear h
 obtain ⟨y320, hy320⟩ : ∃ y_ : List ByteArray, y_ = (([(⟨#[]⟩ : ByteArray), (⟨#[112, 117, 115, 104]⟩ : ByteArray), (⟨#[108, 111, 97, 100]⟩ : ByteArray), (⟨#[115, 116, 111, 114, 101]⟩ : ByteArray), (⟨#[100, 117, 112]⟩ : ByteArray), (⟨#[112, 111, 112]⟩ : ByteArray), (⟨#[]⟩ : ByteArray), (⟨#[]⟩ : ByteArray), (⟨#[]⟩ : ByteArray), (⟨#[]⟩ : ByteArray), (⟨#[97, 100, 100]⟩ : ByteArray), (⟨#[115, 117, 98]⟩ : ByteArray), (⟨#[109, 117, 108]⟩ : ByteArray), (⟨#[100, 105, 118]⟩ : ByteArray), (⟨#[114, 101, 109]⟩ : ByteArray), (⟨#[97, 110, 100]⟩ : ByteArray), (⟨#[111, 114]⟩ : ByteArray), (⟨#[120, 111, 114]⟩ : ByteArray), (⟨#[115, 104, 108]⟩ : ByteArray), (⟨#[115, 104, 114]⟩ : ByteArray), (⟨#[117, 115, 104, 114]⟩ : ByteArray), (⟨#[108, 101, 115, 115]⟩ : ByteArray), (⟨#[97, 116, 109, 111, 115, 116]⟩ : ByteArray), (⟨#[115, 97, 109, 101]⟩ : ByteArray), (⟨#[110, 101, 103]⟩ : ByteArray), (⟨#[110, 111, 116]⟩ : ByteArray), (⟨#[98, 121, 116, 101]⟩ : ByteArray), (⟨#[115, 104, 111, 114, 116]⟩ : ByteArray), (⟨#[105, 110, 116]⟩ : ByteArray), (⟨#[119, 111, 114, 100]⟩ : ByteArray), (⟨#[106, 117, 109, 112]⟩ : ByteArray), (⟨#[106, 122]⟩ : ByteArray), (⟨#[99, 97, 108, 108]⟩ : ByteArray), (⟨#[114, 101, 116]⟩ : ByteArray), (⟨#[110, 101, 119]⟩ : ByteArray), (⟨#[103, 101, 116]⟩ : ByteArray), (⟨#[115, 101, 116]⟩ : ByteArray), (⟨#[108, 101, 110]⟩ : ByteArray), (⟨#[111, 117, 116]⟩ : ByteArray)] : List ByteArray)) := ⟨_, rfl⟩
 replace H : (some y320) = some r := by first | (rw [hy320]; with_reducible exact H) | (have H2_ := (Option.bind_some _ _).symm.trans H; rw [hy320]; with_reducible exact H2_) | (have H2_ := (Option.bind_some _ _).symm.trans H; with_reducible exact H2_) | with_reducible exact H | (rw [hy320]; exact H) | exact H
 have Ny320 := am hy320
 clear hy320
 obtain rfl := Option.some.inj H
 go_enter Try.func115, Try.ntmps115
 go_wp2_with (first | ((with_reducible refine gate_dst (N := 1) rfl ?_); refine Kd.R_lit Kd.string _ 9 ?hg (N := 1) ?hd (xs := ([(⟨#[]⟩ : ByteArray), (⟨#[112, 117, 115, 104]⟩ : ByteArray), (⟨#[108, 111, 97, 100]⟩ : ByteArray), (⟨#[115, 116, 111, 114, 101]⟩ : ByteArray), (⟨#[100, 117, 112]⟩ : ByteArray), (⟨#[112, 111, 112]⟩ : ByteArray), (⟨#[]⟩ : ByteArray), (⟨#[]⟩ : ByteArray), (⟨#[]⟩ : ByteArray), (⟨#[]⟩ : ByteArray), (⟨#[97, 100, 100]⟩ : ByteArray), (⟨#[115, 117, 98]⟩ : ByteArray), (⟨#[109, 117, 108]⟩ : ByteArray), (⟨#[100, 105, 118]⟩ : ByteArray), (⟨#[114, 101, 109]⟩ : ByteArray), (⟨#[97, 110, 100]⟩ : ByteArray), (⟨#[111, 114]⟩ : ByteArray), (⟨#[120, 111, 114]⟩ : ByteArray), (⟨#[115, 104, 108]⟩ : ByteArray), (⟨#[115, 104, 114]⟩ : ByteArray), (⟨#[117, 115, 104, 114]⟩ : ByteArray), (⟨#[108, 101, 115, 115]⟩ : ByteArray), (⟨#[97, 116, 109, 111, 115, 116]⟩ : ByteArray), (⟨#[115, 97, 109, 101]⟩ : ByteArray), (⟨#[110, 101, 103]⟩ : ByteArray), (⟨#[110, 111, 116]⟩ : ByteArray), (⟨#[98, 121, 116, 101]⟩ : ByteArray), (⟨#[115, 104, 111, 114, 116]⟩ : ByteArray), (⟨#[105, 110, 116]⟩ : ByteArray), (⟨#[119, 111, 114, 100]⟩ : ByteArray), (⟨#[106, 117, 109, 112]⟩ : ByteArray), (⟨#[106, 122]⟩ : ByteArray), (⟨#[99, 97, 108, 108]⟩ : ByteArray), (⟨#[114, 101, 116]⟩ : ByteArray), (⟨#[110, 101, 119]⟩ : ByteArray), (⟨#[103, 101, 116]⟩ : ByteArray), (⟨#[115, 101, 116]⟩ : ByteArray), (⟨#[108, 101, 110]⟩ : ByteArray), (⟨#[111, 117, 116]⟩ : ByteArray)] : List ByteArray)) (inner := [.string (⟨#[]⟩ : ByteArray), .string (⟨#[112, 117, 115, 104]⟩ : ByteArray), .string (⟨#[108, 111, 97, 100]⟩ : ByteArray), .string (⟨#[115, 116, 111, 114, 101]⟩ : ByteArray), .string (⟨#[100, 117, 112]⟩ : ByteArray), .string (⟨#[112, 111, 112]⟩ : ByteArray), .string (⟨#[]⟩ : ByteArray), .string (⟨#[]⟩ : ByteArray), .string (⟨#[]⟩ : ByteArray), .string (⟨#[]⟩ : ByteArray), .string (⟨#[97, 100, 100]⟩ : ByteArray), .string (⟨#[115, 117, 98]⟩ : ByteArray), .string (⟨#[109, 117, 108]⟩ : ByteArray), .string (⟨#[100, 105, 118]⟩ : ByteArray), .string (⟨#[114, 101, 109]⟩ : ByteArray), .string (⟨#[97, 110, 100]⟩ : ByteArray), .string (⟨#[111, 114]⟩ : ByteArray), .string (⟨#[120, 111, 114]⟩ : ByteArray), .string (⟨#[115, 104, 108]⟩ : ByteArray), .string (⟨#[115, 104, 114]⟩ : ByteArray), .string (⟨#[117, 115, 104, 114]⟩ : ByteArray), .string (⟨#[108, 101, 115, 115]⟩ : ByteArray), .string (⟨#[97, 116, 109, 111, 115, 116]⟩ : ByteArray), .string (⟨#[115, 97, 109, 101]⟩ : ByteArray), .string (⟨#[110, 101, 103]⟩ : ByteArray), .string (⟨#[110, 111, 116]⟩ : ByteArray), .string (⟨#[98, 121, 116, 101]⟩ : ByteArray), .string (⟨#[115, 104, 111, 114, 116]⟩ : ByteArray), .string (⟨#[105, 110, 116]⟩ : ByteArray), .string (⟨#[119, 111, 114, 100]⟩ : ByteArray), .string (⟨#[106, 117, 109, 112]⟩ : ByteArray), .string (⟨#[106, 122]⟩ : ByteArray), .string (⟨#[99, 97, 108, 108]⟩ : ByteArray), .string (⟨#[114, 101, 116]⟩ : ByteArray), .string (⟨#[110, 101, 119]⟩ : ByteArray), .string (⟨#[103, 101, 116]⟩ : ByteArray), .string (⟨#[115, 101, 116]⟩ : ByteArray), .string (⟨#[108, 101, 110]⟩ : ByteArray), .string (⟨#[111, 117, 116]⟩ : ByteArray)]) (ok := fun _ => True) (okp := fun _ => True) ?hr ?hp (fun _ hk => hk) trivial (Below.refl _ _) (Nat.le_refl _) (by simp) ?_; (case hd => rfl); (case hg => rfl); (case hr => exact gs); (case hp => exact (Reps.one (show Kd.M Kd.string _ _ _ (⟨#[]⟩ : ByteArray) [.string (⟨#[]⟩ : ByteArray)] from rfl) (Reps.one (show Kd.M Kd.string _ _ _ (⟨#[112, 117, 115, 104]⟩ : ByteArray) [.string (⟨#[112, 117, 115, 104]⟩ : ByteArray)] from rfl) (Reps.one (show Kd.M Kd.string _ _ _ (⟨#[108, 111, 97, 100]⟩ : ByteArray) [.string (⟨#[108, 111, 97, 100]⟩ : ByteArray)] from rfl) (Reps.one (show Kd.M Kd.string _ _ _ (⟨#[115, 116, 111, 114, 101]⟩ : ByteArray) [.string (⟨#[115, 116, 111, 114, 101]⟩ : ByteArray)] from rfl) (Reps.one (show Kd.M Kd.string _ _ _ (⟨#[100, 117, 112]⟩ : ByteArray) [.string (⟨#[100, 117, 112]⟩ : ByteArray)] from rfl) (Reps.one (show Kd.M Kd.string _ _ _ (⟨#[112, 111, 112]⟩ : ByteArray) [.string (⟨#[112, 111, 112]⟩ : ByteArray)] from rfl) (Reps.one (show Kd.M Kd.string _ _ _ (⟨#[]⟩ : ByteArray) [.string (⟨#[]⟩ : ByteArray)] from rfl) (Reps.one (show Kd.M Kd.string _ _ _ (⟨#[]⟩ : ByteArray) [.string (⟨#[]⟩ : ByteArray)] from rfl) (Reps.one (show Kd.M Kd.string _ _ _ (⟨#[]⟩ : ByteArray) [.string (⟨#[]⟩ : ByteArray)] from rfl) (Reps.one (show Kd.M Kd.string _ _ _ (⟨#[]⟩ : ByteArray) [.string (⟨#[]⟩ : ByteArray)] from rfl) (Reps.one (show Kd.M Kd.string _ _ _ (⟨#[97, 100, 100]⟩ : ByteArray) [.string (⟨#[97, 100, 100]⟩ : ByteArray)] from rfl) (Reps.one (show Kd.M Kd.string _ _ _ (⟨#[115, 117, 98]⟩ : ByteArray) [.string (⟨#[115, 117, 98]⟩ : ByteArray)] from rfl) (Reps.one (show Kd.M Kd.string _ _ _ (⟨#[109, 117, 108]⟩ : ByteArray) [.string (⟨#[109, 117, 108]⟩ : ByteArray)] from rfl) (Reps.one (show Kd.M Kd.string _ _ _ (⟨#[100, 105, 118]⟩ : ByteArray) [.string (⟨#[100, 105, 118]⟩ : ByteArray)] from rfl) (Reps.one (show Kd.M Kd.string _ _ _ (⟨#[114, 101, 109]⟩ : ByteArray) [.string (⟨#[114, 101, 109]⟩ : ByteArray)] from rfl) (Reps.one (show Kd.M Kd.string _ _ _ (⟨#[97, 110, 100]⟩ : ByteArray) [.string (⟨#[97, 110, 100]⟩ : ByteArray)] from rfl) (Reps.one (show Kd.M Kd.string _ _ _ (⟨#[111, 114]⟩ : ByteArray) [.string (⟨#[111, 114]⟩ : ByteArray)] from rfl) (Reps.one (show Kd.M Kd.string _ _ _ (⟨#[120, 111, 114]⟩ : ByteArray) [.string (⟨#[120, 111, 114]⟩ : ByteArray)] from rfl) (Reps.one (show Kd.M Kd.string _ _ _ (⟨#[115, 104, 108]⟩ : ByteArray) [.string (⟨#[115, 104, 108]⟩ : ByteArray)] from rfl) (Reps.one (show Kd.M Kd.string _ _ _ (⟨#[115, 104, 114]⟩ : ByteArray) [.string (⟨#[115, 104, 114]⟩ : ByteArray)] from rfl) (Reps.one (show Kd.M Kd.string _ _ _ (⟨#[117, 115, 104, 114]⟩ : ByteArray) [.string (⟨#[117, 115, 104, 114]⟩ : ByteArray)] from rfl) (Reps.one (show Kd.M Kd.string _ _ _ (⟨#[108, 101, 115, 115]⟩ : ByteArray) [.string (⟨#[108, 101, 115, 115]⟩ : ByteArray)] from rfl) (Reps.one (show Kd.M Kd.string _ _ _ (⟨#[97, 116, 109, 111, 115, 116]⟩ : ByteArray) [.string (⟨#[97, 116, 109, 111, 115, 116]⟩ : ByteArray)] from rfl) (Reps.one (show Kd.M Kd.string _ _ _ (⟨#[115, 97, 109, 101]⟩ : ByteArray) [.string (⟨#[115, 97, 109, 101]⟩ : ByteArray)] from rfl) (Reps.one (show Kd.M Kd.string _ _ _ (⟨#[110, 101, 103]⟩ : ByteArray) [.string (⟨#[110, 101, 103]⟩ : ByteArray)] from rfl) (Reps.one (show Kd.M Kd.string _ _ _ (⟨#[110, 111, 116]⟩ : ByteArray) [.string (⟨#[110, 111, 116]⟩ : ByteArray)] from rfl) (Reps.one (show Kd.M Kd.string _ _ _ (⟨#[98, 121, 116, 101]⟩ : ByteArray) [.string (⟨#[98, 121, 116, 101]⟩ : ByteArray)] from rfl) (Reps.one (show Kd.M Kd.string _ _ _ (⟨#[115, 104, 111, 114, 116]⟩ : ByteArray) [.string (⟨#[115, 104, 111, 114, 116]⟩ : ByteArray)] from rfl) (Reps.one (show Kd.M Kd.string _ _ _ (⟨#[105, 110, 116]⟩ : ByteArray) [.string (⟨#[105, 110, 116]⟩ : ByteArray)] from rfl) (Reps.one (show Kd.M Kd.string _ _ _ (⟨#[119, 111, 114, 100]⟩ : ByteArray) [.string (⟨#[119, 111, 114, 100]⟩ : ByteArray)] from rfl) (Reps.one (show Kd.M Kd.string _ _ _ (⟨#[106, 117, 109, 112]⟩ : ByteArray) [.string (⟨#[106, 117, 109, 112]⟩ : ByteArray)] from rfl) (Reps.one (show Kd.M Kd.string _ _ _ (⟨#[106, 122]⟩ : ByteArray) [.string (⟨#[106, 122]⟩ : ByteArray)] from rfl) (Reps.one (show Kd.M Kd.string _ _ _ (⟨#[99, 97, 108, 108]⟩ : ByteArray) [.string (⟨#[99, 97, 108, 108]⟩ : ByteArray)] from rfl) (Reps.one (show Kd.M Kd.string _ _ _ (⟨#[114, 101, 116]⟩ : ByteArray) [.string (⟨#[114, 101, 116]⟩ : ByteArray)] from rfl) (Reps.one (show Kd.M Kd.string _ _ _ (⟨#[110, 101, 119]⟩ : ByteArray) [.string (⟨#[110, 101, 119]⟩ : ByteArray)] from rfl) (Reps.one (show Kd.M Kd.string _ _ _ (⟨#[103, 101, 116]⟩ : ByteArray) [.string (⟨#[103, 101, 116]⟩ : ByteArray)] from rfl) (Reps.one (show Kd.M Kd.string _ _ _ (⟨#[115, 101, 116]⟩ : ByteArray) [.string (⟨#[115, 101, 116]⟩ : ByteArray)] from rfl) (Reps.one (show Kd.M Kd.string _ _ _ (⟨#[108, 101, 110]⟩ : ByteArray) [.string (⟨#[108, 101, 110]⟩ : ByteArray)] from rfl) (Reps.one (show Kd.M Kd.string _ _ _ (⟨#[111, 117, 116]⟩ : ByteArray) [.string (⟨#[111, 117, 116]⟩ : ByteArray)] from rfl) (Reps.none _ _))))))))))))))))))))))))))))))))))))))))); intro v321 w1 ho2 hb hg_ hnew_; clear hg_ hnew_; (first | rw [← Ny320.out] at ho2 | (simp only [Int.reduceToNat] at ho2; rw [← Ny320.out] at ho2)); have HO322 := am (Kd.R_lower ho2 (below_size (bw HB))); replace HB := bs HB hb; clear hb ho2))
 go_ret
 exact ⟨_, er, kR HO322, bw HB⟩

def impl_OpName.f (a0 : Int) : Option (ByteArray) := (impl_in.f a0 0 38).bind fun t323 => (if t323 = true then ((impl_opNames.f).bind fun t324 => (if 0 ≤ a0 then (if a0 < (t324.length : Int) then (some (rdOf ByteArray.empty t324 a0)) else (none)) else (none))) else (some (⟨#[]⟩ : ByteArray)))
theorem impl_OpName.calls (a0 : Int) (r : ByteArray) (w : World) (h : impl_OpName.f a0 = some r) :
  Calls Try.prog 102 #[.int .i64 a0] w fun e w' => e = .returned (.string r) ∧ Below w.heap.size w w' := by
 have HB := am (Below.refl w.heap.size w)
 have H : ((impl_in.f a0 0 38).bind fun t323 => (if t323 = true then ((impl_opNames.f).bind fun t324 => (if 0 ≤ a0 then (if a0 < (t324.length : Int) then (some (rdOf ByteArray.empty t324 a0)) else (none)) else (none))) else (some (⟨#[]⟩ : ByteArray)))) = some r := h
 clear h
 refine be H ?_; clear H; intro t323 A2 H
 have HC3 := am H
 clear H
 go_enter Try.func102, Try.ntmps102
 go_upto_if 5 with (first | ((with_reducible refine gate_callee (f := 71) rfl ?_); refine goesL_ (some 4) rfl rfl Try.func71 (by kernel_rfl) rfl #[.int .i64 a0, .int .i64 0, .int .i64 38] rfl gl ?_; (with_reducible refine (impl_in.calls a0 0 38 t323 _ A2.out).mono ?_); rintro e w' ⟨rfl, ⟨nd, rfl⟩⟩; refine ⟨_, rfl, ?_⟩))
 (try simp only [Act.put, sa, sz, ss])
 (try simp only [World.drewN_drewN])
 generalize hq_ : World.drewN w _ = w4
 replace HB : Aside0 (Below w.heap.size w w4) := ⟨by rw [← hq_]; exact (bw HB)⟩
 clear hq_
 have H := HC3.out
 clear HC3
 refine qT H ?_ ?_ <;> clear H <;> intro c5 H <;> subst c5
 ·refine be H ?_; clear H; intro t324 A6 H
  refine iM H ?_; clear H; intro c7b0 H
  (first | rw [c7b0] | (simp only [i64_w, i32_w]; rw [c7b0]) | skip)
  refine iM H ?_; clear H; intro c8b0 H
  obtain rfl := Option.some.inj H
  go_wp2_with (first | ((with_reducible refine gate_callee (f := 115) rfl ?_); refine goesL_ (some 6) rfl rfl Try.func115 (by kernel_rfl) rfl #[] rfl gl ?_; (with_reducible refine (impl_opNames.calls  t324 _ A6.out).mono ?_); rintro e w9 ⟨v325, rfl, ho0, hb⟩; refine ⟨_, rfl, ?_⟩; have HO326 := am (Kd.R_lower ho0 (below_size (bw HB))); replace HB := bs HB hb; clear hb; (try clear ho0); obtain ⟨Ao10, co10, eo10⟩ := Kd.R_slice HO326.out; subst eo10; have p327 : 0 ≤ (a0 : Int) := of_decide_eq_true as1; have q327 : a0 < (t324.length : Int) := of_decide_eq_true as1; obtain ⟨ad327, e327, hx327_0⟩ := Kd.at_string (Kd.R_reads' HO326.out).2.2 a0 p327 q327; cases e327; replace p327 := eq_true p327; replace q327 := eq_true q327))
  go_ret
  exact ⟨er, bw HB⟩
 obtain rfl := Option.some.inj H
 go_wp2
 go_ret
 exact ⟨er, bw HB⟩

mutual
def impl_InsRight.j0 : Nat → Int → Int → Bool → List (S35) → Int → Int → Option (Bool)
 | 0, _, _, _, _, _, _ => none
 | k + 1, x1, x12, x15, x329000, x330000, x330001 => if x15 = true then (if x330001 ≥ 0 then (if 0 ≤ x1 then (if x1 < (x329000.length : Int) then (some (decide (x330001 < ((rd_T35 x329000 x1).f1)))) else (none)) else (none)) else (some false)) else (if x12 = 30 then (impl_InsRight.j1 k x1 x12 (x12 == 30) x329000 x330000 x330001) else (impl_InsRight.j1 k x1 x12 (x12 == 31) x329000 x330000 x330001))
def impl_InsRight.j1 : Nat → Int → Int → Bool → List (S35) → Int → Int → Option (Bool)
 | 0, _, _, _, _, _, _ => none
 | k + 1, x1, x12, x32, x329000, x330000, x330001 => if x32 = true then (if x330001 ≥ 0 then (if 0 ≤ x1 then (if x1 < (x329000.length : Int) then (some (decide (x330001 < (((rd_T35 x329000 x1).f2).length : Int)))) else (none)) else (none)) else (some false)) else (if x12 = 32 then ((impl_hasFunc.f x329000 x330001).bind fun t333 => (some t333)) else ((impl_OpName.f x330000).bind fun t334 => (if t334.toList = ([] : List UInt8) then (some false) else (some (x330001 == 0)))))
end
def impl_InsRight.f (k : Nat) (l0_0 : List (S35)) (a1 : Int) (a2_0 : Int) (a2_1 : Int) : Option (Bool) := (impl_hasFunc.f l0_0 a1).bind fun t330 => (if t330 = true then (if a2_0 = 1 then (some true) else (if a2_0 = 2 then (impl_InsRight.j0 k a1 a2_0 (a2_0 == 2) l0_0 a2_0 a2_1) else (impl_InsRight.j0 k a1 a2_0 (a2_0 == 3) l0_0 a2_0 a2_1))) else (some false))
theorem impl_InsRight.mono_l : ∀ k, (∀ y0 y1 y2 y3 y4 y5, LeO (impl_InsRight.j0 k y0 y1 y2 y3 y4 y5) (impl_InsRight.j0 (k + 1) y0 y1 y2 y3 y4 y5)) ∧ (∀ y0 y1 y2 y3 y4 y5, LeO (impl_InsRight.j1 k y0 y1 y2 y3 y4 y5) (impl_InsRight.j1 (k + 1) y0 y1 y2 y3 y4 y5))
 | 0 => ⟨fun _ _ _ _ _ _ r h => by simp [impl_InsRight.j0] at h, fun _ _ _ _ _ _ r h => by simp [impl_InsRight.j1] at h⟩
 | k + 1 => by
  obtain ⟨ih0, ih1⟩ := impl_InsRight.mono_l k
  refine ⟨?_, ?_⟩
  ·intro y0 y1 y2 y3 y4 y5
   unfold impl_InsRight.j0
   with_reducible repeat' first | exact ih0 .. | exact ih1 .. | exact LeO.refl _ | exact LeO.none _ | refine LeO.ite ?_ ?_ | refine LeO.bind ?_ (fun _ => ?_)
  ·intro y0 y1 y2 y3 y4 y5
   unfold impl_InsRight.j1
   with_reducible repeat' first | exact ih0 .. | exact ih1 .. | exact LeO.refl _ | exact LeO.none _ | refine LeO.ite ?_ ?_ | refine LeO.bind ?_ (fun _ => ?_)
theorem impl_InsRight.mono : ∀ a0 a1 a2 a3 k, LeO (impl_InsRight.f k a0 a1 a2 a3) (impl_InsRight.f (k + 1) a0 a1 a2 a3) := by
 intro a0 a1 a2 a3 k
 obtain ⟨ih0, ih1⟩ := impl_InsRight.mono_l k
 unfold impl_InsRight.f
 with_reducible repeat' first | exact ih0 .. | exact ih1 .. | exact LeO.refl _ | exact LeO.none _ | refine LeO.ite ?_ ?_ | refine LeO.bind ?_ (fun _ => ?_)
theorem impl_InsRight.calls (k : Nat) (A0_0 : Option Addr) (c0_0 : Nat) (l0_0 : List (S35)) (a1 : Int) (a2_0 : Int) (a2_1 : Int) (r : Bool) (w : World) (hr0_0 : Kd.C k35 w A0_0 l0_0.length l0_0) (hc0_0 : l0_0.length ≤ c0_0) (h : impl_InsRight.f k l0_0 a1 a2_0 a2_1 = some r) :
  Calls Try.prog 75 #[.agg #[.slice A0_0 l0_0.length c0_0], .int .i64 a1, .agg #[.int .i64 a2_0, .int .i64 a2_1]] w fun e w' => e = .returned (.bool r) ∧ Below w.heap.size w w' := by
 have hu25 := Try.underlying25
 have hu38 := Try.underlying38
 have HR0_0 := am hr0_0
 have HC0_0 := am hc0_0
 clear hr0_0 hc0_0
 have HB := am (Below.refl w.heap.size w)
 have H : ((impl_hasFunc.f l0_0 a1).bind fun t330 => (if t330 = true then (if a2_0 = 1 then (some true) else (if a2_0 = 2 then (impl_InsRight.j0 k a1 a2_0 (a2_0 == 2) l0_0 a2_0 a2_1) else (impl_InsRight.j0 k a1 a2_0 (a2_0 == 3) l0_0 a2_0 a2_1))) else (some false))) = some r := h
 clear h
 refine be H ?_; clear H; intro t330 A4 H
 have HC5 := am H
 clear H
 go_enter Try.func75, Try.ntmps75
 go_upto_if 10 with (first | ((with_reducible refine gate_dst (N := 3) rfl ?_); (try (refine gate_guard (by rfl) ?_; dsimp only)); refine box_event ?hg (N := 3) ?hd (cs := #[.slice A0_0 l0_0.length c0_0]) (t := 25) ?hr ?_; (case hd => rfl); (case hg => rfl); (case hr => exact gs); intro gb328 hg w6 hbox hb; have BK328 := am (hbox); have GW328 := gw hg HB; replace HB := bs HB hb; clear hb hbox hg) | ((with_reducible refine gate_dst (N := 5) rfl ?_); (try (refine gate_guard (by rfl) ?_; dsimp only)); refine box_event ?hg (N := 5) ?hd (cs := #[.int .i64 a2_0, .int .i64 a2_1]) (t := 38) ?hr ?_; (case hd => rfl); (case hg => rfl); (case hr => exact gs); intro gb329 hg w7 hbox hb; have BK329 := am (hbox); have GW329 := gw hg HB; replace HB := bs HB hb; obtain ⟨NB328_329, NB329_328, BK328⟩ := b3 hg BK328 hb; clear hb hbox hg; have hnb8 := NB328_329.out; have hnc8 := NB329_328.out; have hcz9 := bK w7 BK328; have hfz9 := bF BK328) | (go_at_call 38; refine (impl_hasFunc.calls _ _ l0_0 a1 t330 _ (cc (Kd.C_below HR0_0.out HB.out)) HC0_0.out A4.out).mono ?_; rintro e w10 ⟨rfl, hb⟩; replace BK328 := bb BK328 hb; replace BK329 := bb BK329 hb; replace HB := bs HB hb; clear hb))
 repeat (go_quiet (first | ((with_reducible refine gate_dst (N := 3) rfl ?_); (try (refine gate_guard (by rfl) ?_; dsimp only)); refine box_event ?hg (N := 3) ?hd (cs := #[.slice A0_0 l0_0.length c0_0]) (t := 25) ?hr ?_; (case hd => rfl); (case hg => rfl); (case hr => exact gs); intro gb328 hg w6 hbox hb; have BK328 := am (hbox); have GW328 := gw hg HB; replace HB := bs HB hb; clear hb hbox hg) | ((with_reducible refine gate_dst (N := 5) rfl ?_); (try (refine gate_guard (by rfl) ?_; dsimp only)); refine box_event ?hg (N := 5) ?hd (cs := #[.int .i64 a2_0, .int .i64 a2_1]) (t := 38) ?hr ?_; (case hd => rfl); (case hg => rfl); (case hr => exact gs); intro gb329 hg w7 hbox hb; have BK329 := am (hbox); have GW329 := gw hg HB; replace HB := bs HB hb; obtain ⟨NB328_329, NB329_328, BK328⟩ := b3 hg BK328 hb; clear hb hbox hg; have hnb8 := NB328_329.out; have hnc8 := NB329_328.out; have hcz9 := bK w7 BK328; have hfz9 := bF BK328) | (go_at_call 38; refine (impl_hasFunc.calls _ _ l0_0 a1 t330 _ (cc (Kd.C_below HR0_0.out HB.out)) HC0_0.out A4.out).mono ?_; rintro e w10 ⟨rfl, hb⟩; replace BK328 := bb BK328 hb; replace BK329 := bb BK329 hb; replace HB := bs HB hb; clear hb)); go_upto_if 10 with (first | ((with_reducible refine gate_dst (N := 3) rfl ?_); (try (refine gate_guard (by rfl) ?_; dsimp only)); refine box_event ?hg (N := 3) ?hd (cs := #[.slice A0_0 l0_0.length c0_0]) (t := 25) ?hr ?_; (case hd => rfl); (case hg => rfl); (case hr => exact gs); intro gb328 hg w6 hbox hb; have BK328 := am (hbox); have GW328 := gw hg HB; replace HB := bs HB hb; clear hb hbox hg) | ((with_reducible refine gate_dst (N := 5) rfl ?_); (try (refine gate_guard (by rfl) ?_; dsimp only)); refine box_event ?hg (N := 5) ?hd (cs := #[.int .i64 a2_0, .int .i64 a2_1]) (t := 38) ?hr ?_; (case hd => rfl); (case hg => rfl); (case hr => exact gs); intro gb329 hg w7 hbox hb; have BK329 := am (hbox); have GW329 := gw hg HB; replace HB := bs HB hb; obtain ⟨NB328_329, NB329_328, BK328⟩ := b3 hg BK328 hb; clear hb hbox hg; have hnb8 := NB328_329.out; have hnc8 := NB329_328.out; have hcz9 := bK w7 BK328; have hfz9 := bF BK328) | (go_at_call 38; refine (impl_hasFunc.calls _ _ l0_0 a1 t330 _ (cc (Kd.C_below HR0_0.out HB.out)) HC0_0.out A4.out).mono ?_; rintro e w10 ⟨rfl, hb⟩; replace BK328 := bb BK328 hb; replace BK329 := bb BK329 hb; replace HB := bs HB hb; clear hb)))
 (try simp only [Act.put, sa, sz, ss])
 have H := HC5.out
 clear HC5
 refine qT H ?_ ?_ <;> clear H <;> intro c11 H <;> subst c11
 ·refine qE H ?_ ?_ <;> clear H
  ·intro c12b0 c12b1 H
   (first | rw [c12b0] | (simp only [i64_w, i32_w]; rw [c12b0]) | skip)
   obtain rfl := Option.some.inj H
   have hnb13 := NB329_328.out
   have hnc13 := NB328_329.out
   have hcz14 := bK w10 BK329
   have hfz14 := bF BK329
   go_wp2
   repeat (go_quiet (fail); try go_wp2)
   go_ret
   exact ⟨er, bw HB⟩
  intro c12 c12b0 c12b1 H
  (first | rw [c12b0] | (simp only [i64_w, i32_w]; rw [c12b0]) | skip)
  have HC15 := am H
  clear H
  have hnb16 := NB329_328.out
  have hnc16 := NB328_329.out
  have hcz17 := bK w10 BK329
  have hfz17 := bF BK329
  go_upto_if 15 with (fail)
  repeat (go_quiet (fail); go_upto_if 15 with (fail))
  go_cut [15] (fun v15 wc => ∃ (kq : Nat) (x15_14 : Bool), v15 = .bool x15_14 ∧ Aside0 (impl_InsRight.j0 kq a1 a2_0 x15_14 l0_0 a2_0 a2_1 = some r) ∧ Aside0 (kq ≤ k) ∧ Aside0 (wc.heap[gb328]? = some (.cells #[(.slice A0_0 l0_0.length c0_0)] 25 (0, 0))) ∧ Aside0 (wc.heap[gb329]? = some (.cells #[.int .i64 a2_0, .int .i64 a2_1] 38 (0, 0))) ∧ Aside0 (Below w.heap.size w wc))
  case first =>
   have H := HC15.out
   clear HC15
   refine qE H ?_ ?_ <;> clear H
   ·intro c18b0 c18b1 H
    (first | rw [c18b0] | (simp only [i64_w, i32_w]; rw [c18b0]) | skip)
    have H' := am H
    clear H
    go_wp2
    repeat (go_quiet (fail); try go_wp2)
    go_meet
    case rel => exact ⟨_, ((a2_0 == 2)), dr, H', ⟨lk0⟩, ⟨bp BK328⟩, ⟨bp BK329⟩, ⟨bw HB⟩⟩
   intro c18 c18b0 c18b1 H
   (first | rw [c18b0] | (simp only [i64_w, i32_w]; rw [c18b0]) | skip)
   have H' := am H
   clear H
   go_wp2
   repeat (go_quiet (fail); try go_wp2)
   go_meet
   case rel => exact ⟨_, ((a2_0 == 3)), dr, H', ⟨lk0⟩, ⟨bp BK328⟩, ⟨bp BK329⟩, ⟨bw HB⟩⟩
  clear HC15
  (try clear c1); (try clear p2); (try clear c7); (try clear c8); (try clear c11); (try clear c12); (try clear c12b0); (try clear c12b1); (try clear c13); (try clear c16); (try clear c18); (try clear c18b0); (try clear c18b1); (try clear hcz14); (try clear hcz17); (try clear hcz9); (try clear hfz14); (try clear hfz17); (try clear hfz9)
  obtain ⟨kq, x15_14, rfl, HA, HJ14, BK328, BK329, HB⟩ := hcut
  rcases kq with _ | kj14
  ·exact absurd HA.out (by simp [impl_InsRight.j0])
  have H := HA.out
  clear HA
  simp only [impl_InsRight.j0] at H
  refine qT H ?_ ?_ <;> clear H <;> intro c19 H <;> subst c19
  ·refine qL H ?_ ?_ <;> clear H <;> intro c20b0 H
   ·refine iM H ?_; clear H; intro c21b0 H
    refine iM H ?_; clear H; intro c22b0 H
    obtain rfl := Option.some.inj H
    have hnb23 := NB329_328.out
    have hnc23 := NB328_329.out
    have hcz24 := bK wc BK329
    have hfz24 := bF BK329
    have hcz25 := bK wc BK328
    have hfz25 := bF BK328
    have p331 : 0 ≤ (a1 : Int) := of_decide_eq_true as1
    have q331 : a1 < (l0_0.length : Int) := of_decide_eq_true as1
    obtain ⟨ad331, A331_2, c331_2, e331, hx331_0, hx331_1, hx331_2, hl331_2, hi331_2⟩ := at_T35 HR0_0.out a1 p331 q331
    cases e331
    replace hx331_0 := cl HB hx331_0
    replace hx331_1 := cl HB hx331_1
    replace hx331_2 := cl HB hx331_2
    have HR331_2 := am hi331_2
    have HC331_2 := am hl331_2
    clear hi331_2 hl331_2
    replace p331 := eq_true p331
    replace q331 := eq_true q331
    go_wp2
    repeat (go_quiet (fail); try go_wp2)
    go_ret
    exact ⟨er, bw HB⟩
   obtain rfl := Option.some.inj H
   have hnb26 := NB329_328.out
   have hnc26 := NB328_329.out
   have hcz27 := bK wc BK329
   have hfz27 := bF BK329
   go_wp2
   repeat (go_quiet (fail); try go_wp2)
   go_ret
   exact ⟨er, bw HB⟩
  have HC28 := am H
  clear H
  go_upto_if 32 with (fail)
  repeat (go_quiet (fail); go_upto_if 32 with (fail))
  go_cut [32] (fun v32 wc => ∃ (kq : Nat) (x32_27 : Bool), v32 = .bool x32_27 ∧ Aside0 (impl_InsRight.j1 kq a1 a2_0 x32_27 l0_0 a2_0 a2_1 = some r) ∧ Aside0 (kq ≤ kj14) ∧ Aside0 (wc.heap[gb328]? = some (.cells #[(.slice A0_0 l0_0.length c0_0)] 25 (0, 0))) ∧ Aside0 (wc.heap[gb329]? = some (.cells #[.int .i64 a2_0, .int .i64 a2_1] 38 (0, 0))) ∧ Aside0 (Below w.heap.size w wc))
  case first =>
   have H := HC28.out
   clear HC28
   refine qE H ?_ ?_ <;> clear H
   ·intro c29b0 c29b1 H
    (first | rw [c29b0] | (simp only [i64_w, i32_w]; rw [c29b0]) | skip)
    have H' := am H
    clear H
    go_wp2
    repeat (go_quiet (fail); try go_wp2)
    go_meet
    case rel => exact ⟨_, ((a2_0 == 30)), dr, H', ⟨lk1 HJ14⟩, ⟨bp BK328⟩, ⟨bp BK329⟩, ⟨bw HB⟩⟩
   intro c29 c29b0 c29b1 H
   (first | rw [c29b0] | (simp only [i64_w, i32_w]; rw [c29b0]) | skip)
   have H' := am H
   clear H
   go_wp2
   repeat (go_quiet (fail); try go_wp2)
   go_meet
   case rel => exact ⟨_, ((a2_0 == 31)), dr, H', ⟨lk1 HJ14⟩, ⟨bp BK328⟩, ⟨bp BK329⟩, ⟨bw HB⟩⟩
  clear HC28
  (try clear c2); (try clear c3); (try clear p3); (try clear q3); (try clear hx3); (try clear c19); (try clear c20); (try clear c20b0); (try clear c21); (try clear c21b0); (try clear c22); (try clear c22b0); (try clear c23); (try clear c26); (try clear c29); (try clear c29b0); (try clear c29b1); (try clear hcz24); (try clear hcz25); (try clear hcz27); (try clear hfz24); (try clear hfz25); (try clear hfz27); (try clear hx331_0); (try clear hx331_1); (try clear hx331_2); (try clear p331); (try clear q331)
  obtain ⟨kq, x32_27, rfl, HA, HJ27, BK328, BK329, HB⟩ := hcut
  rcases kq with _ | kj27
  ·exact absurd HA.out (by simp [impl_InsRight.j1])
  have H := HA.out
  clear HA
  simp only [impl_InsRight.j1] at H
  refine qT H ?_ ?_ <;> clear H <;> intro c30 H <;> subst c30
  ·refine qL H ?_ ?_ <;> clear H <;> intro c31b0 H
   ·refine iM H ?_; clear H; intro c32b0 H
    refine iM H ?_; clear H; intro c33b0 H
    obtain rfl := Option.some.inj H
    have hnb34 := NB329_328.out
    have hnc34 := NB328_329.out
    have hcz35 := bK wc BK329
    have hfz35 := bF BK329
    have hcz36 := bK wc BK328
    have hfz36 := bF BK328
    have p332 : 0 ≤ (a1 : Int) := of_decide_eq_true as1
    have q332 : a1 < (l0_0.length : Int) := of_decide_eq_true as1
    obtain ⟨ad332, A332_2, c332_2, e332, hx332_0, hx332_1, hx332_2, hl332_2, hi332_2⟩ := at_T35 HR0_0.out a1 p332 q332
    cases e332
    replace hx332_0 := cl HB hx332_0
    replace hx332_1 := cl HB hx332_1
    replace hx332_2 := cl HB hx332_2
    have HR332_2 := am hi332_2
    have HC332_2 := am hl332_2
    clear hi332_2 hl332_2
    replace p332 := eq_true p332
    replace q332 := eq_true q332
    go_wp2
    repeat (go_quiet (fail); try go_wp2)
    go_ret
    exact ⟨er, bw HB⟩
   obtain rfl := Option.some.inj H
   have hnb37 := NB329_328.out
   have hnc37 := NB328_329.out
   have hcz38 := bK wc BK329
   have hfz38 := bF BK329
   go_wp2
   repeat (go_quiet (fail); try go_wp2)
   go_ret
   exact ⟨er, bw HB⟩
  refine qE H ?_ ?_ <;> clear H
  ·intro c39b0 c39b1 H
   refine be H ?_; clear H; intro t333 A40 H
   obtain rfl := Option.some.inj H
   have hnb41 := NB328_329.out
   have hnc41 := NB329_328.out
   have hcz42 := bK wc BK328
   have hfz42 := bF BK328
   have hcz43 := bK wc BK329
   have hfz43 := bF BK329
   go_wp2_with (first | (go_at_call 38; refine (impl_hasFunc.calls _ _ l0_0 a2_1 t333 _ (cc (Kd.C_below HR0_0.out HB.out)) HC0_0.out A40.out).mono ?_; rintro e w44 ⟨rfl, hb⟩; replace BK328 := bb BK328 hb; replace BK329 := bb BK329 hb; replace HB := bs HB hb; clear hb))
   repeat (go_quiet (first | (go_at_call 38; refine (impl_hasFunc.calls _ _ l0_0 a2_1 t333 _ (cc (Kd.C_below HR0_0.out HB.out)) HC0_0.out A40.out).mono ?_; rintro e w44 ⟨rfl, hb⟩; replace BK328 := bb BK328 hb; replace BK329 := bb BK329 hb; replace HB := bs HB hb; clear hb)); try go_wp2_with (first | (go_at_call 38; refine (impl_hasFunc.calls _ _ l0_0 a2_1 t333 _ (cc (Kd.C_below HR0_0.out HB.out)) HC0_0.out A40.out).mono ?_; rintro e w44 ⟨rfl, hb⟩; replace BK328 := bb BK328 hb; replace BK329 := bb BK329 hb; replace HB := bs HB hb; clear hb)))
   go_ret
   exact ⟨er, bw HB⟩
  intro c39 c39b0 c39b1 H
  refine be H ?_; clear H; intro t334 A45 H
  by_cases c46 : t334.toList = ([] : List UInt8)
  ·rw [if_pos c46] at H
   have c46b0 : (t334.toList == ([] : List UInt8)) = true := beq_iff_eq.mpr c46
   have c46b1 : (t334.toList != ([] : List UInt8)) = false := bne_eq_false_iff_eq.mpr c46
   clear c46
   obtain rfl := Option.some.inj H
   have hnb47 := NB329_328.out
   have hnc47 := NB328_329.out
   have hcz48 := bK wc BK329
   have hfz48 := bF BK329
   go_wp2_with (first | (go_at_call 102; (with_reducible refine (impl_OpName.calls a2_0 t334 _ A45.out).mono ?_); rintro e w49 ⟨rfl, hb⟩; replace BK328 := bb BK328 hb; replace BK329 := bb BK329 hb; replace HB := bs HB hb; clear hb))
   repeat (go_quiet (first | (go_at_call 102; (with_reducible refine (impl_OpName.calls a2_0 t334 _ A45.out).mono ?_); rintro e w49 ⟨rfl, hb⟩; replace BK328 := bb BK328 hb; replace BK329 := bb BK329 hb; replace HB := bs HB hb; clear hb)); try go_wp2_with (first | (go_at_call 102; (with_reducible refine (impl_OpName.calls a2_0 t334 _ A45.out).mono ?_); rintro e w49 ⟨rfl, hb⟩; replace BK328 := bb BK328 hb; replace BK329 := bb BK329 hb; replace HB := bs HB hb; clear hb)))
   go_ret
   exact ⟨er, bw HB⟩
  rw [if_neg c46] at H
  have c46b0 : (t334.toList == ([] : List UInt8)) = false := beq_eq_false_iff_ne.mpr c46
  have c46b1 : (t334.toList != ([] : List UInt8)) = true := bne_iff_ne.mpr c46
  obtain rfl := Option.some.inj H
  have hnb50 := NB329_328.out
  have hnc50 := NB328_329.out
  have hcz51 := bK wc BK329
  have hfz51 := bF BK329
  go_wp2_with (first | (go_at_call 102; (with_reducible refine (impl_OpName.calls a2_0 t334 _ A45.out).mono ?_); rintro e w52 ⟨rfl, hb⟩; replace BK328 := bb BK328 hb; replace BK329 := bb BK329 hb; replace HB := bs HB hb; clear hb; have hcz53 := bK w52 BK329; have hfz53 := bF BK329))
  repeat (go_quiet (first | (go_at_call 102; (with_reducible refine (impl_OpName.calls a2_0 t334 _ A45.out).mono ?_); rintro e w52 ⟨rfl, hb⟩; replace BK328 := bb BK328 hb; replace BK329 := bb BK329 hb; replace HB := bs HB hb; clear hb; have hcz53 := bK w52 BK329; have hfz53 := bF BK329)); try go_wp2_with (first | (go_at_call 102; (with_reducible refine (impl_OpName.calls a2_0 t334 _ A45.out).mono ?_); rintro e w52 ⟨rfl, hb⟩; replace BK328 := bb BK328 hb; replace BK329 := bb BK329 hb; replace HB := bs HB hb; clear hb; have hcz53 := bK w52 BK329; have hfz53 := bF BK329)))
  go_ret
  exact ⟨er, bw HB⟩
 obtain rfl := Option.some.inj H
 go_wp2
 repeat (go_quiet (fail); try go_wp2)
 go_ret
 exact ⟨er, bw HB⟩

def impl_isBinary.f (a0 : Int) : Option (Bool) := (impl_in.f a0 10 23).bind fun t335 => (some t335)
theorem impl_isBinary.calls (a0 : Int) (r : Bool) (w : World) (h : impl_isBinary.f a0 = some r) :
  Calls Try.prog 37 #[.int .i64 a0] w fun e w' => e = .returned (.bool r) ∧ Drawn0 w w' := by
 have H : ((impl_in.f a0 10 23).bind fun t335 => (some t335)) = some r := h
 clear h
 refine be H ?_; clear H; intro t335 A2 H
 obtain rfl := Option.some.inj H
 go_enter Try.func37, Try.ntmps37
 go_wp2_with (first | ((with_reducible refine gate_callee (f := 71) rfl ?_); refine goesL_ (some 4) rfl rfl Try.func71 (by kernel_rfl) rfl #[.int .i64 a0, .int .i64 10, .int .i64 23] rfl gl ?_; (with_reducible refine (impl_in.calls a0 10 23 t335 _ A2.out).mono ?_); rintro e w' ⟨rfl, ⟨nd, rfl⟩⟩; refine ⟨_, rfl, ?_⟩))
 go_ret
 exact ⟨by first | rfl | (simp; done) | (simp [*]; done), by repeat (first | exact Drawn0.refl _ | apply Drawn0.step)⟩

def impl_isUnary.f (a0 : Int) : Option (Bool) := (impl_in.f a0 24 29).bind fun t336 => (some t336)
theorem impl_isUnary.calls (a0 : Int) (r : Bool) (w : World) (h : impl_isUnary.f a0 = some r) :
  Calls Try.prog 39 #[.int .i64 a0] w fun e w' => e = .returned (.bool r) ∧ Drawn0 w w' := by
 have H : ((impl_in.f a0 24 29).bind fun t336 => (some t336)) = some r := h
 clear h
 refine be H ?_; clear H; intro t336 A2 H
 obtain rfl := Option.some.inj H
 go_enter Try.func39, Try.ntmps39
 go_wp2_with (first | ((with_reducible refine gate_callee (f := 71) rfl ?_); refine goesL_ (some 4) rfl rfl Try.func71 (by kernel_rfl) rfl #[.int .i64 a0, .int .i64 24, .int .i64 29] rfl gl ?_; (with_reducible refine (impl_in.calls a0 24 29 t336 _ A2.out).mono ?_); rintro e w' ⟨rfl, ⟨nd, rfl⟩⟩; refine ⟨_, rfl, ?_⟩))
 go_ret
 exact ⟨by first | rfl | (simp; done) | (simp [*]; done), by repeat (first | exact Drawn0.refl _ | apply Drawn0.step)⟩

end Go.Proofs.Ytopaefhfjioecaa.QFnRanges
