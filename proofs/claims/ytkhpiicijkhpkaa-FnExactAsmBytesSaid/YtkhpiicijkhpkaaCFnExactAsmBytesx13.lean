import Derived.Test.YtkhpiicijkhpkaaCFnExactAsmBytesx0
import Derived.Test.YtkhpiicijkhpkaaCFnExactAsmBytesx12
namespace Go.Proofs.Ytkhpiicijkhpkaa.QFnExactAsmBytes
open Go.RowKit Go.Proofs.YtkhpiicijkhpkaaW
open PrintWords PrintLast PrintMore PrintShort PrintIsh
attribute [local go_sem] max2_int min2_int max_two min_two max_three min_three max_four min_four
set_option linter.unusedVariables false
set_option maxHeartbeats 8000000
set_option maxRecDepth 100000
set_option linter.unusedSimpArgs false

def spec_l01Fold.f (a0 : Int) : Option (Int) := if a0 < 0 then (some (IntKind.u64.wrap ((IntKind.u64.wrap (2 * (IntKind.u64.wrap (wrap64 (-(wrap64 (a0 + 1))))))) + 1))) else (some (IntKind.u64.wrap (2 * (IntKind.u64.wrap (a0)))))
theorem spec_l01Fold.calls (a0 : Int) (r : Int) (w : World) (h : spec_l01Fold.f a0 = some r) :
  Calls Try.prog 87 #[.int .i64 a0] w fun e w' => e = .returned (.int .u64 r) ∧ Drawn0 w w' := by
 have H : (if a0 < 0 then (some (IntKind.u64.wrap ((IntKind.u64.wrap (2 * (IntKind.u64.wrap (wrap64 (-(wrap64 (a0 + 1))))))) + 1))) else (some (IntKind.u64.wrap (2 * (IntKind.u64.wrap (a0)))))) = some r := h
 clear h
 refine qI H ?_ ?_ <;> clear H <;> intro c2b0 H
 ·obtain rfl := oi H
  go_enter Try.func87, Try.ntmps87
  go_wp2
  go_ret
  exact ⟨by first | rfl | (simp; done) | (simp [*]; done), by repeat (first | exact Drawn0.refl _ | apply Drawn0.step)⟩
 obtain rfl := oi H
 go_enter Try.func87, Try.ntmps87
 go_wp2
 go_ret
 exact ⟨by first | rfl | (simp; done) | (simp [*]; done), by repeat (first | exact Drawn0.refl _ | apply Drawn0.step)⟩

def spec_PutNum.l0 : Nat → Int → List Int → Option (ByteArray)
 | 0, _, _ => none
 | k + 1, x3, x4 => if x3 ≥ 128 then (if x4.length < 140737488355328 then (spec_PutNum.l0 k (IntKind.u64.wrap (Int.tdiv x3 128)) (x4 ++ [(IntKind.u64.wrap ((Int.tmod x3 128) + 128)) % 256])) else (none)) else (if x4.length < 140737488355328 then (some (strOfNums (x4 ++ [(x3) % 256]))) else (none))
def spec_PutNum.f (k : Nat) (a0 : Int) : Option (ByteArray) := (spec_l01Fold.f a0).bind fun t300 => (spec_PutNum.l0 k t300 (([] : List Int)))
theorem spec_PutNum.calls (k : Nat) (a0 : Int) (r : ByteArray) (w : World) (h : spec_PutNum.f k a0 = some r) :
  Calls Try.prog 44 #[.int .i64 a0] w fun e w' => e = .returned (.string r) ∧ Below w.heap.size w w' := by
 have HB := am (Below.refl w.heap.size w)
 have H : ((spec_l01Fold.f a0).bind fun t300 => (spec_PutNum.l0 k t300 (([] : List Int)))) = some r := h
 clear h
 refine be H ?_; clear H; intro t300 A2 H
 obtain ⟨y301, hy301⟩ : ∃ y_ : List Int, y_ = (([] : List Int)) := ⟨_, rfl⟩
 replace H : (spec_PutNum.l0 k t300 y301) = some r := cg hy301 H
 have Ny301 := am hy301
 clear hy301
 have H' := am H
 clear H
 go_enter Try.func44, Try.ntmps44
 go_wp2_with (first | ((with_reducible refine gate_callee (f := 87) rfl ?_); refine goesL_ (some 6) rfl rfl Try.func87 (by kernel_rfl) rfl #[.int .i64 a0] rfl gl ?_; (with_reducible refine (spec_l01Fold.calls a0 t300 _ A2.out).mono ?_); rintro e w' ⟨rfl, ⟨nd, rfl⟩⟩; refine ⟨_, rfl, ?_⟩) | ((with_reducible refine gate_dst (N := 7) rfl ?_); refine Kd.R_lit (Kd.int .u8) _ 5 ?hg (N := 7) ?hd (xs := ([] : List Int)) (inner := []) (ok := fun _ => True) (okp := fun _ => True) ?hr ?hp (fun _ hk => hk) trivial (Below.refl _ _) (Nat.le_refl _) (by simp) ?_; (case hd => rfl); (case hg => rfl); (case hr => exact gs); (case hp => exact (Reps.none _ _)); intro v302 w3 ho4 hb hg_ hnew_; clear hg_ hnew_; (first | rw [← Ny301.out] at ho4 | (simp only [Int.reduceToNat] at ho4; rw [← Ny301.out] at ho4)); have HO303 := am (Kd.R_lower ho4 (below_size (bw HB))); replace HB := bs HB hb; clear hb ho4))
 go_loopg [3, 4] k (fun kq v3 v4 w' => ∃ (x3_1 : Int) (x4_1 : List Int), v3 = .int .u64 x3_1 ∧ Aside0 (spec_PutNum.l0 kq x3_1 x4_1 = some r) ∧ Aside0 (kq ≤ k) ∧ Aside0 (Kd.R (Kd.int .u8) 5 w' w.heap.size (fun _ => True) v4 x4_1) ∧ Aside0 (Below w.heap.size w w'))
 case atStart => exact ⟨(t300), (y301), dr, H', ⟨Nat.le_refl _⟩, ⟨kR HO303⟩, ⟨bw HB⟩⟩
 clear H'
 obtain ⟨x3_1, x4_1, rfl, HA, HK1, HO_4, HB⟩ := hrel
 rcases gk with _ | k1
 ·exact absurd HA.out (by simp [spec_PutNum.l0])
 have H := HA.out
 clear HA
 simp only [spec_PutNum.l0] at H
 refine qL H ?_ ?_ <;> clear H <;> intro c5b0 H
 ·refine iN H ?_; clear H; intro c6 H
  have LMc6 := am c6
  clear c6
  obtain ⟨y304, hy304⟩ : ∃ y_ : List Int, y_ = (x4_1 ++ [(IntKind.u64.wrap ((Int.tmod x3_1 128) + 128)) % 256]) := ⟨_, rfl⟩
  replace H : (spec_PutNum.l0 k1 (IntKind.u64.wrap (Int.tdiv x3_1 128)) y304) = some r := cg hy304 H
  have Ny304 := am hy304
  clear hy304
  have H' := am H
  clear H
  go_wp2_with (first | ((with_reducible refine gate_builtin (b := .append) (xs := #[.tmp 10, .tmp 15]) rfl ?_); at_builtin; refine Kd.R_append (Kd.int .u8) (w0 := w) w.heap.size rfl (.tmp 10) (.tmp 15) 75 5 (.int .u8 0) 1 rfl Try.underlying75 info5 rfl (by decide) (by omega) u4 x4_1 ((IntKind.u64.wrap ((Int.tmod x3_1 128) + 128)) % 256) [.int .u8 ((IntKind.u64.wrap ((Int.tmod x3_1 128) + 128)) % 256)] (fun _ => True) (fun _ => False) rfl rfl ?aP (fun _ hk => hk.elim) ?aF ?aO ?aB ?aS ?aL ?_; (case aP => exact rfl); (case aB => exact (bw HB)); (case aF => exact (fun _ _ => trivial)); (case aO => exact (kR HO_4)); (case aS => exact (below_size (bw HB))); (case aL => have := LMc6.out; omega); intro v305 w7 ho hb hg hat; rw [← Ny304.out] at ho; replace HB := am (hb); have HO306 := am (ho); clear HO_4; clear ho hb hg hat))
  go_roundg k1
  case measure => have := HK1.out; omega
  case rel => exact ⟨(IntKind.u64.wrap (Int.tdiv x3_1 128)), (y304), dr, H', ⟨by have := HK1.out; omega⟩, ⟨kR HO306⟩, ⟨bw HB⟩⟩
 refine iN H ?_; clear H; intro c8 H
 have LMc8 := am c8
 clear c8
 obtain ⟨y307, hy307⟩ : ∃ y_ : List Int, y_ = (x4_1 ++ [(x3_1) % 256]) := ⟨_, rfl⟩
 replace H : (some (strOfNums y307)) = some r := cg hy307 H
 have Ny307 := am hy307
 clear hy307
 obtain rfl := oi H
 go_wp2_with (first | ((with_reducible refine gate_builtin (b := .append) (xs := #[.tmp 19, .tmp 22]) rfl ?_); at_builtin; refine Kd.R_append (Kd.int .u8) (w0 := w) w.heap.size rfl (.tmp 19) (.tmp 22) 75 5 (.int .u8 0) 1 rfl Try.underlying75 info5 rfl (by decide) (by omega) u4 x4_1 ((x3_1) % 256) [.int .u8 ((x3_1) % 256)] (fun _ => True) (fun _ => False) rfl rfl ?aP (fun _ hk => hk.elim) ?aF ?aO ?aB ?aS ?aL ?_; (case aP => exact rfl); (case aB => exact (bw HB)); (case aF => exact (fun _ _ => trivial)); (case aO => exact (kR HO_4)); (case aS => exact (below_size (bw HB))); (case aL => have := LMc8.out; omega); intro v308 w9 ho hb hg hat; rw [← Ny307.out] at ho; replace HB := am (hb); have HO309 := am (ho); clear HO_4; clear ho hb hg hat; have hcv10 := own_string (P := Try.prog) Try.underlying75 Try.underlying5 Try.underlying9 (Kd.own_of_R HO309.out)))
 go_ret
 exact ⟨er, bw HB⟩

def spec_l10PutVals.l0 : Nat → List Int → List (S82) → Int → Option (List Int)
 | 0, _, _, _ => none
 | k + 1, x0, x1, x5 => if x5 < (x1.length : Int) then (if 0 ≤ x5 then ((spec_PutNum.f k ((rd_T82 x1 x5).f0)).bind fun t315 => (if x0.length + t315.size < 140737488355328 then ((some (x0 ++ bytesOf t315 : List Int)).bind fun y316 => ((spec_PutNum.f k ((rd_T82 x1 x5).f1)).bind fun t320 => (if y316.length + t320.size < 140737488355328 then (spec_l10PutVals.l0 k (y316 ++ bytesOf t320) x1 (wrap64 (x5 + 1))) else (none)))) else (none))) else (none)) else (some x0)
def spec_l10PutVals.f (k : Nat) (l0 : List Int) (l1 : List (S82)) : Option (List Int) := (spec_PutNum.f k (l1.length : Int)).bind fun t310 => (if l0.length + t310.size < 140737488355328 then (spec_l10PutVals.l0 k (l0 ++ bytesOf t310) l1 0) else (none))
theorem spec_l10PutVals.calls (k : Nat) (P0_ : Nat → Prop) (u9000_ : Value) (l0 : List Int) (A1 : Option Addr) (c1 : Nat) (l1 : List (S82)) (r : List Int) (w0 w : World) (hB : Below w0.heap.size w0 w) (ho0 : Kd.R (Kd.int .u8) 5 w w0.heap.size P0_ u9000_ l0) (hr1 : ∀ W_, Kept w W_ (fun k_ => P0_ k_) → Kd.C k82 W_ A1 l1.length l1) (hc1 : l1.length ≤ c1) (h : spec_l10PutVals.f k l0 l1 = some r) :
  Calls Try.prog 45 #[u9000_, .slice A1 l1.length c1] w fun e w' => ∃ v0_ : Value, e = .returned (v0_) ∧ Kd.R (Kd.int .u8) 5 w' w0.heap.size (fun k_ => (P0_ k_ ∨ w.heap.size ≤ k_)) v0_ r ∧ Below w0.heap.size w0 w' ∧ Kept w w' (fun k_ => P0_ k_) := by
 have HO0 := am (show Kd.R (Kd.int .u8) 5 w w0.heap.size (fun k_ => (P0_ k_ ∨ w.heap.size ≤ k_)) u9000_ l0 from Kd.R_mono ho0 (fun k_ hk => (.inl hk)))
 have HR1 := am hr1
 have HC1 := am hc1
 clear hr1 hc1
 have HK := am (Kept.refl w (fun k_ => P0_ k_))
 have HW0 := am hB.size
 have HB := am hB
 clear hB
 have H : ((spec_PutNum.f k (l1.length : Int)).bind fun t310 => (if l0.length + t310.size < 140737488355328 then (spec_l10PutVals.l0 k (l0 ++ bytesOf t310) l1 0) else (none))) = some r := h
 clear h
 refine be H ?_; clear H; intro t310 A3 H
 refine iN H ?_; clear H; intro c4 H
 have LMc4 := am c4
 clear c4
 obtain ⟨y311, hy311⟩ : ∃ y_ : List Int, y_ = (l0 ++ bytesOf t310) := ⟨_, rfl⟩
 replace H : (spec_l10PutVals.l0 k y311 l1 0) = some r := cg hy311 H
 have Ny311 := am hy311
 clear hy311
 have H' := am H
 clear H
 go_enter Try.func45, Try.ntmps45
 go_wp2_with (first | ((with_reducible refine gate_callee (f := 44) rfl ?_); refine goesL_ (some 9) rfl rfl Try.func44 (by kernel_rfl) rfl #[.int .i64 (l1.length : Int)] rfl gl ?_; (with_reducible refine (spec_PutNum.calls k (l1.length : Int) t310 _ A3.out).mono ?_); rintro e w5 ⟨rfl, hb⟩; refine ⟨_, rfl, ?_⟩; replace HO0 := am (Kd.R_below (kR HO0) hb); replace HK := am (Kept.below (S := (fun k_ => P0_ k_)) (by repeat (first | (with_reducible first | exact HK.out | apply Kept.alloc | apply Kept.drewN | apply Kept.drew) | exact HK.out)) hb); replace HB := bs HB hb; clear hb) | (at_builtin; refine Kd.R_append_str (ok := (fun k_ => (P0_ k_ ∨ w.heap.size ≤ k_))) (w0 := w0) w0.heap.size rfl (.tmp 6) _ 75 9 5 rfl Try.underlying75 Try.underlying9 info5 u9000_ l0 t310 rfl rfl ?aF ?aO ?aB ?aS ?aL ?_; (case aB => exact (bw HB)); (case aF => exact (fun k_ hk => (.inr (Nat.le_trans (by first | exact HK.out.1 | exact (show Kept w _ (fun k_ => P0_ k_) from by repeat (first | (with_reducible first | exact HK.out | apply Kept.alloc | apply Kept.drewN | apply Kept.drew) | exact HK.out)).1) hk)))); (case aO => exact (kR HO0)); (case aS => exact (below_size (bw HB))); (case aL => have := LMc4.out; omega); intro v312 w6 ho hb hg hat; rw [← Ny311.out] at ho; replace HB := am (hb); replace HK := am (Kept.of_grown (S := (fun k_ => P0_ k_)) hg (by repeat (first | (with_reducible first | exact HK.out | apply Kept.alloc | apply Kept.drewN | apply Kept.drew) | exact HK.out)) (fun k_ e_ => (HO0.out.1 k_ e_))); have HO313 := am (ho); clear HO0; clear ho hb hg hat))
 go_loopg [0, 5] k (fun kq v0 v5 w' => ∃ (x0_1 : List Int) (x5_1 : Int), v5 = .int .i64 x5_1 ∧ Aside0 (spec_l10PutVals.l0 kq x0_1 l1 x5_1 = some r) ∧ Aside0 (kq ≤ k) ∧ Aside0 (Kd.R (Kd.int .u8) 5 w' w0.heap.size (fun k_ => (P0_ k_ ∨ w.heap.size ≤ k_)) v0 x0_1) ∧ Aside0 (Kept w w' (fun k_ => P0_ k_)) ∧ Aside0 (Below w0.heap.size w0 w'))
 case atStart => exact ⟨(y311), (0), dr, H', ⟨Nat.le_refl _⟩, ⟨kR HO313⟩, ⟨by repeat (first | (with_reducible first | exact HK.out | apply Kept.alloc | apply Kept.drewN | apply Kept.drew) | exact HK.out)⟩, ⟨bw HB⟩⟩
 clear H'
 obtain ⟨x0_1, x5_1, rfl, HA, HK1, HO_0, HK, HB⟩ := hrel
 rcases gk with _ | k1
 ·exact absurd HA.out (by simp [spec_l10PutVals.l0])
 have H := HA.out
 clear HA
 simp only [spec_l10PutVals.l0] at H
 refine qI H ?_ ?_ <;> clear H <;> intro c7b0 H
 ·refine iM H ?_; clear H; intro c8b0 H
  refine be H ?_; clear H; intro t315 A9 H
  refine iN H ?_; clear H; intro c10 H
  have LMc10 := am c10
  clear c10
  obtain ⟨y316, hy316⟩ : ∃ y_ : List Int, y_ = (x0_1 ++ bytesOf t315) := ⟨_, rfl⟩
  replace H : ((spec_PutNum.f k1 ((rd_T82 l1 x5_1).f1)).bind fun t320 => (if y316.length + t320.size < 140737488355328 then (spec_l10PutVals.l0 k1 (y316 ++ bytesOf t320) l1 (wrap64 (x5_1 + 1))) else (none))) = some r := cg hy316 H
  have Ny316 := am hy316
  clear hy316
  refine be H ?_; clear H; intro t320 A11 H
  refine iN H ?_; clear H; intro c12 H
  have LMc12 := am c12
  clear c12
  obtain ⟨y321, hy321⟩ : ∃ y_ : List Int, y_ = (y316 ++ bytesOf t320) := ⟨_, rfl⟩
  replace H : (spec_l10PutVals.l0 k1 y321 l1 (wrap64 (x5_1 + 1))) = some r := cg hy321 H
  have Ny321 := am hy321
  clear hy321
  have H' := am H
  clear H
  have p314 : 0 ≤ (x5_1 : Int) := dt
  have q314 : x5_1 < (l1.length : Int) := dt
  obtain ⟨ad314, e314, hx314_0, hx314_1⟩ := at_T82 (Kd.C_kept_now HR1.out HK.out) x5_1 p314 q314
  cases e314
  replace p314 := eq_true p314
  replace q314 := eq_true q314
  go_wp2_with (first | ((with_reducible refine gate_callee (f := 44) rfl ?_); refine goesL_ (some 23) rfl rfl Try.func44 (by kernel_rfl) rfl #[.int .i64 ((rd_T82 l1 x5_1).f0)] rfl gl ?_; (with_reducible refine (spec_PutNum.calls k1 ((rd_T82 l1 x5_1).f0) t315 _ A9.out).mono ?_); rintro e w13 ⟨rfl, hb⟩; refine ⟨_, rfl, ?_⟩; replace HO_0 := am (Kd.R_below (kR HO_0) hb); replace HK := am (Kept.below (S := (fun k_ => P0_ k_)) (by repeat (first | (with_reducible first | exact HK.out | apply Kept.alloc | apply Kept.drewN | apply Kept.drew) | exact HK.out)) hb); replace HB := bs HB hb; clear hb) | (at_builtin; refine Kd.R_append_str (ok := (fun k_ => (P0_ k_ ∨ w.heap.size ≤ k_))) (w0 := w0) w0.heap.size rfl (.tmp 17) _ 75 9 5 rfl Try.underlying75 Try.underlying9 info5 u0 x0_1 t315 rfl rfl ?aF ?aO ?aB ?aS ?aL ?_; (case aB => exact (bw HB)); (case aF => exact (fun k_ hk => (.inr (Nat.le_trans (by first | exact HK.out.1 | exact (show Kept w _ (fun k_ => P0_ k_) from by repeat (first | (with_reducible first | exact HK.out | apply Kept.alloc | apply Kept.drewN | apply Kept.drew) | exact HK.out)).1) hk)))); (case aO => exact (kR HO_0)); (case aS => exact (below_size (bw HB))); (case aL => have := LMc10.out; omega); intro v317 w14 ho hb hg hat; rw [← Ny316.out] at ho; replace HB := am (hb); replace HK := am (Kept.of_grown (S := (fun k_ => P0_ k_)) hg (by repeat (first | (with_reducible first | exact HK.out | apply Kept.alloc | apply Kept.drewN | apply Kept.drew) | exact HK.out)) (fun k_ e_ => (HO_0.out.1 k_ e_))); have HO318 := am (ho); clear HO_0; clear ho hb hg hat; have p319 : 0 ≤ (x5_1 : Int) := dt; have q319 : x5_1 < (l1.length : Int) := dt; obtain ⟨ad319, e319, hx319_0, hx319_1⟩ := at_T82 (Kd.C_kept_now HR1.out HK.out) x5_1 p319 q319; obtain rfl : ad314 = ad319 := (by injection e319); replace p319 := eq_true p319; replace q319 := eq_true q319) | ((with_reducible refine gate_callee (f := 44) rfl ?_); refine goesL_ (some 31) rfl rfl Try.func44 (by kernel_rfl) rfl #[.int .i64 ((rd_T82 l1 x5_1).f1)] rfl gl ?_; (with_reducible refine (spec_PutNum.calls k1 ((rd_T82 l1 x5_1).f1) t320 _ A11.out).mono ?_); rintro e w15 ⟨rfl, hb⟩; refine ⟨_, rfl, ?_⟩; replace HO318 := am (Kd.R_below (kR HO318) hb); replace HK := am (Kept.below (S := (fun k_ => P0_ k_)) (by repeat (first | (with_reducible first | exact HK.out | apply Kept.alloc | apply Kept.drewN | apply Kept.drew) | exact HK.out)) hb); replace HB := bs HB hb; clear hb) | (at_builtin; refine Kd.R_append_str (ok := (fun k_ => (P0_ k_ ∨ w.heap.size ≤ k_))) (w0 := w0) w0.heap.size rfl (.tmp 25) _ 75 9 5 rfl Try.underlying75 Try.underlying9 info5 v317 y316 t320 rfl rfl ?aF ?aO ?aB ?aS ?aL ?_; (case aB => exact (bw HB)); (case aF => exact (fun k_ hk => (.inr (Nat.le_trans (by first | exact HK.out.1 | exact (show Kept w _ (fun k_ => P0_ k_) from by repeat (first | (with_reducible first | exact HK.out | apply Kept.alloc | apply Kept.drewN | apply Kept.drew) | exact HK.out)).1) hk)))); (case aO => exact (kR HO318)); (case aS => exact (below_size (bw HB))); (case aL => have := LMc12.out; omega); intro v322 w16 ho hb hg hat; rw [← Ny321.out] at ho; replace HB := am (hb); replace HK := am (Kept.of_grown (S := (fun k_ => P0_ k_)) hg (by repeat (first | (with_reducible first | exact HK.out | apply Kept.alloc | apply Kept.drewN | apply Kept.drew) | exact HK.out)) (fun k_ e_ => (HO318.out.1 k_ e_))); have HO323 := am (ho); clear HO318; clear ho hb hg hat))
  go_roundg k1
  case measure => have := HK1.out; omega
  case rel => exact ⟨(y321), (wrap64 (x5_1 + 1)), dr, H', ⟨by have := HK1.out; omega⟩, ⟨kR HO323⟩, ⟨by repeat (first | (with_reducible first | exact HK.out | apply Kept.alloc | apply Kept.drewN | apply Kept.drew) | exact HK.out)⟩, ⟨bw HB⟩⟩
 obtain rfl := oi H
 go_wp2
 go_ret
 exact ⟨_, er, kR HO_0, bw HB, by repeat (first | (with_reducible first | exact HK.out | apply Kept.alloc | apply Kept.drewN | apply Kept.drew) | exact HK.out)⟩

mutual
def spec_AsmBytes.l0 : Nat → List Int → Int → Int → List (S80) → List (List (S82)) → Option (ByteArray)
 | 0, _, _, _, _, _ => none
 | k + 1, x5, x6, x326000, x326001, x326002 => if x6 < (x326001.length : Int) then (if 0 ≤ x6 then ((spec_PutNum.f k (((rd_T80 x326001 x6).f0).length : Int)).bind fun t340 => (if x5.length + t340.size < 140737488355328 then (spec_AsmBytes.l1 k (x5 ++ bytesOf t340) x6 0 x326000 x326001 x326002 ((rd_T80 x326001 x6).f0) ((rd_T80 x326001 x6).f1) ((rd_T80 x326001 x6).f2) ((rd_T80 x326001 x6).f3) ((rd_T80 x326001 x6).f4)) else (none))) else (none)) else (some (strOfNums x5))
def spec_AsmBytes.l1 : Nat → List Int → Int → Int → Int → List (S80) → List (List (S82)) → List (S84) → Int → Int → List (S82) → Int → Option (ByteArray)
 | 0, _, _, _, _, _, _, _, _, _, _, _ => none
 | k + 1, x5, x6, x8, x326000, x326001, x326002, x340000, x340001, x340002, x340003, x340004 => if x8 < (x340000.length : Int) then (if 0 ≤ x8 then ((spec_PutNum.f k ((rd_T84 x340000 x8).f0)).bind fun t345 => (if x5.length + t345.size < 140737488355328 then ((some (x5 ++ bytesOf t345 : List Int)).bind fun y346 => ((spec_PutNum.f k ((rd_T84 x340000 x8).f1.f0)).bind fun t350 => (if y346.length + t350.size < 140737488355328 then ((some (y346 ++ bytesOf t350 : List Int)).bind fun y351 => ((spec_PutNum.f k ((rd_T84 x340000 x8).f1.f1)).bind fun t355 => (if y351.length + t355.size < 140737488355328 then (spec_AsmBytes.l1 k (y351 ++ bytesOf t355) x6 (wrap64 (x8 + 1)) x326000 x326001 x326002 x340000 x340001 x340002 x340003 x340004) else (none)))) else (none)))) else (none))) else (none)) else ((spec_PutNum.f k x340001).bind fun t359 => (if x5.length + t359.size < 140737488355328 then ((some (x5 ++ bytesOf t359 : List Int)).bind fun y360 => ((spec_PutNum.f k x340002).bind fun t363 => (if y360.length + t363.size < 140737488355328 then ((some (y360 ++ bytesOf t363 : List Int)).bind fun y364 => ((spec_PutNum.f k x340004).bind fun t367 => (if y364.length + t367.size < 140737488355328 then ((spec_l10PutVals.f k (y364 ++ bytesOf t367) x340003).bind fun t371 => (if 0 ≤ x6 then (if x6 < (x326002.length : Int) then ((spec_l10PutVals.f k t371 (rd_L17 x326002 x6)).bind fun t375 => (spec_AsmBytes.l0 k t375 (wrap64 (x6 + 1)) x326000 x326001 x326002)) else (none)) else (none))) else (none)))) else (none)))) else (none)))
end
def spec_AsmBytes.f (k : Nat) (l0_0 : List (S121)) (a1_0 : Int) (l1_1 : List (S80)) (l1_2 : List (List (S82))) : Option (ByteArray) := (spec_AsmRight.f k l0_0 a1_0 l1_1 l1_2).bind fun t326 => (if t326 = true then ((some (([] : List Int) : List Int)).bind fun y327 => ((spec_PutNum.f k a1_0).bind fun t330 => (if y327.length + t330.size < 140737488355328 then ((some (y327 ++ bytesOf t330 : List Int)).bind fun y331 => ((spec_PutNum.f k (l1_1.length : Int)).bind fun t334 => (if y331.length + t334.size < 140737488355328 then (spec_AsmBytes.l0 k (y331 ++ bytesOf t334) 0 a1_0 l1_1 l1_2) else (none)))) else (none)))) else (some (⟨#[]⟩ : ByteArray)))
theorem spec_AsmBytes.calls (k : Nat) (A0_0 : Option Addr) (c0_0 : Nat) (l0_0 : List (S121)) (a1_0 : Int) (A1_1 : Option Addr) (c1_1 : Nat) (l1_1 : List (S80)) (A1_2 : Option Addr) (c1_2 : Nat) (l1_2 : List (List (S82))) (r : ByteArray) (w : World) (hr0_0 : Kd.C k121 w A0_0 l0_0.length l0_0) (hc0_0 : l0_0.length ≤ c0_0) (hr1_1 : Kd.C k80 w A1_1 l1_1.length l1_1) (hc1_1 : l1_1.length ≤ c1_1) (hr1_2 : Kd.C (Kd.slice 82 k82) w A1_2 l1_2.length l1_2) (hc1_2 : l1_2.length ≤ c1_2) (h : spec_AsmBytes.f k l0_0 a1_0 l1_1 l1_2 = some r) :
  Calls Try.prog 19 #[.agg #[.slice A0_0 l0_0.length c0_0], .agg #[.int .i64 a1_0, .slice A1_1 l1_1.length c1_1, .slice A1_2 l1_2.length c1_2]] w fun e w' => e = .returned (.string r) ∧ Below w.heap.size w w' := by
 have hu32 := Try.underlying32
 have hu49 := Try.underlying49
 have hu80 := Try.underlying80
 have HR0_0 := am hr0_0
 have HC0_0 := am hc0_0
 clear hr0_0 hc0_0
 have HR1_1 := am hr1_1
 have HC1_1 := am hc1_1
 clear hr1_1 hc1_1
 have HR1_2 := am hr1_2
 have HC1_2 := am hc1_2
 clear hr1_2 hc1_2
 have HB := am (Below.refl w.heap.size w)
 have H : ((spec_AsmRight.f k l0_0 a1_0 l1_1 l1_2).bind fun t326 => (if t326 = true then ((some (([] : List Int) : List Int)).bind fun y327 => ((spec_PutNum.f k a1_0).bind fun t330 => (if y327.length + t330.size < 140737488355328 then ((some (y327 ++ bytesOf t330 : List Int)).bind fun y331 => ((spec_PutNum.f k (l1_1.length : Int)).bind fun t334 => (if y331.length + t334.size < 140737488355328 then (spec_AsmBytes.l0 k (y331 ++ bytesOf t334) 0 a1_0 l1_1 l1_2) else (none)))) else (none)))) else (some (⟨#[]⟩ : ByteArray)))) = some r := h
 clear h
 refine be H ?_; clear H; intro t326 A3 H
 have HC4 := am H
 clear H
 go_enter Try.func19, Try.ntmps19
 go_upto_if 12 with (first | ((with_reducible refine gd 2 rfl ?_); refine bX 2 #[.slice A0_0 l0_0.length c0_0] 32 HB ?_; clear HB; intro gb324 w5 hg hb BK324 GW324 HB; clear hb hg) | ((with_reducible refine gd 3 rfl ?_); refine bX 3 #[.int .i64 a1_0, .slice A1_1 l1_1.length c1_1, .slice A1_2 l1_2.length c1_2] 49 HB ?_; clear HB; intro gb325 w6 hg hb BK325 GW325 HB; obtain ⟨NB324_325, NB325_324, BK324⟩ := b3 hg BK324 hb; clear hb hg; have hnb7 := NB324_325.out; have hnc7 := NB325_324.out; have hcz8 := bK w6 BK324; have hfz8 := bF BK324; have hcz9 := bK w6 BK325; have hfz9 := bF BK325) | ((with_reducible refine gk 43 rfl ?_); refine gB 43 (some 11) Try.func43 #[.agg #[.slice A0_0 l0_0.length c0_0], .agg #[.int .i64 a1_0, .slice A1_1 l1_1.length c1_1, .slice A1_2 l1_2.length c1_2]] (spec_AsmRight.calls k _ _ l0_0 a1_0 _ _ l1_1 _ _ l1_2 t326 _ (cc (Kd.C_below HR0_0.out HB.out)) HC0_0.out (cc (Kd.C_below HR1_1.out HB.out)) HC1_1.out (cc (Kd.C_below HR1_2.out HB.out)) HC1_2.out A3.out) ?_; intro w10 hb; replace BK324 := bb BK324 hb; replace BK325 := bb BK325 hb; replace HB := bs HB hb; clear hb))
 (try simp only [Act.put, sa, sz, ss])
 have H := HC4.out
 clear HC4
 refine qT H ?_ ?_ <;> clear H <;> intro c11 H <;> subst c11
 ·obtain ⟨y327, hy327⟩ : ∃ y_ : List Int, y_ = (([] : List Int)) := ⟨_, rfl⟩
  replace H : ((spec_PutNum.f k a1_0).bind fun t330 => (if y327.length + t330.size < 140737488355328 then ((some (y327 ++ bytesOf t330 : List Int)).bind fun y331 => ((spec_PutNum.f k (l1_1.length : Int)).bind fun t334 => (if y331.length + t334.size < 140737488355328 then (spec_AsmBytes.l0 k (y331 ++ bytesOf t334) 0 a1_0 l1_1 l1_2) else (none)))) else (none))) = some r := cg hy327 H
  have Ny327 := am hy327
  clear hy327
  refine be H ?_; clear H; intro t330 A12 H
  refine iN H ?_; clear H; intro c13 H
  have LMc13 := am c13
  clear c13
  obtain ⟨y331, hy331⟩ : ∃ y_ : List Int, y_ = (y327 ++ bytesOf t330) := ⟨_, rfl⟩
  replace H : ((spec_PutNum.f k (l1_1.length : Int)).bind fun t334 => (if y331.length + t334.size < 140737488355328 then (spec_AsmBytes.l0 k (y331 ++ bytesOf t334) 0 a1_0 l1_1 l1_2) else (none))) = some r := cg hy331 H
  have Ny331 := am hy331
  clear hy331
  refine be H ?_; clear H; intro t334 A14 H
  refine iN H ?_; clear H; intro c15 H
  have LMc15 := am c15
  clear c15
  obtain ⟨y335, hy335⟩ : ∃ y_ : List Int, y_ = (y331 ++ bytesOf t334) := ⟨_, rfl⟩
  replace H : (spec_AsmBytes.l0 k y335 0 a1_0 l1_1 l1_2) = some r := cg hy335 H
  have Ny335 := am hy335
  clear hy335
  have H' := am H
  clear H
  go_wp2_with (first | ((with_reducible refine gate_dst (N := 13) rfl ?_); refine Kd.R_lit (Kd.int .u8) _ 5 ?hg (N := 13) ?hd (xs := ([] : List Int)) (inner := []) (ok := fun _ => True) (okp := fun _ => True) ?hr ?hp (fun _ hk => hk) trivial (Below.refl _ _) (Nat.le_refl _) (by simp) ?_; (case hd => rfl); (case hg => rfl); (case hr => exact gs); (case hp => exact (Reps.none _ _)); intro v328 w16 ho17 hb hg_ hnew_; clear hg_ hnew_; (first | rw [← Ny327.out] at ho17 | (simp only [Int.reduceToNat] at ho17; rw [← Ny327.out] at ho17)); have HO329 := am (Kd.R_lower ho17 (below_size (bw HB))); replace BK324 := bb BK324 hb; replace BK325 := bb BK325 hb; replace HB := bs HB hb; clear hb ho17; have hnb18 := NB325_324.out; have hnc18 := NB324_325.out; have hcz19 := bK w16 BK325; have hfz19 := bF BK325) | ((with_reducible refine gate_callee (f := 44) rfl ?_); refine goesL_ (some 17) rfl rfl Try.func44 (by kernel_rfl) rfl #[.int .i64 a1_0] rfl gl ?_; (with_reducible refine (spec_PutNum.calls k a1_0 t330 _ A12.out).mono ?_); rintro e w20 ⟨rfl, hb⟩; refine ⟨_, rfl, ?_⟩; replace HO329 := am (Kd.R_below (kR HO329) hb); replace BK324 := bb BK324 hb; replace BK325 := bb BK325 hb; replace HB := bs HB hb; clear hb) | (at_builtin; refine print_append_str (w0 := w) w.heap.size rfl (.tmp 14) _ 75 9 5 rfl Try.underlying75 Try.underlying9 info5 v328 y327 t330 rfl rfl ?aO ?aB ?aS ?aL ?_; (case aB => exact (bw HB)); (case aO => exact (Kd.own_of_R (kR HO329))); (case aS => exact (below_size (bw HB))); (case aL => have := LMc13.out; omega); intro v332 w21 ho0 hb hg; have ho := Kd.R_of_own (h1 := fun _ => rfl) (ok := fun _ => True) ho0 (fun _ _ => trivial); clear ho0; have hat := True.intro; rw [← Ny331.out] at ho; change Kd.R (Kd.int .u8) 5 w21 w.heap.size (fun _ => True) v332 y331 at ho; replace BK324 := bg BK324 hg (Kd.R_ne HO329.out BK324.out (by decide)); replace BK325 := bg BK325 hg (Kd.R_ne HO329.out BK325.out (by decide)); replace HB := am (hb); have HO333 := am (ho); clear HO329; clear ho hb hg hat; have hcz22 := bK w21 BK325; have hfz22 := bF BK325) | ((with_reducible refine gate_callee (f := 44) rfl ?_); refine goesL_ (some 23) rfl rfl Try.func44 (by kernel_rfl) rfl #[.int .i64 (l1_1.length : Int)] rfl gl ?_; (with_reducible refine (spec_PutNum.calls k (l1_1.length : Int) t334 _ A14.out).mono ?_); rintro e w23 ⟨rfl, hb⟩; refine ⟨_, rfl, ?_⟩; replace HO333 := am (Kd.R_below (kR HO333) hb); replace BK324 := bb BK324 hb; replace BK325 := bb BK325 hb; replace HB := bs HB hb; clear hb) | (at_builtin; refine print_append_str (w0 := w) w.heap.size rfl (.tmp 19) _ 75 9 5 rfl Try.underlying75 Try.underlying9 info5 v332 y331 t334 rfl rfl ?aO ?aB ?aS ?aL ?_; (case aB => exact (bw HB)); (case aO => exact (Kd.own_of_R (kR HO333))); (case aS => exact (below_size (bw HB))); (case aL => have := LMc15.out; omega); intro v336 w24 ho0 hb hg; have ho := Kd.R_of_own (h1 := fun _ => rfl) (ok := fun _ => True) ho0 (fun _ _ => trivial); clear ho0; have hat := True.intro; rw [← Ny335.out] at ho; change Kd.R (Kd.int .u8) 5 w24 w.heap.size (fun _ => True) v336 y335 at ho; replace BK324 := bg BK324 hg (Kd.R_ne HO333.out BK324.out (by decide)); replace BK325 := bg BK325 hg (Kd.R_ne HO333.out BK325.out (by decide)); replace HB := am (hb); have HO337 := am (ho); clear HO333; clear ho hb hg hat))
  go_loopg [5, 6] k (fun kq v5 v6 w' => ∃ (x5_1 : List Int) (x6_1 : Int), v6 = .int .i64 x6_1 ∧ Aside0 (spec_AsmBytes.l0 kq x5_1 x6_1 a1_0 l1_1 l1_2 = some r) ∧ Aside0 (kq ≤ k) ∧ Aside0 (Kd.R (Kd.int .u8) 5 w' w.heap.size (fun _ => True) v5 x5_1) ∧ Aside0 (w'.heap[gb324]? = some (.cells #[(.slice A0_0 l0_0.length c0_0)] 32 (0, 0))) ∧ Aside0 (w'.heap[gb325]? = some (.cells #[.int .i64 a1_0, (.slice A1_1 l1_1.length c1_1), (.slice A1_2 l1_2.length c1_2)] 49 (0, 0))) ∧ Aside0 (Below w.heap.size w w'))
  case atStart => exact ⟨(y335), (0), dr, H', ⟨Nat.le_refl _⟩, ⟨kR HO337⟩, ⟨bp BK324⟩, ⟨bp BK325⟩, ⟨bw HB⟩⟩
  clear H'
  obtain ⟨x5_1, x6_1, rfl, HA, HK1, HO_5, BK324, BK325, HB⟩ := hrel
  rcases gk with _ | k1
  ·exact absurd HA.out (by simp [spec_AsmBytes.l0])
  have H := HA.out
  clear HA
  simp only [spec_AsmBytes.l0] at H
  by_cases c25 : x6_1 < (l1_1.length : Int)
  ·rw [if_pos c25] at H
   have c25b0 := decide_eq_true c25
   clear c25
   (first | rw [c25b0] | (simp only [i64_w, i32_w]; rw [c25b0]) | skip)
   refine iN H ?_; clear H; intro c26 H
   have c26b0 := decide_eq_true c26
   clear c26
   refine be H ?_; clear H; intro t340 A27 H
   refine iN H ?_; clear H; intro c28 H
   have LMc28 := am c28
   clear c28
   obtain ⟨y341, hy341⟩ : ∃ y_ : List Int, y_ = (x5_1 ++ bytesOf t340) := ⟨_, rfl⟩
   replace H : (spec_AsmBytes.l1 k1 y341 x6_1 0 a1_0 l1_1 l1_2 ((rd_T80 l1_1 x6_1).f0) ((rd_T80 l1_1 x6_1).f1) ((rd_T80 l1_1 x6_1).f2) ((rd_T80 l1_1 x6_1).f3) ((rd_T80 l1_1 x6_1).f4)) = some r := cg hy341 H
   have Ny341 := am hy341
   clear hy341
   have H' := am H
   clear H
   have hnb29 := NB325_324.out
   have hnc29 := NB324_325.out
   have hcz30 := bK wr BK325
   have hfz30 := bF BK325
   have p338 : 0 ≤ (x6_1 : Int) := dt
   have q338 : x6_1 < (l1_1.length : Int) := dt
   obtain ⟨ad338, A338_0, c338_0, A338_3, c338_3, e338, hx338_0, hx338_1, hx338_2, hx338_3, hx338_4, hl338_0, hi338_0, hl338_3, hi338_3⟩ := at_T80 HR1_1.out x6_1 p338 q338
   cases e338
   replace hx338_0 := cl HB hx338_0
   replace hx338_1 := cl HB hx338_1
   replace hx338_2 := cl HB hx338_2
   replace hx338_3 := cl HB hx338_3
   replace hx338_4 := cl HB hx338_4
   have HR338_0 := am hi338_0
   have HC338_0 := am hl338_0
   clear hi338_0 hl338_0
   have HR338_3 := am hi338_3
   have HC338_3 := am hl338_3
   clear hi338_3 hl338_3
   replace p338 := eq_true p338
   replace q338 := eq_true q338
   go_wp2_with (first | ((with_reducible refine gd 7 rfl ?_); refine bX 7 #[.slice none 0 0, .int .i64 0, .int .i64 0, .slice none 0 0, .int .i64 0] 80 HB ?_; clear HB; intro gb339 w31 hg hb BK339 GW339 HB; replace HO_5 := am (Kd.R_below (kR HO_5) hb); obtain ⟨NB324_339, NB339_324, BK324⟩ := b3 hg BK324 hb; obtain ⟨NB325_339, NB339_325, BK325⟩ := b3 hg BK325 hb; clear hb hg; have hnb32 := NB339_324.out; have hnc32 := NB324_339.out; have hnb33 := NB339_325.out; have hnc33 := NB325_339.out; have hcz34_0 := bk w31 BK339 0; have hcz34_1 := bk w31 BK339 1; have hcz34_2 := bk w31 BK339 2; have hcz34_3 := bk w31 BK339 3; have hcz34_4 := bk w31 BK339 4; have hfz34_0 := bf BK339 0; have hfz34_1 := bf BK339 1; have hfz34_2 := bf BK339 2; have hfz34_3 := bf BK339 3; have hfz34_4 := bf BK339 4) | ((with_reducible refine gate_callee (f := 44) rfl ?_); refine goesL_ (some 41) rfl rfl Try.func44 (by kernel_rfl) rfl #[.int .i64 (((rd_T80 l1_1 x6_1).f0).length : Int)] rfl gl ?_; (with_reducible refine (spec_PutNum.calls k1 (((rd_T80 l1_1 x6_1).f0).length : Int) t340 _ A27.out).mono ?_); rintro e w35 ⟨rfl, hb⟩; refine ⟨_, rfl, ?_⟩; replace HO_5 := am (Kd.R_below (by (with_reducible repeat (first | apply Kd.R_alloc | apply Kd.R_drewN | apply Kd.R_drew)); exact (Kd.R_mono (Kd.R_far (p := ⟨gb339, 4, none⟩) (Kd.R_far (p := ⟨gb339, 3, none⟩) (Kd.R_far (p := ⟨gb339, 2, none⟩) (Kd.R_far (p := ⟨gb339, 1, none⟩) (Kd.R_far (p := ⟨gb339, 0, none⟩) (Kd.R_types HO_5.out BK339.out (by decide)) (fun _ hk => hk.2) (.slice A338_0 ((rd_T80 l1_1 x6_1).f0).length c338_0)) (fun _ hk => hk.2) (.int .i64 ((rd_T80 l1_1 x6_1).f1))) (fun _ hk => hk.2) (.int .i64 ((rd_T80 l1_1 x6_1).f2))) (fun _ hk => hk.2) (.slice A338_3 ((rd_T80 l1_1 x6_1).f3).length c338_3)) (fun _ hk => hk.2) (.int .i64 ((rd_T80 l1_1 x6_1).f4))) (fun _ h_ => h_.1))) hb); replace BK324 := bb2 BK324 hb; replace BK325 := bb2 BK325 hb; replace BK339 := bo #[.slice A338_0 ((rd_T80 l1_1 x6_1).f0).length c338_0, .int .i64 ((rd_T80 l1_1 x6_1).f1), .int .i64 ((rd_T80 l1_1 x6_1).f2), .slice A338_3 ((rd_T80 l1_1 x6_1).f3).length c338_3, .int .i64 ((rd_T80 l1_1 x6_1).f4)] BK339 hb; replace HB := bs HB hb; clear hb) | (at_builtin; refine print_append_str (w0 := w) w.heap.size rfl (.tmp 37) _ 75 9 5 rfl Try.underlying75 Try.underlying9 info5 u5 x5_1 t340 rfl rfl ?aO ?aB ?aS ?aL ?_; (case aB => exact (bw HB)); (case aO => exact (Kd.own_of_R (kR HO_5))); (case aS => exact (below_size (bw HB))); (case aL => have := LMc28.out; omega); intro v342 w36 ho0 hb hg; have ho := Kd.R_of_own (h1 := fun _ => rfl) (ok := fun _ => True) ho0 (fun _ _ => trivial); clear ho0; have hat := True.intro; rw [← Ny341.out] at ho; change Kd.R (Kd.int .u8) 5 w36 w.heap.size (fun _ => True) v342 y341 at ho; replace BK324 := bg BK324 hg (Kd.R_ne HO_5.out BK324.out (by decide)); replace BK325 := bg BK325 hg (Kd.R_ne HO_5.out BK325.out (by decide)); replace BK339 := bg BK339 hg (Kd.R_ne HO_5.out BK339.out (by decide)); replace HB := am (hb); have HO343 := am (ho); clear HO_5; clear ho hb hg hat))
   go_loopg [5, 8] k1 (fun kq v5 v8 w' => ∃ (x5_2 : List Int) (x8_2 : Int), v8 = .int .i64 x8_2 ∧ Aside0 (spec_AsmBytes.l1 kq x5_2 x6_1 x8_2 a1_0 l1_1 l1_2 ((rd_T80 l1_1 x6_1).f0) ((rd_T80 l1_1 x6_1).f1) ((rd_T80 l1_1 x6_1).f2) ((rd_T80 l1_1 x6_1).f3) ((rd_T80 l1_1 x6_1).f4) = some r) ∧ Aside0 (kq ≤ k1) ∧ Aside0 (Kd.R (Kd.int .u8) 5 w' w.heap.size (fun _ => True) v5 x5_2) ∧ Aside0 (w'.heap[gb324]? = some (.cells #[(.slice A0_0 l0_0.length c0_0)] 32 (0, 0))) ∧ Aside0 (w'.heap[gb325]? = some (.cells #[.int .i64 a1_0, (.slice (some ad338) l1_1.length c1_1), (.slice A1_2 l1_2.length c1_2)] 49 (0, 0))) ∧ Aside0 (w'.heap[gb339]? = some (.cells #[(.slice A338_0 ((rd_T80 l1_1 x6_1).f0).length c338_0), .int .i64 ((rd_T80 l1_1 x6_1).f1), .int .i64 ((rd_T80 l1_1 x6_1).f2), (.slice A338_3 ((rd_T80 l1_1 x6_1).f3).length c338_3), .int .i64 ((rd_T80 l1_1 x6_1).f4)] 80 (0, 0))) ∧ Aside0 (Below w.heap.size w w'))
   case atStart => exact ⟨(y341), (0), dr, H', ⟨Nat.le_refl _⟩, ⟨kR HO343⟩, ⟨bp BK324⟩, ⟨bp BK325⟩, ⟨bp BK339⟩, ⟨bw HB⟩⟩
   clear H'
   obtain ⟨x5_2, x8_2, rfl, HA, HK2, HO_5, BK324, BK325, BK339, HB⟩ := hrel
   rcases gk with _ | k2
   ·exact absurd HA.out (by simp [spec_AsmBytes.l1])
   have H := HA.out
   clear HA
   simp only [spec_AsmBytes.l1] at H
   refine qI H ?_ ?_ <;> clear H <;> intro c37b0 H
   ·refine iM H ?_; clear H; intro c38b0 H
    refine be H ?_; clear H; intro t345 A39 H
    refine iN H ?_; clear H; intro c40 H
    have LMc40 := am c40
    clear c40
    obtain ⟨y346, hy346⟩ : ∃ y_ : List Int, y_ = (x5_2 ++ bytesOf t345) := ⟨_, rfl⟩
    replace H : ((spec_PutNum.f k2 ((rd_T84 ((rd_T80 l1_1 x6_1).f0) x8_2).f1.f0)).bind fun t350 => (if y346.length + t350.size < 140737488355328 then ((some (y346 ++ bytesOf t350 : List Int)).bind fun y351 => ((spec_PutNum.f k2 ((rd_T84 ((rd_T80 l1_1 x6_1).f0) x8_2).f1.f1)).bind fun t355 => (if y351.length + t355.size < 140737488355328 then (spec_AsmBytes.l1 k2 (y351 ++ bytesOf t355) x6_1 (wrap64 (x8_2 + 1)) a1_0 l1_1 l1_2 ((rd_T80 l1_1 x6_1).f0) ((rd_T80 l1_1 x6_1).f1) ((rd_T80 l1_1 x6_1).f2) ((rd_T80 l1_1 x6_1).f3) ((rd_T80 l1_1 x6_1).f4)) else (none)))) else (none))) = some r := cg hy346 H
    have Ny346 := am hy346
    clear hy346
    refine be H ?_; clear H; intro t350 A41 H
    refine iN H ?_; clear H; intro c42 H
    have LMc42 := am c42
    clear c42
    obtain ⟨y351, hy351⟩ : ∃ y_ : List Int, y_ = (y346 ++ bytesOf t350) := ⟨_, rfl⟩
    replace H : ((spec_PutNum.f k2 ((rd_T84 ((rd_T80 l1_1 x6_1).f0) x8_2).f1.f1)).bind fun t355 => (if y351.length + t355.size < 140737488355328 then (spec_AsmBytes.l1 k2 (y351 ++ bytesOf t355) x6_1 (wrap64 (x8_2 + 1)) a1_0 l1_1 l1_2 ((rd_T80 l1_1 x6_1).f0) ((rd_T80 l1_1 x6_1).f1) ((rd_T80 l1_1 x6_1).f2) ((rd_T80 l1_1 x6_1).f3) ((rd_T80 l1_1 x6_1).f4)) else (none))) = some r := cg hy351 H
    have Ny351 := am hy351
    clear hy351
    refine be H ?_; clear H; intro t355 A43 H
    refine iN H ?_; clear H; intro c44 H
    have LMc44 := am c44
    clear c44
    obtain ⟨y356, hy356⟩ : ∃ y_ : List Int, y_ = (y351 ++ bytesOf t355) := ⟨_, rfl⟩
    replace H : (spec_AsmBytes.l1 k2 y356 x6_1 (wrap64 (x8_2 + 1)) a1_0 l1_1 l1_2 ((rd_T80 l1_1 x6_1).f0) ((rd_T80 l1_1 x6_1).f1) ((rd_T80 l1_1 x6_1).f2) ((rd_T80 l1_1 x6_1).f3) ((rd_T80 l1_1 x6_1).f4)) = some r := cg hy356 H
    have Ny356 := am hy356
    clear hy356
    have H' := am H
    clear H
    have hnb45 := NB339_324.out
    have hnc45 := NB324_339.out
    have hnb46 := NB339_325.out
    have hnc46 := NB325_339.out
    have hcz47_0 := bk wr BK339 0
    have hcz47_1 := bk wr BK339 1
    have hcz47_2 := bk wr BK339 2
    have hcz47_3 := bk wr BK339 3
    have hcz47_4 := bk wr BK339 4
    have hfz47_0 := bf BK339 0
    have hfz47_1 := bf BK339 1
    have hfz47_2 := bf BK339 2
    have hfz47_3 := bf BK339 3
    have hfz47_4 := bf BK339 4
    have p344 : 0 ≤ (x8_2 : Int) := dt
    have q344 : x8_2 < (((rd_T80 l1_1 x6_1).f0).length : Int) := dt
    obtain ⟨ad344, e344, hx344_0, hx344_1, hx344_2⟩ := at_T84 HR338_0.out x8_2 p344 q344
    cases e344
    replace hx344_0 := cl HB hx344_0
    replace hx344_1 := cl HB hx344_1
    replace hx344_2 := cl HB hx344_2
    replace p344 := eq_true p344
    replace q344 := eq_true q344
    go_wp2_with (first | ((with_reducible refine gate_callee (f := 44) rfl ?_); refine goesL_ (some 57) rfl rfl Try.func44 (by kernel_rfl) rfl #[.int .i64 ((rd_T84 ((rd_T80 l1_1 x6_1).f0) x8_2).f0)] rfl gl ?_; (with_reducible refine (spec_PutNum.calls k2 ((rd_T84 ((rd_T80 l1_1 x6_1).f0) x8_2).f0) t345 _ A39.out).mono ?_); rintro e w48 ⟨rfl, hb⟩; refine ⟨_, rfl, ?_⟩; replace HO_5 := am (Kd.R_below (kR HO_5) hb); replace BK324 := bb BK324 hb; replace BK325 := bb BK325 hb; replace BK339 := bb BK339 hb; replace HB := bs HB hb; clear hb) | (at_builtin; refine print_append_str (w0 := w) w.heap.size rfl (.tmp 50) _ 75 9 5 rfl Try.underlying75 Try.underlying9 info5 u5 x5_2 t345 rfl rfl ?aO ?aB ?aS ?aL ?_; (case aB => exact (bw HB)); (case aO => exact (Kd.own_of_R (kR HO_5))); (case aS => exact (below_size (bw HB))); (case aL => have := LMc40.out; omega); intro v347 w49 ho0 hb hg; have ho := Kd.R_of_own (h1 := fun _ => rfl) (ok := fun _ => True) ho0 (fun _ _ => trivial); clear ho0; have hat := True.intro; rw [← Ny346.out] at ho; change Kd.R (Kd.int .u8) 5 w49 w.heap.size (fun _ => True) v347 y346 at ho; replace BK324 := bg BK324 hg (Kd.R_ne HO_5.out BK324.out (by decide)); replace BK325 := bg BK325 hg (Kd.R_ne HO_5.out BK325.out (by decide)); replace BK339 := bg BK339 hg (Kd.R_ne HO_5.out BK339.out (by decide)); replace HB := am (hb); have HO348 := am (ho); clear HO_5; clear ho hb hg hat; have hcz50_0 := bk w49 BK339 0; have hcz50_1 := bk w49 BK339 1; have hcz50_2 := bk w49 BK339 2; have hcz50_3 := bk w49 BK339 3; have hcz50_4 := bk w49 BK339 4; have hfz50_0 := bf BK339 0; have hfz50_1 := bf BK339 1; have hfz50_2 := bf BK339 2; have hfz50_3 := bf BK339 3; have hfz50_4 := bf BK339 4; have p349 : 0 ≤ (x8_2 : Int) := dt; have q349 : x8_2 < (((rd_T80 l1_1 x6_1).f0).length : Int) := dt; obtain ⟨ad349, e349, hx349_0, hx349_1, hx349_2⟩ := at_T84 HR338_0.out x8_2 p349 q349; obtain rfl : ad344 = ad349 := (by injection e349); replace hx349_0 := cl HB hx349_0; replace hx349_1 := cl HB hx349_1; replace hx349_2 := cl HB hx349_2; replace p349 := eq_true p349; replace q349 := eq_true q349) | ((with_reducible refine gate_callee (f := 44) rfl ?_); refine goesL_ (some 67) rfl rfl Try.func44 (by kernel_rfl) rfl #[.int .i64 ((rd_T84 ((rd_T80 l1_1 x6_1).f0) x8_2).f1.f0)] rfl gl ?_; (with_reducible refine (spec_PutNum.calls k2 ((rd_T84 ((rd_T80 l1_1 x6_1).f0) x8_2).f1.f0) t350 _ A41.out).mono ?_); rintro e w51 ⟨rfl, hb⟩; refine ⟨_, rfl, ?_⟩; replace HO348 := am (Kd.R_below (kR HO348) hb); replace BK324 := bb BK324 hb; replace BK325 := bb BK325 hb; replace BK339 := bb BK339 hb; replace HB := bs HB hb; clear hb) | (at_builtin; refine print_append_str (w0 := w) w.heap.size rfl (.tmp 59) _ 75 9 5 rfl Try.underlying75 Try.underlying9 info5 v347 y346 t350 rfl rfl ?aO ?aB ?aS ?aL ?_; (case aB => exact (bw HB)); (case aO => exact (Kd.own_of_R (kR HO348))); (case aS => exact (below_size (bw HB))); (case aL => have := LMc42.out; omega); intro v352 w52 ho0 hb hg; have ho := Kd.R_of_own (h1 := fun _ => rfl) (ok := fun _ => True) ho0 (fun _ _ => trivial); clear ho0; have hat := True.intro; rw [← Ny351.out] at ho; change Kd.R (Kd.int .u8) 5 w52 w.heap.size (fun _ => True) v352 y351 at ho; replace BK324 := bg BK324 hg (Kd.R_ne HO348.out BK324.out (by decide)); replace BK325 := bg BK325 hg (Kd.R_ne HO348.out BK325.out (by decide)); replace BK339 := bg BK339 hg (Kd.R_ne HO348.out BK339.out (by decide)); replace HB := am (hb); have HO353 := am (ho); clear HO348; clear ho hb hg hat; have hcz53_0 := bk w52 BK339 0; have hcz53_1 := bk w52 BK339 1; have hcz53_2 := bk w52 BK339 2; have hcz53_3 := bk w52 BK339 3; have hcz53_4 := bk w52 BK339 4; have hfz53_0 := bf BK339 0; have hfz53_1 := bf BK339 1; have hfz53_2 := bf BK339 2; have hfz53_3 := bf BK339 3; have hfz53_4 := bf BK339 4; have p354 : 0 ≤ (x8_2 : Int) := dt; have q354 : x8_2 < (((rd_T80 l1_1 x6_1).f0).length : Int) := dt; obtain ⟨ad354, e354, hx354_0, hx354_1, hx354_2⟩ := at_T84 HR338_0.out x8_2 p354 q354; obtain rfl : ad344 = ad354 := (by injection e354); replace hx354_0 := cl HB hx354_0; replace hx354_1 := cl HB hx354_1; replace hx354_2 := cl HB hx354_2; replace p354 := eq_true p354; replace q354 := eq_true q354) | ((with_reducible refine gate_callee (f := 44) rfl ?_); refine goesL_ (some 77) rfl rfl Try.func44 (by kernel_rfl) rfl #[.int .i64 ((rd_T84 ((rd_T80 l1_1 x6_1).f0) x8_2).f1.f1)] rfl gl ?_; (with_reducible refine (spec_PutNum.calls k2 ((rd_T84 ((rd_T80 l1_1 x6_1).f0) x8_2).f1.f1) t355 _ A43.out).mono ?_); rintro e w54 ⟨rfl, hb⟩; refine ⟨_, rfl, ?_⟩; replace HO353 := am (Kd.R_below (kR HO353) hb); replace BK324 := bb BK324 hb; replace BK325 := bb BK325 hb; replace BK339 := bb BK339 hb; replace HB := bs HB hb; clear hb) | (at_builtin; refine print_append_str (w0 := w) w.heap.size rfl (.tmp 69) _ 75 9 5 rfl Try.underlying75 Try.underlying9 info5 v352 y351 t355 rfl rfl ?aO ?aB ?aS ?aL ?_; (case aB => exact (bw HB)); (case aO => exact (Kd.own_of_R (kR HO353))); (case aS => exact (below_size (bw HB))); (case aL => have := LMc44.out; omega); intro v357 w55 ho0 hb hg; have ho := Kd.R_of_own (h1 := fun _ => rfl) (ok := fun _ => True) ho0 (fun _ _ => trivial); clear ho0; have hat := True.intro; rw [← Ny356.out] at ho; change Kd.R (Kd.int .u8) 5 w55 w.heap.size (fun _ => True) v357 y356 at ho; replace BK324 := bg BK324 hg (Kd.R_ne HO353.out BK324.out (by decide)); replace BK325 := bg BK325 hg (Kd.R_ne HO353.out BK325.out (by decide)); replace BK339 := bg BK339 hg (Kd.R_ne HO353.out BK339.out (by decide)); replace HB := am (hb); have HO358 := am (ho); clear HO353; clear ho hb hg hat))
    go_roundg k2
    case measure => have := HK1.out; have := HK2.out; omega
    case rel => exact ⟨(y356), (wrap64 (x8_2 + 1)), dr, H', ⟨by have := HK1.out; have := HK2.out; omega⟩, ⟨kR HO358⟩, ⟨bp BK324⟩, ⟨bp BK325⟩, ⟨bp BK339⟩, ⟨bw HB⟩⟩
   refine be H ?_; clear H; intro t359 A56 H
   refine iN H ?_; clear H; intro c57 H
   have LMc57 := am c57
   clear c57
   obtain ⟨y360, hy360⟩ : ∃ y_ : List Int, y_ = (x5_2 ++ bytesOf t359) := ⟨_, rfl⟩
   replace H : ((spec_PutNum.f k2 ((rd_T80 l1_1 x6_1).f2)).bind fun t363 => (if y360.length + t363.size < 140737488355328 then ((some (y360 ++ bytesOf t363 : List Int)).bind fun y364 => ((spec_PutNum.f k2 ((rd_T80 l1_1 x6_1).f4)).bind fun t367 => (if y364.length + t367.size < 140737488355328 then ((spec_l10PutVals.f k2 (y364 ++ bytesOf t367) ((rd_T80 l1_1 x6_1).f3)).bind fun t371 => (if 0 ≤ x6_1 then (if x6_1 < (l1_2.length : Int) then ((spec_l10PutVals.f k2 t371 (rd_L17 l1_2 x6_1)).bind fun t375 => (spec_AsmBytes.l0 k2 t375 (wrap64 (x6_1 + 1)) a1_0 l1_1 l1_2)) else (none)) else (none))) else (none)))) else (none))) = some r := cg hy360 H
   have Ny360 := am hy360
   clear hy360
   refine be H ?_; clear H; intro t363 A58 H
   refine iN H ?_; clear H; intro c59 H
   have LMc59 := am c59
   clear c59
   obtain ⟨y364, hy364⟩ : ∃ y_ : List Int, y_ = (y360 ++ bytesOf t363) := ⟨_, rfl⟩
   replace H : ((spec_PutNum.f k2 ((rd_T80 l1_1 x6_1).f4)).bind fun t367 => (if y364.length + t367.size < 140737488355328 then ((spec_l10PutVals.f k2 (y364 ++ bytesOf t367) ((rd_T80 l1_1 x6_1).f3)).bind fun t371 => (if 0 ≤ x6_1 then (if x6_1 < (l1_2.length : Int) then ((spec_l10PutVals.f k2 t371 (rd_L17 l1_2 x6_1)).bind fun t375 => (spec_AsmBytes.l0 k2 t375 (wrap64 (x6_1 + 1)) a1_0 l1_1 l1_2)) else (none)) else (none))) else (none))) = some r := cg hy364 H
   have Ny364 := am hy364
   clear hy364
   refine be H ?_; clear H; intro t367 A60 H
   refine iN H ?_; clear H; intro c61 H
   have LMc61 := am c61
   clear c61
   obtain ⟨y368, hy368⟩ : ∃ y_ : List Int, y_ = (y364 ++ bytesOf t367) := ⟨_, rfl⟩
   replace H : ((spec_l10PutVals.f k2 y368 ((rd_T80 l1_1 x6_1).f3)).bind fun t371 => (if 0 ≤ x6_1 then (if x6_1 < (l1_2.length : Int) then ((spec_l10PutVals.f k2 t371 (rd_L17 l1_2 x6_1)).bind fun t375 => (spec_AsmBytes.l0 k2 t375 (wrap64 (x6_1 + 1)) a1_0 l1_1 l1_2)) else (none)) else (none))) = some r := cg hy368 H
   have Ny368 := am hy368
   clear hy368
   refine be H ?_; clear H; intro t371 A62 H
   have HC63 := am H
   clear H
   have hnb64 := NB339_324.out
   have hnc64 := NB324_339.out
   have hnb65 := NB339_325.out
   have hnc65 := NB325_339.out
   have hcz66_0 := bk wr BK339 0
   have hcz66_1 := bk wr BK339 1
   have hcz66_2 := bk wr BK339 2
   have hcz66_3 := bk wr BK339 3
   have hcz66_4 := bk wr BK339 4
   have hfz66_0 := bf BK339 0
   have hfz66_1 := bf BK339 1
   have hfz66_2 := bf BK339 2
   have hfz66_3 := bf BK339 3
   have hfz66_4 := bf BK339 4
   go_upto_region 20 with (first | ((with_reducible refine gate_callee (f := 44) rfl ?_); refine goesL_ (some 82) rfl rfl Try.func44 (by kernel_rfl) rfl #[.int .i64 ((rd_T80 l1_1 x6_1).f1)] rfl gl ?_; (with_reducible refine (spec_PutNum.calls k2 ((rd_T80 l1_1 x6_1).f1) t359 _ A56.out).mono ?_); rintro e w67 ⟨rfl, hb⟩; refine ⟨_, rfl, ?_⟩; replace HO_5 := am (Kd.R_below (kR HO_5) hb); replace BK324 := bb BK324 hb; replace BK325 := bb BK325 hb; replace BK339 := bb BK339 hb; replace HB := bs HB hb; clear hb) | (at_builtin; refine print_append_str (w0 := w) w.heap.size rfl (.tmp 79) _ 75 9 5 rfl Try.underlying75 Try.underlying9 info5 u5 x5_2 t359 rfl rfl ?aO ?aB ?aS ?aL ?_; (case aB => exact (bw HB)); (case aO => exact (Kd.own_of_R (kR HO_5))); (case aS => exact (below_size (bw HB))); (case aL => have := LMc57.out; omega); intro v361 w68 ho0 hb hg; have ho := Kd.R_of_own (h1 := fun _ => rfl) (ok := fun _ => True) ho0 (fun _ _ => trivial); clear ho0; have hat := True.intro; rw [← Ny360.out] at ho; change Kd.R (Kd.int .u8) 5 w68 w.heap.size (fun _ => True) v361 y360 at ho; replace BK324 := bg BK324 hg (Kd.R_ne HO_5.out BK324.out (by decide)); replace BK325 := bg BK325 hg (Kd.R_ne HO_5.out BK325.out (by decide)); replace BK339 := bg BK339 hg (Kd.R_ne HO_5.out BK339.out (by decide)); replace HB := am (hb); have HO362 := am (ho); clear HO_5; clear ho hb hg hat; have hcz69_0 := bk w68 BK339 0; have hcz69_1 := bk w68 BK339 1; have hcz69_2 := bk w68 BK339 2; have hcz69_3 := bk w68 BK339 3; have hcz69_4 := bk w68 BK339 4; have hfz69_0 := bf BK339 0; have hfz69_1 := bf BK339 1; have hfz69_2 := bf BK339 2; have hfz69_3 := bf BK339 3; have hfz69_4 := bf BK339 4) | ((with_reducible refine gate_callee (f := 44) rfl ?_); refine goesL_ (some 87) rfl rfl Try.func44 (by kernel_rfl) rfl #[.int .i64 ((rd_T80 l1_1 x6_1).f2)] rfl gl ?_; (with_reducible refine (spec_PutNum.calls k2 ((rd_T80 l1_1 x6_1).f2) t363 _ A58.out).mono ?_); rintro e w70 ⟨rfl, hb⟩; refine ⟨_, rfl, ?_⟩; replace HO362 := am (Kd.R_below (kR HO362) hb); replace BK324 := bb BK324 hb; replace BK325 := bb BK325 hb; replace BK339 := bb BK339 hb; replace HB := bs HB hb; clear hb) | (at_builtin; refine print_append_str (w0 := w) w.heap.size rfl (.tmp 84) _ 75 9 5 rfl Try.underlying75 Try.underlying9 info5 v361 y360 t363 rfl rfl ?aO ?aB ?aS ?aL ?_; (case aB => exact (bw HB)); (case aO => exact (Kd.own_of_R (kR HO362))); (case aS => exact (below_size (bw HB))); (case aL => have := LMc59.out; omega); intro v365 w71 ho0 hb hg; have ho := Kd.R_of_own (h1 := fun _ => rfl) (ok := fun _ => True) ho0 (fun _ _ => trivial); clear ho0; have hat := True.intro; rw [← Ny364.out] at ho; change Kd.R (Kd.int .u8) 5 w71 w.heap.size (fun _ => True) v365 y364 at ho; replace BK324 := bg BK324 hg (Kd.R_ne HO362.out BK324.out (by decide)); replace BK325 := bg BK325 hg (Kd.R_ne HO362.out BK325.out (by decide)); replace BK339 := bg BK339 hg (Kd.R_ne HO362.out BK339.out (by decide)); replace HB := am (hb); have HO366 := am (ho); clear HO362; clear ho hb hg hat; have hcz72_0 := bk w71 BK339 0; have hcz72_1 := bk w71 BK339 1; have hcz72_2 := bk w71 BK339 2; have hcz72_3 := bk w71 BK339 3; have hcz72_4 := bk w71 BK339 4; have hfz72_0 := bf BK339 0; have hfz72_1 := bf BK339 1; have hfz72_2 := bf BK339 2; have hfz72_3 := bf BK339 3; have hfz72_4 := bf BK339 4) | ((with_reducible refine gate_callee (f := 44) rfl ?_); refine goesL_ (some 92) rfl rfl Try.func44 (by kernel_rfl) rfl #[.int .i64 ((rd_T80 l1_1 x6_1).f4)] rfl gl ?_; (with_reducible refine (spec_PutNum.calls k2 ((rd_T80 l1_1 x6_1).f4) t367 _ A60.out).mono ?_); rintro e w73 ⟨rfl, hb⟩; refine ⟨_, rfl, ?_⟩; replace HO366 := am (Kd.R_below (kR HO366) hb); replace BK324 := bb BK324 hb; replace BK325 := bb BK325 hb; replace BK339 := bb BK339 hb; replace HB := bs HB hb; clear hb) | (at_builtin; refine print_append_str (w0 := w) w.heap.size rfl (.tmp 89) _ 75 9 5 rfl Try.underlying75 Try.underlying9 info5 v365 y364 t367 rfl rfl ?aO ?aB ?aS ?aL ?_; (case aB => exact (bw HB)); (case aO => exact (Kd.own_of_R (kR HO366))); (case aS => exact (below_size (bw HB))); (case aL => have := LMc61.out; omega); intro v369 w74 ho0 hb hg; have ho := Kd.R_of_own (h1 := fun _ => rfl) (ok := fun _ => True) ho0 (fun _ _ => trivial); clear ho0; have hat := True.intro; rw [← Ny368.out] at ho; change Kd.R (Kd.int .u8) 5 w74 w.heap.size (fun _ => True) v369 y368 at ho; replace BK324 := bg BK324 hg (Kd.R_ne HO366.out BK324.out (by decide)); replace BK325 := bg BK325 hg (Kd.R_ne HO366.out BK325.out (by decide)); replace BK339 := bg BK339 hg (Kd.R_ne HO366.out BK339.out (by decide)); replace HB := am (hb); have HO370 := am (ho); clear HO366; clear ho hb hg hat))
   (try simp only [Act.put, sa, sz, ss])
   have H := HC63.out
   clear HC63
   refine iM H ?_; clear H; intro c75b0 H
   refine iM H ?_; clear H; intro c76b0 H
   refine be H ?_; clear H; intro t375 A77 H
   have H' := am H
   clear H
   have hnb78 := NB339_324.out
   have hnc78 := NB324_339.out
   have hnb79 := NB339_325.out
   have hnc79 := NB325_339.out
   have hcz80_0 := bk w74 BK339 0
   have hcz80_1 := bk w74 BK339 1
   have hcz80_2 := bk w74 BK339 2
   have hcz80_3 := bk w74 BK339 3
   have hcz80_4 := bk w74 BK339 4
   have hfz80_0 := bf BK339 0
   have hfz80_1 := bf BK339 1
   have hfz80_2 := bf BK339 2
   have hfz80_3 := bf BK339 3
   have hfz80_4 := bf BK339 4
   obtain ⟨Ao81, co81, eo81⟩ := Kd.R_slice HO370.out
   subst eo81
   go_wp2_with (first | ((with_reducible refine gk 45 rfl ?_); refine gC 45 (some 97) Try.func45 #[.slice Ao81 y368.length co81, .slice A338_3 ((rd_T80 l1_1 x6_1).f3).length c338_3] ((spec_l10PutVals.calls k2 (fun k_ => some k_ = (.slice Ao81 y368.length co81 : Value).ownBlock) (.slice Ao81 y368.length co81) y368 _ _ ((rd_T80 l1_1 x6_1).f3) t371 w _ (by repeat (first | (with_reducible first | exact HB.out | apply below_alloc | apply pw_below_drewN | apply below_drew1 | refine below_set ?_ GW324.out | refine below_set ?_ GW325.out | refine below_set ?_ GW339.out) | exact HB.out)) (Kd.R_tight rfl HO370.out) (Kd.C_kept_came k82_heap HR338_3.out (bw HB) (fun k_ hs_ => (fun e_ => Kd.R_base HO370.out k_ e_.symm) hs_)) HC338_3.out A62.out).mono ?_); rintro e w82 ⟨v372, rfl, ho0, hb, hkp⟩; refine ⟨_, rfl, ?_⟩; replace BK324 := am (blk_kept (bp BK324) hkp (fun hs_ => (fun e_ => (Kd.R_ne HO370.out BK324.out (by decide)) e_) hs_)); replace BK325 := am (blk_kept (bp BK325) hkp (fun hs_ => (fun e_ => (Kd.R_ne HO370.out BK325.out (by decide)) e_) hs_)); replace BK339 := am (blk_kept (bp BK339) hkp (fun hs_ => (fun e_ => (Kd.R_ne HO370.out BK339.out (by decide)) e_) hs_)); have HO373 := am (Kd.R_mono (ok' := fun k_ => True) ho0 (fun k_ hk_ => trivial)); replace HB := am (hb); clear HO370; have hnb83 := NB325_324.out; have hnc83 := NB324_325.out; have hcz84 := bK w82 BK325; have hfz84 := bF BK325; have p374 : 0 ≤ (x6_1 : Int) := dt; have q374 : x6_1 < (l1_2.length : Int) := dt; obtain ⟨ad374, A374_0, c374_0, e374, hx374_0, hl374_0, hi374_0⟩ := at_L17 HR1_2.out x6_1 p374 q374; cases e374; replace hx374_0 := cl HB hx374_0; have HR374_0 := am hi374_0; have HC374_0 := am hl374_0; clear hi374_0 hl374_0; replace p374 := eq_true p374; replace q374 := eq_true q374; obtain ⟨Ao85, co85, eo85⟩ := Kd.R_slice HO373.out; subst eo85) | ((with_reducible refine gk 45 rfl ?_); refine gC 45 (some 104) Try.func45 #[.slice Ao85 t371.length co85, .slice A374_0 (rd_L17 l1_2 x6_1).length c374_0] ((spec_l10PutVals.calls k2 (fun k_ => some k_ = (.slice Ao85 t371.length co85 : Value).ownBlock) (.slice Ao85 t371.length co85) t371 _ _ (rd_L17 l1_2 x6_1) t375 w _ (by repeat (first | (with_reducible first | exact HB.out | apply below_alloc | apply pw_below_drewN | apply below_drew1 | refine below_set ?_ GW324.out | refine below_set ?_ GW325.out | refine below_set ?_ GW339.out) | exact HB.out)) (Kd.R_tight rfl HO373.out) (Kd.C_kept_came k82_heap HR374_0.out (bw HB) (fun k_ hs_ => (fun e_ => Kd.R_base HO373.out k_ e_.symm) hs_)) HC374_0.out A77.out).mono ?_); rintro e w86 ⟨v376, rfl, ho0, hb, hkp⟩; refine ⟨_, rfl, ?_⟩; replace BK324 := am (blk_kept (bp BK324) hkp (fun hs_ => (fun e_ => (Kd.R_ne HO373.out BK324.out (by decide)) e_) hs_)); replace BK325 := am (blk_kept (bp BK325) hkp (fun hs_ => (fun e_ => (Kd.R_ne HO373.out BK325.out (by decide)) e_) hs_)); replace BK339 := am (blk_kept (bp BK339) hkp (fun hs_ => (fun e_ => (Kd.R_ne HO373.out BK339.out (by decide)) e_) hs_)); have HO377 := am (Kd.R_mono (ok' := fun k_ => True) ho0 (fun k_ hk_ => trivial)); replace HB := am (hb); clear HO373))
   go_roundg k2
   case measure => have := HK1.out; have := HK2.out; omega
   case rel => exact ⟨(t375), (wrap64 (x6_1 + 1)), dr, H', ⟨by have := HK1.out; have := HK2.out; omega⟩, ⟨kR HO377⟩, ⟨bp BK324⟩, ⟨bp BK325⟩, ⟨bw HB⟩⟩
  rw [if_neg c25] at H
  have c25b0 := decide_eq_false c25
  clear c25
  (first | rw [c25b0] | (simp only [i64_w, i32_w]; rw [c25b0]) | skip)
  obtain rfl := oi H
  have hnb87 := NB325_324.out
  have hnc87 := NB324_325.out
  have hcz88 := bK wr BK325
  have hfz88 := bF BK325
  have hcv89 := own_string (P := Try.prog) Try.underlying75 Try.underlying5 Try.underlying9 (Kd.own_of_R HO_5.out)
  go_wp2
  go_ret
  exact ⟨er, bw HB⟩
 obtain rfl := oi H
 go_wp2
 go_ret
 exact ⟨er, bw HB⟩

def laws_toVal.f (a0_0 : Int) (a0_1 : Int) : Option (Int × Int) := some (a0_0, a0_1)
theorem laws_toVal.calls (a0_0 : Int) (a0_1 : Int) (r1 : Int) (r2 : Int) (w : World) (h : laws_toVal.f a0_0 a0_1 = some (r1, r2)) :
  Calls Try.prog 134 #[.agg #[.int .i64 a0_0, .int .i64 a0_1]] w fun e w' => e = .returned (.agg #[.int .i64 r1, .int .i64 r2]) ∧ Below w.heap.size w w' := by
 have hu185 := Try.underlying185
 have hu82 := Try.underlying82
 have HB := am (Below.refl w.heap.size w)
 have H : (some (a0_0, a0_1)) = some (r1, r2) := h
 clear h
 simp only [Option.some.injEq, Prod.mk.injEq] at H
 obtain ⟨rfl, rfl⟩ := H
 go_enter Try.func134, Try.ntmps134
 go_wp2_with (first | ((with_reducible refine gd 1 rfl ?_); refine bX 1 #[.int .i64 a0_0, .int .i64 a0_1] 185 HB ?_; clear HB; intro gb378 w2 hg hb BK378 GW378 HB; clear hb hg) | ((with_reducible refine gd 2 rfl ?_); refine bX 2 #[.int .i64 0, .int .i64 0] 82 HB ?_; clear HB; intro gb379 w3 hg hb BK379 GW379 HB; obtain ⟨NB378_379, NB379_378, BK378⟩ := b3 hg BK378 hb; clear hb hg) | ((with_reducible refine gd 3 rfl ?_); refine bX 3 #[.int .i64 0, .int .i64 0] 82 HB ?_; clear HB; intro gb380 w4 hg hb BK380 GW380 HB; obtain ⟨NB378_380, NB380_378, BK378⟩ := b3 hg BK378 hb; obtain ⟨NB379_380, NB380_379, BK379⟩ := b3 hg BK379 hb; clear hb hg; have hnb5 := NB378_379.out; have hnc5 := NB379_378.out; have hnb6 := NB378_380.out; have hnc6 := NB380_378.out; have hcz7 := bK w4 BK378; have hfz7 := bF BK378; have hnb8 := NB380_379.out; have hnc8 := NB379_380.out; have hcz9 := bK w4 BK380; have hfz9 := bF BK380; have hcz10 := bK w4 BK379; have hfz10 := bF BK379))
 refine bodyPost_ret (results_cell_row rfl _ _ gb379 82 #[.int .i64 a0_0, .int .i64 a0_1] (0, 0) _ rfl (bt BK379) Try.underlying82 rfl (by kernel_rfl)) rfl ?_
 exact ⟨er, bw HB⟩

def laws_toValS.l0 : Nat → List (S185) → List (S82) → Int → Option ((List (S82)))
 | 0, _, _, _ => none
 | k + 1, x0, x3, x4 => if x4 < (x0.length : Int) then (if 0 ≤ x4 then ((laws_toVal.f ((rd_T185 x0 x4).f0) ((rd_T185 x0 x4).f1)).bind fun bt385 => (if x4 < (x3.length : Int) then (laws_toValS.l0 k x0 (x3.set (x4 : Int).toNat (⟨bt385.1, bt385.2⟩ : S82)) (wrap64 (x4 + 1))) else (none))) else (none)) else (some x3)
def laws_toValS.f (k : Nat) (l0 : List (S185)) : Option ((List (S82))) := if 0 ≤ (l0.length : Int) then (if ((l0.length : Int) : Int).toNat ≤ 17592186044416 then (laws_toValS.l0 k l0 (List.replicate ((l0.length : Int) : Int).toNat z82) 0) else (none)) else (none)
theorem laws_toValS.calls (k : Nat) (A0 : Option Addr) (c0 : Nat) (l0 : List (S185)) (r : List (S82)) (w : World) (hr0 : Kd.C k185 w A0 l0.length l0) (hc0 : l0.length ≤ c0) (h : laws_toValS.f k l0 = some r) :
  Calls Try.prog 89 #[.slice A0 l0.length c0] w fun e w' => ∃ v0_ : Value, e = .returned (v0_) ∧ Kd.R k82 82 w' w.heap.size (fun _ => True) v0_ r ∧ Below w.heap.size w w' := by
 have hu185 := Try.underlying185
 have hu82 := Try.underlying82
 have HR0 := am hr0
 have HC0 := am hc0
 clear hr0 hc0
 have HB := am (Below.refl w.heap.size w)
 have H : (if 0 ≤ (l0.length : Int) then (if ((l0.length : Int) : Int).toNat ≤ 17592186044416 then (laws_toValS.l0 k l0 (List.replicate ((l0.length : Int) : Int).toNat z82) 0) else (none)) else (none)) = some r := h
 clear h
 refine iN H ?_; clear H; intro c2 H
 have c2b0 := eq_true c2
 have c2b1 := decide_eq_true c2
 clear c2
 refine iN H ?_; clear H; intro c3 H
 have c3b0 := eq_true c3
 have c3b1 := decide_eq_true c3
 clear c3
 obtain ⟨y381, hy381⟩ : ∃ y_ : List (S82), y_ = (List.replicate ((l0.length : Int) : Int).toNat z82) := ⟨_, rfl⟩
 replace H : (laws_toValS.l0 k l0 y381 0) = some r := cg hy381 H
 have Ny381 := am hy381
 clear hy381
 have H' := am H
 clear H
 go_enter Try.func89, Try.ntmps89
 go_wp2_with (first | ((with_reducible refine gate_dst (N := 7) rfl ?_); refine Kd.R_make k82 _ 82 rfl (N := 7) rfl 78 _ _ rfl (l0.length : Int) rfl rfl Try.underlying78 (.agg #[(.int .i64 0), (.int .i64 0)]) 16 info82 rfl (by decide) (by omega) z82 (ok := fun _ => True) (okp := fun _ => True) (k82_mkM _ _ _ z82 ) (fun _ hk => hk) trivial (of_decide_eq_true as1) (Nat.le_trans (Nat.mul_le_mul_right _ (of_decide_eq_true as1 : (l0.length : Int).toNat ≤ 17592186044416)) (by omega)) (Below.refl _ _) (Nat.le_refl _) ?_; intro v382 w4 ho5 hb hg_ hnew_; clear hg_ hnew_; (first | rw [← Ny381.out] at ho5 | (simp only [Int.reduceToNat] at ho5; rw [← Ny381.out] at ho5)); have HO383 := am (Kd.R_lower ho5 (below_size (bw HB))); replace HB := bs HB hb; clear hb ho5))
 go_loopg [4] k (fun kq v4 w' => ∃ (x3_1 : List (S82)) (x4_1 : Int), v4 = .int .i64 x4_1 ∧ Aside0 (laws_toValS.l0 kq l0 x3_1 x4_1 = some r) ∧ Aside0 (kq ≤ k) ∧ Aside0 (Kd.R k82 82 w' w.heap.size (fun _ => True) v382 x3_1) ∧ Aside0 (Below w.heap.size w w'))
 case atStart => exact ⟨(y381), (0), dr, H', ⟨Nat.le_refl _⟩, ⟨kR HO383⟩, ⟨bw HB⟩⟩
 clear H'
 obtain ⟨x3_1, x4_1, rfl, HA, HK1, HO_3, HB⟩ := hrel
 rcases gk with _ | k1
 ·exact absurd HA.out (by simp [laws_toValS.l0])
 have H := HA.out
 clear HA
 simp only [laws_toValS.l0] at H
 refine qI H ?_ ?_ <;> clear H <;> intro c6b0 H
 ·refine iM H ?_; clear H; intro c7b0 H
  replace H := Option.bind_eq_some_iff.mp H
  obtain ⟨⟨t385, t386⟩, A80, H⟩ := H
  replace H : (if x4_1 < (x3_1.length : Int) then (laws_toValS.l0 k1 l0 (x3_1.set (x4_1 : Int).toNat (⟨t385, t386⟩ : S82)) (wrap64 (x4_1 + 1))) else (none)) = some r := H
  have A8 := am A80
  clear A80
  refine iM H ?_; clear H; intro c9b0 H
  obtain ⟨y387, hy387⟩ : ∃ y_ : List (S82), y_ = (x3_1.set (x4_1 : Int).toNat (⟨t385, t386⟩ : S82)) := ⟨_, rfl⟩
  replace H : (laws_toValS.l0 k1 l0 y387 (wrap64 (x4_1 + 1))) = some r := cg hy387 H
  have Ny387 := am hy387
  clear hy387
  have H' := am H
  clear H
  have p384 : 0 ≤ (x4_1 : Int) := dt
  have q384 : x4_1 < (l0.length : Int) := dt
  obtain ⟨ad384, e384, hx384_0, hx384_1⟩ := at_T185 HR0.out x4_1 p384 q384
  cases e384
  replace hx384_0 := cl HB hx384_0
  replace hx384_1 := cl HB hx384_1
  replace p384 := eq_true p384
  replace q384 := eq_true q384
  go_wp2_with (first | ((with_reducible refine gate_callee (f := 134) rfl ?_); refine goesL_ (some 20) rfl rfl Try.func134 (by kernel_rfl) rfl #[.agg #[.int .i64 ((rd_T185 l0 x4_1).f0), .int .i64 ((rd_T185 l0 x4_1).f1)]] rfl gl ?_; (with_reducible refine (laws_toVal.calls ((rd_T185 l0 x4_1).f0) ((rd_T185 l0 x4_1).f1) t385 t386 _ A8.out).mono ?_); rintro e w11 ⟨rfl, hb⟩; refine ⟨_, rfl, ?_⟩; replace HO_3 := am (Kd.R_below (kR HO_3) hb); replace HB := bs HB hb; clear hb; have p10 : 0 ≤ (x4_1 : Int) := dt; have q10 : (x4_1 : Int) < ((x3_1.length : Int) : Int) := dt; obtain ⟨go10, co10, eo10, gb10, gl10, cl10, HG10⟩ := Kd.R_form HO_3.out (by omega); (first | cases eo10 | (injection eo10 with ea_ en_ ec_; (first | subst ea_ | (injection ea_ with ea_; subst ea_)); subst ec_; clear en_)); have GB10 := am gb10; have GG10 := am HG10; clear gb10 gl10 HG10; obtain ⟨ce10, hcl10, hM10, hcc10, hfr10⟩ := Kd.R_elem HO_3.out z82 (x4_1 : Int) p10 q10; obtain rfl := k82_openM hM10; have hx10_0 : w11.cell? ⟨go10, (x4_1 : Int).toNat * 2, none⟩ = some (.int .i64 ((rd_T82 x3_1 x4_1).f0)) := hcc10 0 _ rfl; have hx10_1 : w11.cell? ⟨go10, (x4_1 : Int).toNat * 2 + 1, none⟩ = some (.int .i64 ((rd_T82 x3_1 x4_1).f1)) := hcc10 1 _ rfl; have hf10_0 : w11.frozen? ⟨go10, (x4_1 : Int).toNat * 2, none⟩ = false := hfr10 0; have hf10_1 : w11.frozen? ⟨go10, (x4_1 : Int).toNat * 2 + 1, none⟩ = false := hfr10 1; replace p10 := eq_true p10; replace q10 := eq_true q10; have HX12 := am (show Kd.R k82 82 w11 w.heap.size (fun _ => True) (.slice (some ⟨go10, 0, none⟩) x3_1.length co10) x3_1 from (kR HO_3)); obtain ⟨ce12, hcl12, hM12, hcc12, hfr12⟩ := Kd.R_elem HX12.out z82 (x4_1 : Int) (of_decide_eq_true as1) (by have h_ : (x4_1 : Int) < ((x3_1.length : Int) : Int) := dt; first | exact h_ | (have e_ := (Kd.R_reads' HO_3.out).1; omega) | simpa using h_); obtain rfl := k82_openM hM12; have HP12 := Kd.R_seg HX12.out (x4_1 : Int) (of_decide_eq_true as1) (by have h_ : (x4_1 : Int) < ((x3_1.length : Int) : Int) := dt; first | exact h_ | (have e_ := (Kd.R_reads' HO_3.out).1; omega) | simpa using h_) (seg := [.int .i64 t385, .int .i64 t386]) (j := 0) hcl12 hcc12 (show 2 ≤ 2 from by decide) (x' := (⟨t385, t386⟩ : S82)) (k82_mkM _ _ _ (⟨t385, t386⟩ : S82) ) (fun _ hk => hk); have hx12_0 := hcc12 0 _ rfl; (try simp only [show (k82).sz = 2 from rfl, Nat.mul_one, Nat.add_zero] at hx12_0); have hf12_0 := hfr12 0; (try simp only [show (k82).sz = 2 from rfl, Nat.mul_one, Nat.add_zero] at hf12_0); have hx12_1 := hcc12 1 _ rfl; (try simp only [show (k82).sz = 2 from rfl, Nat.mul_one, Nat.add_zero] at hx12_1); have hf12_1 := hfr12 1; (try simp only [show (k82).sz = 2 from rfl, Nat.mul_one, Nat.add_zero] at hf12_1)) | ((with_reducible refine gt 82 21 rfl ?_); refine sE 82 21 ((w11.setCell ⟨go10, (x4_1 : Int).toNat * 2, none⟩ (.int .i64 t385)).setCell ⟨go10, (x4_1 : Int).toNat * 2 + 1, none⟩ (.int .i64 t386)) ?_; intro w13 hw; have hg : w11.grownBy w13 (some go10) := (by rw [hw]; exact HP12.2); have hp_ : Kd.R k82 82 w13 w.heap.size (fun _ => True) (.slice (some ⟨go10, 0, none⟩) x3_1.length co10) y387 := (by rw [hw, Ny387.out]; exact HP12.1); clear HP12; replace HO_3 := am (hp_); replace HB := am ((by rw [hw]; exact below_set (below_set (HB.out) GB10.out) GB10.out : Below w.heap.size w w13)); clear hg hw hp_))
  go_roundg k1
  case measure => have := HK1.out; omega
  case rel => exact ⟨(y387), (wrap64 (x4_1 + 1)), dr, H', ⟨by have := HK1.out; omega⟩, ⟨kR HO_3⟩, ⟨bw HB⟩⟩
 obtain rfl := oi H
 go_wp2
 go_ret
 exact ⟨_, er, kR HO_3, bw HB⟩

def laws_toMov.f (a0_0 : Int) (a0_1 : Int) (a0_2 : Int) : Option (Int × Int × Int) := (laws_toVal.f a0_1 a0_2).bind fun bt391 => (some (a0_0, bt391.1, bt391.2))
theorem laws_toMov.calls (a0_0 : Int) (a0_1 : Int) (a0_2 : Int) (r1 : Int) (r2 : Int) (r3 : Int) (w : World) (h : laws_toMov.f a0_0 a0_1 a0_2 = some (r1, r2, r3)) :
  Calls Try.prog 157 #[.agg #[.int .i64 a0_0, .int .i64 a0_1, .int .i64 a0_2]] w fun e w' => e = .returned (.agg #[.int .i64 r1, .int .i64 r2, .int .i64 r3]) ∧ Below w.heap.size w w' := by
 have hu201 := Try.underlying201
 have hu84 := Try.underlying84
 have hu185 := Try.underlying185
 have hu82 := Try.underlying82
 have HB := am (Below.refl w.heap.size w)
 have H : ((laws_toVal.f a0_1 a0_2).bind fun bt391 => (some (a0_0, bt391.1, bt391.2))) = some (r1, r2, r3) := h
 clear h
 replace H := Option.bind_eq_some_iff.mp H
 obtain ⟨⟨t391, t392⟩, A20, H⟩ := H
 replace H : (some (a0_0, t391, t392)) = some (r1, r2, r3) := H
 have A2 := am A20
 clear A20
 simp only [Option.some.injEq, Prod.mk.injEq] at H
 obtain ⟨rfl, rfl, rfl⟩ := H
 go_enter Try.func157, Try.ntmps157
 go_wp2_with (first | ((with_reducible refine gd 1 rfl ?_); refine bX 1 #[.int .i64 a0_0, .int .i64 a0_1, .int .i64 a0_2] 201 HB ?_; clear HB; intro gb388 w3 hg hb BK388 GW388 HB; clear hb hg) | ((with_reducible refine gd 2 rfl ?_); refine bX 2 #[.int .i64 0, .int .i64 0, .int .i64 0] 84 HB ?_; clear HB; intro gb389 w4 hg hb BK389 GW389 HB; obtain ⟨NB388_389, NB389_388, BK388⟩ := b3 hg BK388 hb; clear hb hg) | ((with_reducible refine gd 3 rfl ?_); refine bX 3 #[.int .i64 0, .int .i64 0, .int .i64 0] 84 HB ?_; clear HB; intro gb390 w5 hg hb BK390 GW390 HB; obtain ⟨NB388_390, NB390_388, BK388⟩ := b3 hg BK388 hb; obtain ⟨NB389_390, NB390_389, BK389⟩ := b3 hg BK389 hb; clear hb hg; have hnb6 := NB388_389.out; have hnc6 := NB389_388.out; have hnb7 := NB388_390.out; have hnc7 := NB390_388.out; have hcz8 := bK w5 BK388; have hfz8 := bF BK388; have hnb9 := NB390_389.out; have hnc9 := NB389_390.out; have hcz10 := bK w5 BK390; have hfz10 := bF BK390) | ((with_reducible refine gate_callee (f := 134) rfl ?_); refine goesL_ (some 9) rfl rfl Try.func134 (by kernel_rfl) rfl #[.agg #[.int .i64 a0_1, .int .i64 a0_2]] rfl gl ?_; (with_reducible refine (laws_toVal.calls a0_1 a0_2 t391 t392 _ A2.out).mono ?_); rintro e w11 ⟨rfl, hb⟩; refine ⟨_, rfl, ?_⟩; replace BK388 := bb2 BK388 hb; replace BK389 := bb2 BK389 hb; replace BK390 := bo #[.int .i64 a0_0, .int .i64 0, .int .i64 0] BK390 hb; replace HB := bs HB hb; clear hb; have hcz12 := bK w11 BK390; have hfz12 := bF BK390; have hcz13 := bK w11 BK389; have hfz13 := bF BK389))
 refine bodyPost_ret (results_cell_row rfl _ _ gb389 84 #[.int .i64 a0_0, .int .i64 t391, .int .i64 t392] (0, 0) _ rfl (bt BK389) Try.underlying84 rfl (by kernel_rfl)) rfl ?_
 exact ⟨er, bw HB⟩

end Go.Proofs.Ytkhpiicijkhpkaa.QFnExactAsmBytes
