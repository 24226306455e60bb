import Derived.Test.YtopaefhfjioecaaCFnFileCutx0
import Derived.Test.YtopaefhfjioecaaCFnFileCutx4
namespace Go.Proofs.Ytopaefhfjioecaa.QFnFileCut
open Go.RowKit Go.Proofs.YtopaefhfjioecaaW
open PrintWords PrintLast PrintMore PrintShort
attribute [local go_sem] max2_int min2_int max_two min_two max_three min_three max_four min_four   -- for this text's walks alone
set_option linter.unusedVariables false
set_option maxHeartbeats 8000000
set_option maxRecDepth 100000
set_option linter.unusedSimpArgs false

def spec_PutNum.l0 : Nat → Int → List Int → Option (ByteArray)
 | 0, _, _ => none
 | k + 1, x3, x4 => if x3 ≥ 128 then (if x4.length < 140737488355328 then (spec_PutNum.l0 k (IntKind.u64.wrap (Int.tdiv x3 128)) (x4 ++ [(IntKind.u64.wrap ((Int.tmod x3 128) + 128)) % 256])) else (none)) else (if x4.length < 140737488355328 then (some (strOfNums (x4 ++ [(x3) % 256]))) else (none))
def spec_PutNum.f (k : Nat) (a0 : Int) : Option (ByteArray) := (spec_l01Fold.f a0).bind fun t187 => (spec_PutNum.l0 k t187 (([] : List Int)))
theorem spec_PutNum.mono_l : ∀ k, (∀ y0 y1, LeO (spec_PutNum.l0 k y0 y1) (spec_PutNum.l0 (k + 1) y0 y1))
 | 0 => fun _ _ r h => by simp [spec_PutNum.l0] at h
 | k + 1 => by
  have ih0 := spec_PutNum.mono_l k
  ·intro y0 y1
   unfold spec_PutNum.l0
   with_reducible repeat' first | exact ih0 .. | exact LeO.refl _ | exact LeO.none _ | refine LeO.ite ?_ ?_ | refine LeO.bind ?_ (fun _ => ?_)
theorem spec_PutNum.mono : ∀ a0 k, LeO (spec_PutNum.f k a0) (spec_PutNum.f (k + 1) a0) := by
 intro a0 k
 have ih0 := spec_PutNum.mono_l k
 unfold spec_PutNum.f
 with_reducible repeat' first | exact ih0 .. | exact LeO.refl _ | exact LeO.none _ | refine LeO.ite ?_ ?_ | refine LeO.bind ?_ (fun _ => ?_)
theorem spec_PutNum.calls (k : Nat) (a0 : Int) (r : ByteArray) (w : World) (h : spec_PutNum.f k a0 = some r) :
  Calls Try.prog 42 #[.int .i64 a0] w fun e w' => e = .returned (.string r) ∧ Below w.heap.size w w' := by
 have HB := am (Below.refl w.heap.size w)
 have H : ((spec_l01Fold.f a0).bind fun t187 => (spec_PutNum.l0 k t187 (([] : List Int)))) = some r := h
 clear h
 refine be H ?_; clear H; intro t187 A2 H
 obtain ⟨y188, hy188⟩ : ∃ y_ : List Int, y_ = (([] : List Int)) := ⟨_, rfl⟩
 replace H : (spec_PutNum.l0 k t187 y188) = some r := by first | (rw [hy188]; with_reducible exact H) | (have H2_ := (Option.bind_some _ _).symm.trans H; rw [hy188]; with_reducible exact H2_) | (have H2_ := (Option.bind_some _ _).symm.trans H; with_reducible exact H2_) | with_reducible exact H | (rw [hy188]; exact H) | exact H
 have Ny188 := am hy188
 clear hy188
 have H' := am H
 clear H
 go_enter Try.func42, Try.ntmps42
 go_wp2_with (first | ((with_reducible refine gate_callee (f := 78) rfl ?_); refine goesL_ (some 6) rfl rfl Try.func78 (by kernel_rfl) rfl #[.int .i64 a0] rfl gl ?_; (with_reducible refine (spec_l01Fold.calls a0 t187 _ A2.out).mono ?_); rintro e w' ⟨rfl, ⟨nd, rfl⟩⟩; refine ⟨_, rfl, ?_⟩) | ((with_reducible refine gate_dst (N := 7) rfl ?_); refine Kd.R_lit (Kd.int .u8) _ 5 ?hg (N := 7) ?hd (xs := ([] : List Int)) (inner := []) (ok := fun _ => True) (okp := fun _ => True) ?hr ?hp (fun _ hk => hk) trivial (Below.refl _ _) (Nat.le_refl _) (by simp) ?_; (case hd => rfl); (case hg => rfl); (case hr => exact gs); (case hp => exact (Reps.none _ _)); intro v189 w3 ho4 hb hg_ hnew_; clear hg_ hnew_; (first | rw [← Ny188.out] at ho4 | (simp only [Int.reduceToNat] at ho4; rw [← Ny188.out] at ho4)); have HO190 := am (Kd.R_lower ho4 (below_size (bw HB))); replace HB := bs HB hb; clear hb ho4))
 go_loopg [3, 4] k (fun kq v3 v4 w' => ∃ (x3_1 : Int) (x4_1 : List Int), v3 = .int .u64 x3_1 ∧ Aside0 (spec_PutNum.l0 kq x3_1 x4_1 = some r) ∧ Aside0 (kq ≤ k) ∧ Aside0 (Kd.R (Kd.int .u8) 5 w' w.heap.size (fun _ => True) v4 x4_1) ∧ Aside0 (Below w.heap.size w w'))
 case atStart => exact ⟨(t187), (y188), dr, H', ⟨Nat.le_refl _⟩, ⟨kR HO190⟩, ⟨bw HB⟩⟩
 clear H'
 (try clear p2); (try clear c4)
 obtain ⟨x3_1, x4_1, rfl, HA, HK1, HO_4, HB⟩ := hrel
 rcases gk with _ | k1
 ·exact absurd HA.out (by simp [spec_PutNum.l0])
 have H := HA.out
 clear HA
 simp only [spec_PutNum.l0] at H
 refine qL H ?_ ?_ <;> clear H <;> intro c5b0 H
 ·refine iN H ?_; clear H; intro c6 H
  have LMc6 := am c6
  clear c6
  obtain ⟨y191, hy191⟩ : ∃ y_ : List Int, y_ = (x4_1 ++ [(IntKind.u64.wrap ((Int.tmod x3_1 128) + 128)) % 256]) := ⟨_, rfl⟩
  replace H : (spec_PutNum.l0 k1 (IntKind.u64.wrap (Int.tdiv x3_1 128)) y191) = some r := by first | (rw [hy191]; with_reducible exact H) | (have H2_ := (Option.bind_some _ _).symm.trans H; rw [hy191]; with_reducible exact H2_) | (have H2_ := (Option.bind_some _ _).symm.trans H; with_reducible exact H2_) | with_reducible exact H | (rw [hy191]; exact H) | exact H
  have Ny191 := am hy191
  clear hy191
  have H' := am H
  clear H
  go_wp2_with (first | ((with_reducible refine gate_builtin (b := .append) (xs := #[.tmp 10, .tmp 15]) rfl ?_); at_builtin; refine Kd.R_append (Kd.int .u8) (w0 := w) w.heap.size rfl (.tmp 10) (.tmp 15) 22 5 (.int .u8 0) 1 rfl Try.underlying22 info5 rfl (by decide) (by omega) u4 x4_1 ((IntKind.u64.wrap ((Int.tmod x3_1 128) + 128)) % 256) [.int .u8 ((IntKind.u64.wrap ((Int.tmod x3_1 128) + 128)) % 256)] (fun _ => True) (fun _ => False) rfl rfl ?aP (fun _ hk => hk.elim) ?aF ?aO ?aB ?aS ?aL ?_; (case aP => exact rfl); (case aB => exact (bw HB)); (case aF => exact (fun _ _ => trivial)); (case aO => exact (kR HO_4)); (case aS => exact (below_size (bw HB))); (case aL => have := LMc6.out; omega); intro v192 w7 ho hb hg hat; rw [← Ny191.out] at ho; replace HB := am (hb); have HO193 := am (ho); clear HO_4; clear ho hb hg hat))
  go_roundg k1
  case measure => have := HK1.out; omega
  case rel => exact ⟨(IntKind.u64.wrap (Int.tdiv x3_1 128)), (y191), dr, H', ⟨by have := HK1.out; omega⟩, ⟨kR HO193⟩, ⟨bw HB⟩⟩
 refine iN H ?_; clear H; intro c8 H
 have LMc8 := am c8
 clear c8
 obtain ⟨y194, hy194⟩ : ∃ y_ : List Int, y_ = (x4_1 ++ [(x3_1) % 256]) := ⟨_, rfl⟩
 replace H : (some (strOfNums y194)) = some r := by first | (rw [hy194]; with_reducible exact H) | (have H2_ := (Option.bind_some _ _).symm.trans H; rw [hy194]; with_reducible exact H2_) | (have H2_ := (Option.bind_some _ _).symm.trans H; with_reducible exact H2_) | with_reducible exact H | (rw [hy194]; exact H) | exact H
 have Ny194 := am hy194
 clear hy194
 obtain rfl := Option.some.inj H
 go_wp2_with (first | ((with_reducible refine gate_builtin (b := .append) (xs := #[.tmp 19, .tmp 22]) rfl ?_); at_builtin; refine Kd.R_append (Kd.int .u8) (w0 := w) w.heap.size rfl (.tmp 19) (.tmp 22) 22 5 (.int .u8 0) 1 rfl Try.underlying22 info5 rfl (by decide) (by omega) u4 x4_1 ((x3_1) % 256) [.int .u8 ((x3_1) % 256)] (fun _ => True) (fun _ => False) rfl rfl ?aP (fun _ hk => hk.elim) ?aF ?aO ?aB ?aS ?aL ?_; (case aP => exact rfl); (case aB => exact (bw HB)); (case aF => exact (fun _ _ => trivial)); (case aO => exact (kR HO_4)); (case aS => exact (below_size (bw HB))); (case aL => have := LMc8.out; omega); intro v195 w9 ho hb hg hat; rw [← Ny194.out] at ho; replace HB := am (hb); have HO196 := am (ho); clear HO_4; clear ho hb hg hat; have hcv10 := own_string (P := Try.prog) Try.underlying22 Try.underlying5 Try.underlying9 (Kd.own_of_R HO196.out)))
 go_ret
 exact ⟨er, bw HB⟩

def spec_Sum.l0 : Nat → ByteArray → Int → Int → Option (Int)
 | 0, _, _, _ => none
 | k + 1, x0, x3, x4 => if x4 < (x0.size : Int) then (if 0 ≤ x4 then (spec_Sum.l0 k x0 (Int.tmod (wrap64 ((wrap64 (257 * x3)) + (wrap64 (bt x0 x4)))) 4294967291) (wrap64 (x4 + 1))) else (none)) else (some x3)
def spec_Sum.f (k : Nat) (a0 : ByteArray) : Option (Int) := if (a0.size : Int) > 20000 then (some 0) else (spec_Sum.l0 k a0 7 0)
theorem spec_Sum.mono_l : ∀ k, (∀ y0 y1 y2, LeO (spec_Sum.l0 k y0 y1 y2) (spec_Sum.l0 (k + 1) y0 y1 y2))
 | 0 => fun _ _ _ r h => by simp [spec_Sum.l0] at h
 | k + 1 => by
  have ih0 := spec_Sum.mono_l k
  ·intro y0 y1 y2
   unfold spec_Sum.l0
   with_reducible repeat' first | exact ih0 .. | exact LeO.refl _ | exact LeO.none _ | refine LeO.ite ?_ ?_ | refine LeO.bind ?_ (fun _ => ?_)
theorem spec_Sum.mono : ∀ a0 k, LeO (spec_Sum.f k a0) (spec_Sum.f (k + 1) a0) := by
 intro a0 k
 have ih0 := spec_Sum.mono_l k
 unfold spec_Sum.f
 with_reducible repeat' first | exact ih0 .. | exact LeO.refl _ | exact LeO.none _ | refine LeO.ite ?_ ?_ | refine LeO.bind ?_ (fun _ => ?_)
theorem spec_Sum.calls (k : Nat) (a0 : ByteArray) (r : Int) (w : World) (h : spec_Sum.f k a0 = some r) :
  Calls Try.prog 43 #[.string a0] w fun e w' => e = .returned (.int .i64 r) ∧ Drawn0 w w' := by
 have H : (if (a0.size : Int) > 20000 then (some 0) else (spec_Sum.l0 k a0 7 0)) = some r := h
 clear h
 refine qG H ?_ ?_ <;> clear H <;> intro c2b0 H
 ·have c2 := of_decide_eq_true c2b0
  have c2b1 : decide (20000 < a0.size) = true := decide_eq_true (by omega)
  clear c2
  obtain rfl := Option.some.inj H
  go_enter Try.func43, Try.ntmps43
  go_wp2
  go_ret
  exact ⟨by first | rfl | (simp; done) | (simp [*]; done), by repeat (first | exact Drawn0.refl _ | apply Drawn0.step)⟩
 have c2 := of_decide_eq_false c2b0
 have c2b1 : decide (20000 < a0.size) = false := decide_eq_false (by omega)
 clear c2
 have H' := am H
 clear H
 go_enter Try.func43, Try.ntmps43
 go_wp2
 go_loopg [3, 4] k (fun kq v3 v4 w' => ∃ (x3_1 : Int) (x4_1 : Int), v3 = .int .i64 x3_1 ∧ v4 = .int .i64 x4_1 ∧ Aside0 (spec_Sum.l0 kq a0 x3_1 x4_1 = some r) ∧ Aside0 (kq ≤ k) ∧ Drawn0 w w')
 case atStart => exact ⟨(7), (0), dr, dr, H', ⟨Nat.le_refl _⟩, by repeat (first | exact Drawn0.refl _ | apply Drawn0.step)⟩
 clear H'
 (try clear c2); (try clear c2b0); (try clear c2b1); (try clear p2)
 obtain ⟨x3_1, x4_1, rfl, rfl, HA, HK1, ⟨m1, rfl⟩⟩ := hrel
 rcases gk with _ | k1
 ·exact absurd HA.out (by simp [spec_Sum.l0])
 have H := HA.out
 clear HA
 simp only [spec_Sum.l0] at H
 refine qI H ?_ ?_ <;> clear H <;> intro c3b0 H
 ·refine iM H ?_; clear H; intro c4b0 H
  have H' := am H
  clear H
  have p5 : 0 ≤ (x4_1 : Int) := of_decide_eq_true as1
  have q5 : x4_1 < (a0.size : Int) := of_decide_eq_true as1
  have hx5 := bt_at a0 x4_1
  replace p5 := eq_true p5
  replace q5 := eq_true q5
  go_wp2
  go_roundg k1
  case measure => have := HK1.out; omega
  case rel => exact ⟨(Int.tmod (wrap64 ((wrap64 (257 * x3_1)) + (wrap64 (bt a0 x4_1)))) 4294967291), (wrap64 (x4_1 + 1)), dr, dr, H', ⟨by have := HK1.out; omega⟩, by repeat (first | exact Drawn0.refl _ | apply Drawn0.step)⟩
 obtain rfl := Option.some.inj H
 go_wp2
 go_ret
 exact ⟨by first | rfl | (simp; done) | (simp [*]; done), by repeat (first | exact Drawn0.refl _ | apply Drawn0.step)⟩

mutual
def spec_FileBytes.l0 : Nat → List Int → Int → List (S35) → Option (ByteArray)
 | 0, _, _, _ => none
 | k + 1, x3, x4, x198000 => if x4 < (x198000.length : Int) then (if 0 ≤ x4 then ((spec_PutNum.f k ((rd_T35 x198000 x4).f0)).bind fun t208 => (if x3.length + t208.size < 140737488355328 then ((some (x3 ++ bytesOf t208 : List Int)).bind fun y209 => ((spec_PutNum.f k ((rd_T35 x198000 x4).f1)).bind fun t212 => (if y209.length + t212.size < 140737488355328 then ((some (y209 ++ bytesOf t212 : List Int)).bind fun y213 => ((spec_PutNum.f k (((rd_T35 x198000 x4).f2).length : Int)).bind fun t216 => (if y213.length + t216.size < 140737488355328 then (spec_FileBytes.l1 k (y213 ++ bytesOf t216) x4 0 x198000 ((rd_T35 x198000 x4).f0) ((rd_T35 x198000 x4).f1) ((rd_T35 x198000 x4).f2)) else (none)))) else (none)))) else (none))) else (none)) else ((spec_Sum.f k (strOfNums x3)).bind fun t230 => ((spec_PutNum.f k t230).bind fun t231 => (if (strOfNums x3).size + t231.size ≤ 9223372036854775807 then (some ((strOfNums x3) ++ t231)) else (none))))
def spec_FileBytes.l1 : Nat → List Int → Int → Int → List (S35) → Int → Int → List (S38) → Option (ByteArray)
 | 0, _, _, _, _, _, _, _ => none
 | k + 1, x3, x4, x6, x198000, x208000, x208001, x208002 => if x6 < (x208002.length : Int) then (if 0 ≤ x6 then ((spec_PutNum.f k ((rd_T38 x208002 x6).f0)).bind fun t221 => (if x3.length + t221.size < 140737488355328 then ((some (x3 ++ bytesOf t221 : List Int)).bind fun y222 => ((spec_PutNum.f k ((rd_T38 x208002 x6).f1)).bind fun t226 => (if y222.length + t226.size < 140737488355328 then (spec_FileBytes.l1 k (y222 ++ bytesOf t226) x4 (wrap64 (x6 + 1)) x198000 x208000 x208001 x208002) else (none)))) else (none))) else (none)) else (spec_FileBytes.l0 k x3 (wrap64 (x4 + 1)) x198000)
end
def spec_FileBytes.f (k : Nat) (l0_0 : List (S35)) : Option (ByteArray) := (spec_l04Right.f k l0_0).bind fun t198 => (if t198 = true then ((some (([74, 49] : List Int) : List Int)).bind fun y199 => ((spec_PutNum.f k (l0_0.length : Int)).bind fun t202 => (if y199.length + t202.size < 140737488355328 then (spec_FileBytes.l0 k (y199 ++ bytesOf t202) 0 l0_0) else (none)))) else (some (⟨#[]⟩ : ByteArray)))
theorem spec_FileBytes.mono_l : ∀ k, (∀ y0 y1 y2, LeO (spec_FileBytes.l0 k y0 y1 y2) (spec_FileBytes.l0 (k + 1) y0 y1 y2)) ∧ (∀ y0 y1 y2 y3 y4 y5 y6, LeO (spec_FileBytes.l1 k y0 y1 y2 y3 y4 y5 y6) (spec_FileBytes.l1 (k + 1) y0 y1 y2 y3 y4 y5 y6))
 | 0 => ⟨fun _ _ _ r h => by simp [spec_FileBytes.l0] at h, fun _ _ _ _ _ _ _ r h => by simp [spec_FileBytes.l1] at h⟩
 | k + 1 => by
  obtain ⟨ih0, ih1⟩ := spec_FileBytes.mono_l k
  refine ⟨?_, ?_⟩
  ·intro y0 y1 y2
   unfold spec_FileBytes.l0
   with_reducible repeat' first | exact ih0 .. | exact ih1 .. | exact spec_PutNum.mono .. | exact spec_Sum.mono .. | exact spec_l04Right.mono .. | exact LeO.refl _ | exact LeO.none _ | refine LeO.ite ?_ ?_ | refine LeO.bind ?_ (fun _ => ?_)
  ·intro y0 y1 y2 y3 y4 y5 y6
   unfold spec_FileBytes.l1
   with_reducible repeat' first | exact ih0 .. | exact ih1 .. | exact spec_PutNum.mono .. | exact spec_Sum.mono .. | exact spec_l04Right.mono .. | exact LeO.refl _ | exact LeO.none _ | refine LeO.ite ?_ ?_ | refine LeO.bind ?_ (fun _ => ?_)
theorem spec_FileBytes.mono : ∀ a0 k, LeO (spec_FileBytes.f k a0) (spec_FileBytes.f (k + 1) a0) := by
 intro a0 k
 obtain ⟨ih0, ih1⟩ := spec_FileBytes.mono_l k
 unfold spec_FileBytes.f
 with_reducible repeat' first | exact ih0 .. | exact ih1 .. | exact spec_PutNum.mono .. | exact spec_Sum.mono .. | exact spec_l04Right.mono .. | exact LeO.refl _ | exact LeO.none _ | refine LeO.ite ?_ ?_ | refine LeO.bind ?_ (fun _ => ?_)
theorem spec_FileBytes.calls (k : Nat) (A0_0 : Option Addr) (c0_0 : Nat) (l0_0 : List (S35)) (r : ByteArray) (w : World) (hr0_0 : Kd.C k35 w A0_0 l0_0.length l0_0) (hc0_0 : l0_0.length ≤ c0_0) (h : spec_FileBytes.f k l0_0 = some r) :
  Calls Try.prog 15 #[.agg #[.slice A0_0 l0_0.length c0_0]] w fun e w' => e = .returned (.string r) ∧ Below w.heap.size w w' := by
 have hu25 := Try.underlying25
 have hu35 := Try.underlying35
 have HR0_0 := am hr0_0
 have HC0_0 := am hc0_0
 clear hr0_0 hc0_0
 have HB := am (Below.refl w.heap.size w)
 have H : ((spec_l04Right.f k l0_0).bind fun t198 => (if t198 = true then ((some (([74, 49] : List Int) : List Int)).bind fun y199 => ((spec_PutNum.f k (l0_0.length : Int)).bind fun t202 => (if y199.length + t202.size < 140737488355328 then (spec_FileBytes.l0 k (y199 ++ bytesOf t202) 0 l0_0) else (none)))) else (some (⟨#[]⟩ : ByteArray)))) = some r := h
 clear h
 refine be H ?_; clear H; intro t198 A2 H
 have HC3 := am H
 clear H
 go_enter Try.func15, Try.ntmps15
 go_upto_if 10 with (first | ((with_reducible refine gd 1 rfl ?_); refine bX 1 #[.slice A0_0 l0_0.length c0_0] 25 HB ?_; clear HB; intro gb197 w4 hg hb BK197 GW197 HB; clear hb hg; have hcz5 := bK w4 BK197; have hfz5 := bF BK197) | ((with_reducible refine gk 41 rfl ?_); refine gB 41 (some 9) Try.func41 #[.agg #[.slice A0_0 l0_0.length c0_0]] (spec_l04Right.calls k _ _ l0_0 t198 _ (cc (Kd.C_below HR0_0.out HB.out)) HC0_0.out A2.out) ?_; intro w6 hb; replace BK197 := bb BK197 hb; replace HB := bs HB hb; clear hb))
 (try simp only [Act.put, sa, sz, ss])
 have H := HC3.out
 clear HC3
 refine qT H ?_ ?_ <;> clear H <;> intro c7 H <;> subst c7
 ·obtain ⟨y199, hy199⟩ : ∃ y_ : List Int, y_ = (([74, 49] : List Int)) := ⟨_, rfl⟩
  replace H : ((spec_PutNum.f k (l0_0.length : Int)).bind fun t202 => (if y199.length + t202.size < 140737488355328 then (spec_FileBytes.l0 k (y199 ++ bytesOf t202) 0 l0_0) else (none))) = some r := by first | (rw [hy199]; with_reducible exact H) | (have H2_ := (Option.bind_some _ _).symm.trans H; rw [hy199]; with_reducible exact H2_) | (have H2_ := (Option.bind_some _ _).symm.trans H; with_reducible exact H2_) | with_reducible exact H | (rw [hy199]; exact H) | exact H
  have Ny199 := am hy199
  clear hy199
  refine be H ?_; clear H; intro t202 A8 H
  refine iN H ?_; clear H; intro c9 H
  have LMc9 := am c9
  clear c9
  obtain ⟨y203, hy203⟩ : ∃ y_ : List Int, y_ = (y199 ++ bytesOf t202) := ⟨_, rfl⟩
  replace H : (spec_FileBytes.l0 k y203 0 l0_0) = some r := by first | (rw [hy203]; with_reducible exact H) | (have H2_ := (Option.bind_some _ _).symm.trans H; rw [hy203]; with_reducible exact H2_) | (have H2_ := (Option.bind_some _ _).symm.trans H; with_reducible exact H2_) | with_reducible exact H | (rw [hy203]; exact H) | exact H
  have Ny203 := am hy203
  clear hy203
  have H' := am H
  clear H
  go_wp2_with (first | ((with_reducible refine gate_dst (N := 11) rfl ?_); refine Kd.R_lit (Kd.int .u8) _ 5 ?hg (N := 11) ?hd (xs := ([74, 49] : List Int)) (inner := [.int .u8 74, .int .u8 49]) (ok := fun _ => True) (okp := fun _ => True) ?hr ?hp (fun _ hk => hk) trivial (Below.refl _ _) (Nat.le_refl _) (by simp) ?_; (case hd => rfl); (case hg => rfl); (case hr => exact gs); (case hp => exact (Reps.one (show Kd.M (Kd.int .u8) _ _ _ 74 [.int .u8 74] from rfl) (Reps.one (show Kd.M (Kd.int .u8) _ _ _ 49 [.int .u8 49] from rfl) (Reps.none _ _)))); intro v200 w10 ho11 hb hg_ hnew_; clear hg_ hnew_; (first | rw [← Ny199.out] at ho11 | (simp only [Int.reduceToNat] at ho11; rw [← Ny199.out] at ho11)); have HO201 := am (Kd.R_lower ho11 (below_size (bw HB))); replace BK197 := bb BK197 hb; replace HB := bs HB hb; clear hb ho11; have hcz12 := bK w10 BK197; have hfz12 := bF BK197) | ((with_reducible refine gate_callee (f := 42) rfl ?_); refine goesL_ (some 16) rfl rfl Try.func42 (by kernel_rfl) rfl #[.int .i64 (l0_0.length : Int)] rfl gl ?_; (with_reducible refine (spec_PutNum.calls k (l0_0.length : Int) t202 _ A8.out).mono ?_); rintro e w13 ⟨rfl, hb⟩; refine ⟨_, rfl, ?_⟩; replace HO201 := am (Kd.R_below (kR HO201) hb); replace BK197 := bb BK197 hb; replace HB := bs HB hb; clear hb) | (at_builtin; refine print_append_str (w0 := w) w.heap.size rfl (.tmp 12) _ 22 9 5 rfl Try.underlying22 Try.underlying9 info5 v200 y199 t202 rfl rfl ?aO ?aB ?aS ?aL ?_; (case aB => exact (bw HB)); (case aO => exact (Kd.own_of_R (kR HO201))); (case aS => exact (below_size (bw HB))); (case aL => have := LMc9.out; omega); intro v204 w14 ho0 hb hg; have ho := Kd.R_of_own (h1 := fun _ => rfl) (ok := fun _ => True) ho0 (fun _ _ => trivial); clear ho0; have hat := True.intro; rw [← Ny203.out] at ho; change Kd.R (Kd.int .u8) 5 w14 w.heap.size (fun _ => True) v204 y203 at ho; replace BK197 := bg BK197 hg (Kd.R_ne HO201.out BK197.out (by decide)); replace HB := am (hb); have HO205 := am (ho); clear HO201; clear ho hb hg hat))
  go_loopg [3, 4] k (fun kq v3 v4 w' => ∃ (x3_1 : List Int) (x4_1 : Int), v4 = .int .i64 x4_1 ∧ Aside0 (spec_FileBytes.l0 kq x3_1 x4_1 l0_0 = some r) ∧ Aside0 (kq ≤ k) ∧ Aside0 (Kd.R (Kd.int .u8) 5 w' w.heap.size (fun _ => True) v3 x3_1) ∧ Aside0 (w'.heap[gb197]? = some (.cells #[(.slice A0_0 l0_0.length c0_0)] 25 (0, 0))) ∧ Aside0 (Below w.heap.size w w'))
  case atStart => exact ⟨(y203), (0), dr, H', ⟨Nat.le_refl _⟩, ⟨kR HO205⟩, ⟨bp BK197⟩, ⟨bw HB⟩⟩
  clear H'
  (try clear c1); (try clear p2); (try clear c4); (try clear c7); (try clear c9); (try clear hcz12); (try clear hcz5); (try clear hfz12); (try clear hfz5)
  obtain ⟨x3_1, x4_1, rfl, HA, HK1, HO_3, BK197, HB⟩ := hrel
  rcases gk with _ | k1
  ·exact absurd HA.out (by simp [spec_FileBytes.l0])
  have H := HA.out
  clear HA
  simp only [spec_FileBytes.l0] at H
  by_cases c15 : x4_1 < (l0_0.length : Int)
  ·rw [if_pos c15] at H
   have c15b0 := decide_eq_true c15
   clear c15
   (first | rw [c15b0] | (simp only [i64_w, i32_w]; rw [c15b0]) | skip)
   refine iN H ?_; clear H; intro c16 H
   have c16b0 := decide_eq_true c16
   clear c16
   refine be H ?_; clear H; intro t208 A17 H
   refine iN H ?_; clear H; intro c18 H
   have LMc18 := am c18
   clear c18
   obtain ⟨y209, hy209⟩ : ∃ y_ : List Int, y_ = (x3_1 ++ bytesOf t208) := ⟨_, rfl⟩
   replace H : ((spec_PutNum.f k1 ((rd_T35 l0_0 x4_1).f1)).bind fun t212 => (if y209.length + t212.size < 140737488355328 then ((some (y209 ++ bytesOf t212 : List Int)).bind fun y213 => ((spec_PutNum.f k1 (((rd_T35 l0_0 x4_1).f2).length : Int)).bind fun t216 => (if y213.length + t216.size < 140737488355328 then (spec_FileBytes.l1 k1 (y213 ++ bytesOf t216) x4_1 0 l0_0 ((rd_T35 l0_0 x4_1).f0) ((rd_T35 l0_0 x4_1).f1) ((rd_T35 l0_0 x4_1).f2)) else (none)))) else (none))) = some r := by first | (rw [hy209]; with_reducible exact H) | (have H2_ := (Option.bind_some _ _).symm.trans H; rw [hy209]; with_reducible exact H2_) | (have H2_ := (Option.bind_some _ _).symm.trans H; with_reducible exact H2_) | with_reducible exact H | (rw [hy209]; exact H) | exact H
   have Ny209 := am hy209
   clear hy209
   refine be H ?_; clear H; intro t212 A19 H
   refine iN H ?_; clear H; intro c20 H
   have LMc20 := am c20
   clear c20
   obtain ⟨y213, hy213⟩ : ∃ y_ : List Int, y_ = (y209 ++ bytesOf t212) := ⟨_, rfl⟩
   replace H : ((spec_PutNum.f k1 (((rd_T35 l0_0 x4_1).f2).length : Int)).bind fun t216 => (if y213.length + t216.size < 140737488355328 then (spec_FileBytes.l1 k1 (y213 ++ bytesOf t216) x4_1 0 l0_0 ((rd_T35 l0_0 x4_1).f0) ((rd_T35 l0_0 x4_1).f1) ((rd_T35 l0_0 x4_1).f2)) else (none))) = some r := by first | (rw [hy213]; with_reducible exact H) | (have H2_ := (Option.bind_some _ _).symm.trans H; rw [hy213]; with_reducible exact H2_) | (have H2_ := (Option.bind_some _ _).symm.trans H; with_reducible exact H2_) | with_reducible exact H | (rw [hy213]; exact H) | exact H
   have Ny213 := am hy213
   clear hy213
   refine be H ?_; clear H; intro t216 A21 H
   refine iN H ?_; clear H; intro c22 H
   have LMc22 := am c22
   clear c22
   obtain ⟨y217, hy217⟩ : ∃ y_ : List Int, y_ = (y213 ++ bytesOf t216) := ⟨_, rfl⟩
   replace H : (spec_FileBytes.l1 k1 y217 x4_1 0 l0_0 ((rd_T35 l0_0 x4_1).f0) ((rd_T35 l0_0 x4_1).f1) ((rd_T35 l0_0 x4_1).f2)) = some r := by first | (rw [hy217]; with_reducible exact H) | (have H2_ := (Option.bind_some _ _).symm.trans H; rw [hy217]; with_reducible exact H2_) | (have H2_ := (Option.bind_some _ _).symm.trans H; with_reducible exact H2_) | with_reducible exact H | (rw [hy217]; exact H) | exact H
   have Ny217 := am hy217
   clear hy217
   have H' := am H
   clear H
   have hcz23 := bK wr BK197
   have hfz23 := bF BK197
   have p206 : 0 ≤ (x4_1 : Int) := of_decide_eq_true as1
   have q206 : x4_1 < (l0_0.length : Int) := of_decide_eq_true as1
   obtain ⟨ad206, A206_2, c206_2, e206, hx206_0, hx206_1, hx206_2, hl206_2, hi206_2⟩ := at_T35 HR0_0.out x4_1 p206 q206
   cases e206
   replace hx206_0 := cl HB hx206_0
   replace hx206_1 := cl HB hx206_1
   replace hx206_2 := cl HB hx206_2
   have HR206_2 := am hi206_2
   have HC206_2 := am hl206_2
   clear hi206_2 hl206_2
   replace p206 := eq_true p206
   replace q206 := eq_true q206
   go_wp2_with (first | ((with_reducible refine gd 5 rfl ?_); refine bX 5 #[.int .i64 0, .int .i64 0, .slice none 0 0] 35 HB ?_; clear HB; intro gb207 w24 hg hb BK207 GW207 HB; replace HO_3 := am (Kd.R_below (kR HO_3) hb); obtain ⟨NB197_207, NB207_197, BK197⟩ := b3 hg BK197 hb; clear hb hg; have hnb25 := NB207_197.out; have hnc25 := NB197_207.out; have hcz26 := bK w24 BK207; have hfz26 := bF BK207) | ((with_reducible refine gate_callee (f := 42) rfl ?_); refine goesL_ (some 33) rfl rfl Try.func42 (by kernel_rfl) rfl #[.int .i64 ((rd_T35 l0_0 x4_1).f0)] rfl gl ?_; (with_reducible refine (spec_PutNum.calls k1 ((rd_T35 l0_0 x4_1).f0) t208 _ A17.out).mono ?_); rintro e w27 ⟨rfl, hb⟩; refine ⟨_, rfl, ?_⟩; replace HO_3 := am (Kd.R_below (by (with_reducible repeat (first | apply Kd.R_alloc | apply Kd.R_drewN | apply Kd.R_drew)); exact (Kd.R_mono (Kd.R_far (p := ⟨gb207, 2, none⟩) (Kd.R_far (p := ⟨gb207, 1, none⟩) (Kd.R_far (p := ⟨gb207, 0, none⟩) (Kd.R_types HO_3.out BK207.out (by decide)) (fun _ hk => hk.2) (.int .i64 ((rd_T35 l0_0 x4_1).f0))) (fun _ hk => hk.2) (.int .i64 ((rd_T35 l0_0 x4_1).f1))) (fun _ hk => hk.2) (.slice A206_2 ((rd_T35 l0_0 x4_1).f2).length c206_2)) (fun _ h_ => h_.1))) hb); replace BK197 := bb2 BK197 hb; replace BK207 := bo #[.int .i64 ((rd_T35 l0_0 x4_1).f0), .int .i64 ((rd_T35 l0_0 x4_1).f1), .slice A206_2 ((rd_T35 l0_0 x4_1).f2).length c206_2] BK207 hb; replace HB := bs HB hb; clear hb) | (at_builtin; refine print_append_str (w0 := w) w.heap.size rfl (.tmp 30) _ 22 9 5 rfl Try.underlying22 Try.underlying9 info5 u3 x3_1 t208 rfl rfl ?aO ?aB ?aS ?aL ?_; (case aB => exact (bw HB)); (case aO => exact (Kd.own_of_R (kR HO_3))); (case aS => exact (below_size (bw HB))); (case aL => have := LMc18.out; omega); intro v210 w28 ho0 hb hg; have ho := Kd.R_of_own (h1 := fun _ => rfl) (ok := fun _ => True) ho0 (fun _ _ => trivial); clear ho0; have hat := True.intro; rw [← Ny209.out] at ho; change Kd.R (Kd.int .u8) 5 w28 w.heap.size (fun _ => True) v210 y209 at ho; replace BK197 := bg BK197 hg (Kd.R_ne HO_3.out BK197.out (by decide)); replace BK207 := bg BK207 hg (Kd.R_ne HO_3.out BK207.out (by decide)); replace HB := am (hb); have HO211 := am (ho); clear HO_3; clear ho hb hg hat; have hcz29 := bK w28 BK207; have hfz29 := bF BK207) | ((with_reducible refine gate_callee (f := 42) rfl ?_); refine goesL_ (some 38) rfl rfl Try.func42 (by kernel_rfl) rfl #[.int .i64 ((rd_T35 l0_0 x4_1).f1)] rfl gl ?_; (with_reducible refine (spec_PutNum.calls k1 ((rd_T35 l0_0 x4_1).f1) t212 _ A19.out).mono ?_); rintro e w30 ⟨rfl, hb⟩; refine ⟨_, rfl, ?_⟩; replace HO211 := am (Kd.R_below (kR HO211) hb); replace BK197 := bb BK197 hb; replace BK207 := bb BK207 hb; replace HB := bs HB hb; clear hb) | (at_builtin; refine print_append_str (w0 := w) w.heap.size rfl (.tmp 35) _ 22 9 5 rfl Try.underlying22 Try.underlying9 info5 v210 y209 t212 rfl rfl ?aO ?aB ?aS ?aL ?_; (case aB => exact (bw HB)); (case aO => exact (Kd.own_of_R (kR HO211))); (case aS => exact (below_size (bw HB))); (case aL => have := LMc20.out; omega); intro v214 w31 ho0 hb hg; have ho := Kd.R_of_own (h1 := fun _ => rfl) (ok := fun _ => True) ho0 (fun _ _ => trivial); clear ho0; have hat := True.intro; rw [← Ny213.out] at ho; change Kd.R (Kd.int .u8) 5 w31 w.heap.size (fun _ => True) v214 y213 at ho; replace BK197 := bg BK197 hg (Kd.R_ne HO211.out BK197.out (by decide)); replace BK207 := bg BK207 hg (Kd.R_ne HO211.out BK207.out (by decide)); replace HB := am (hb); have HO215 := am (ho); clear HO211; clear ho hb hg hat; have hcz32 := bK w31 BK207; have hfz32 := bF BK207) | ((with_reducible refine gate_callee (f := 42) rfl ?_); refine goesL_ (some 44) rfl rfl Try.func42 (by kernel_rfl) rfl #[.int .i64 (((rd_T35 l0_0 x4_1).f2).length : Int)] rfl gl ?_; (with_reducible refine (spec_PutNum.calls k1 (((rd_T35 l0_0 x4_1).f2).length : Int) t216 _ A21.out).mono ?_); rintro e w33 ⟨rfl, hb⟩; refine ⟨_, rfl, ?_⟩; replace HO215 := am (Kd.R_below (kR HO215) hb); replace BK197 := bb BK197 hb; replace BK207 := bb BK207 hb; replace HB := bs HB hb; clear hb) | (at_builtin; refine print_append_str (w0 := w) w.heap.size rfl (.tmp 40) _ 22 9 5 rfl Try.underlying22 Try.underlying9 info5 v214 y213 t216 rfl rfl ?aO ?aB ?aS ?aL ?_; (case aB => exact (bw HB)); (case aO => exact (Kd.own_of_R (kR HO215))); (case aS => exact (below_size (bw HB))); (case aL => have := LMc22.out; omega); intro v218 w34 ho0 hb hg; have ho := Kd.R_of_own (h1 := fun _ => rfl) (ok := fun _ => True) ho0 (fun _ _ => trivial); clear ho0; have hat := True.intro; rw [← Ny217.out] at ho; change Kd.R (Kd.int .u8) 5 w34 w.heap.size (fun _ => True) v218 y217 at ho; replace BK197 := bg BK197 hg (Kd.R_ne HO215.out BK197.out (by decide)); replace BK207 := bg BK207 hg (Kd.R_ne HO215.out BK207.out (by decide)); replace HB := am (hb); have HO219 := am (ho); clear HO215; clear ho hb hg hat))
   go_loopg [3, 6] k1 (fun kq v3 v6 w' => ∃ (x3_2 : List Int) (x6_2 : Int), v6 = .int .i64 x6_2 ∧ Aside0 (spec_FileBytes.l1 kq x3_2 x4_1 x6_2 l0_0 ((rd_T35 l0_0 x4_1).f0) ((rd_T35 l0_0 x4_1).f1) ((rd_T35 l0_0 x4_1).f2) = some r) ∧ Aside0 (kq ≤ k1) ∧ Aside0 (Kd.R (Kd.int .u8) 5 w' w.heap.size (fun _ => True) v3 x3_2) ∧ Aside0 (w'.heap[gb197]? = some (.cells #[(.slice (some ad206) l0_0.length c0_0)] 25 (0, 0))) ∧ Aside0 (w'.heap[gb207]? = some (.cells #[.int .i64 ((rd_T35 l0_0 x4_1).f0), .int .i64 ((rd_T35 l0_0 x4_1).f1), (.slice A206_2 ((rd_T35 l0_0 x4_1).f2).length c206_2)] 35 (0, 0))) ∧ Aside0 (Below w.heap.size w w'))
   case atStart => exact ⟨(y217), (0), dr, H', ⟨Nat.le_refl _⟩, ⟨kR HO219⟩, ⟨bp BK197⟩, ⟨bp BK207⟩, ⟨bw HB⟩⟩
   clear H'
   (try clear c2); (try clear q2); (try clear hx2); (try clear c15); (try clear c15b0); (try clear c16); (try clear c16b0); (try clear c18); (try clear c20); (try clear p20); (try clear q20); (try clear hx20); (try clear c22); (try clear c25); (try clear hcz23); (try clear hcz26); (try clear hcz29); (try clear hcz32); (try clear hfz23); (try clear hfz26); (try clear hfz29); (try clear hfz32); (try clear hx206_0); (try clear hx206_1); (try clear hx206_2); (try clear p206); (try clear q206)
   obtain ⟨x3_2, x6_2, rfl, HA, HK2, HO_3, BK197, BK207, HB⟩ := hrel
   rcases gk with _ | k2
   ·exact absurd HA.out (by simp [spec_FileBytes.l1])
   have H := HA.out
   clear HA
   simp only [spec_FileBytes.l1] at H
   refine qI H ?_ ?_ <;> clear H <;> intro c35b0 H
   ·refine iM H ?_; clear H; intro c36b0 H
    refine be H ?_; clear H; intro t221 A37 H
    refine iN H ?_; clear H; intro c38 H
    have LMc38 := am c38
    clear c38
    obtain ⟨y222, hy222⟩ : ∃ y_ : List Int, y_ = (x3_2 ++ bytesOf t221) := ⟨_, rfl⟩
    replace H : ((spec_PutNum.f k2 ((rd_T38 ((rd_T35 l0_0 x4_1).f2) x6_2).f1)).bind fun t226 => (if y222.length + t226.size < 140737488355328 then (spec_FileBytes.l1 k2 (y222 ++ bytesOf t226) x4_1 (wrap64 (x6_2 + 1)) l0_0 ((rd_T35 l0_0 x4_1).f0) ((rd_T35 l0_0 x4_1).f1) ((rd_T35 l0_0 x4_1).f2)) else (none))) = some r := by first | (rw [hy222]; with_reducible exact H) | (have H2_ := (Option.bind_some _ _).symm.trans H; rw [hy222]; with_reducible exact H2_) | (have H2_ := (Option.bind_some _ _).symm.trans H; with_reducible exact H2_) | with_reducible exact H | (rw [hy222]; exact H) | exact H
    have Ny222 := am hy222
    clear hy222
    refine be H ?_; clear H; intro t226 A39 H
    refine iN H ?_; clear H; intro c40 H
    have LMc40 := am c40
    clear c40
    obtain ⟨y227, hy227⟩ : ∃ y_ : List Int, y_ = (y222 ++ bytesOf t226) := ⟨_, rfl⟩
    replace H : (spec_FileBytes.l1 k2 y227 x4_1 (wrap64 (x6_2 + 1)) l0_0 ((rd_T35 l0_0 x4_1).f0) ((rd_T35 l0_0 x4_1).f1) ((rd_T35 l0_0 x4_1).f2)) = some r := by first | (rw [hy227]; with_reducible exact H) | (have H2_ := (Option.bind_some _ _).symm.trans H; rw [hy227]; with_reducible exact H2_) | (have H2_ := (Option.bind_some _ _).symm.trans H; with_reducible exact H2_) | with_reducible exact H | (rw [hy227]; exact H) | exact H
    have Ny227 := am hy227
    clear hy227
    have H' := am H
    clear H
    have hnb41 := NB207_197.out
    have hnc41 := NB197_207.out
    have hcz42 := bK wr BK207
    have hfz42 := bF BK207
    have p220 : 0 ≤ (x6_2 : Int) := of_decide_eq_true as1
    have q220 : x6_2 < (((rd_T35 l0_0 x4_1).f2).length : Int) := of_decide_eq_true as1
    obtain ⟨ad220, e220, hx220_0, hx220_1⟩ := at_T38 HR206_2.out x6_2 p220 q220
    cases e220
    replace hx220_0 := cl HB hx220_0
    replace hx220_1 := cl HB hx220_1
    replace p220 := eq_true p220
    replace q220 := eq_true q220
    go_wp2_with (first | ((with_reducible refine gate_callee (f := 42) rfl ?_); refine goesL_ (some 60) rfl rfl Try.func42 (by kernel_rfl) rfl #[.int .i64 ((rd_T38 ((rd_T35 l0_0 x4_1).f2) x6_2).f0)] rfl gl ?_; (with_reducible refine (spec_PutNum.calls k2 ((rd_T38 ((rd_T35 l0_0 x4_1).f2) x6_2).f0) t221 _ A37.out).mono ?_); rintro e w43 ⟨rfl, hb⟩; refine ⟨_, rfl, ?_⟩; replace HO_3 := am (Kd.R_below (kR HO_3) hb); replace BK197 := bb BK197 hb; replace BK207 := bb BK207 hb; replace HB := bs HB hb; clear hb) | (at_builtin; refine print_append_str (w0 := w) w.heap.size rfl (.tmp 53) _ 22 9 5 rfl Try.underlying22 Try.underlying9 info5 u3 x3_2 t221 rfl rfl ?aO ?aB ?aS ?aL ?_; (case aB => exact (bw HB)); (case aO => exact (Kd.own_of_R (kR HO_3))); (case aS => exact (below_size (bw HB))); (case aL => have := LMc38.out; omega); intro v223 w44 ho0 hb hg; have ho := Kd.R_of_own (h1 := fun _ => rfl) (ok := fun _ => True) ho0 (fun _ _ => trivial); clear ho0; have hat := True.intro; rw [← Ny222.out] at ho; change Kd.R (Kd.int .u8) 5 w44 w.heap.size (fun _ => True) v223 y222 at ho; replace BK197 := bg BK197 hg (Kd.R_ne HO_3.out BK197.out (by decide)); replace BK207 := bg BK207 hg (Kd.R_ne HO_3.out BK207.out (by decide)); replace HB := am (hb); have HO224 := am (ho); clear HO_3; clear ho hb hg hat; have hcz45 := bK w44 BK207; have hfz45 := bF BK207; have p225 : 0 ≤ (x6_2 : Int) := of_decide_eq_true as1; have q225 : x6_2 < (((rd_T35 l0_0 x4_1).f2).length : Int) := of_decide_eq_true as1; obtain ⟨ad225, e225, hx225_0, hx225_1⟩ := at_T38 HR206_2.out x6_2 p225 q225; obtain rfl : ad220 = ad225 := (by injection e225); replace hx225_0 := cl HB hx225_0; replace hx225_1 := cl HB hx225_1; replace p225 := eq_true p225; replace q225 := eq_true q225) | ((with_reducible refine gate_callee (f := 42) rfl ?_); refine goesL_ (some 69) rfl rfl Try.func42 (by kernel_rfl) rfl #[.int .i64 ((rd_T38 ((rd_T35 l0_0 x4_1).f2) x6_2).f1)] rfl gl ?_; (with_reducible refine (spec_PutNum.calls k2 ((rd_T38 ((rd_T35 l0_0 x4_1).f2) x6_2).f1) t226 _ A39.out).mono ?_); rintro e w46 ⟨rfl, hb⟩; refine ⟨_, rfl, ?_⟩; replace HO224 := am (Kd.R_below (kR HO224) hb); replace BK197 := bb BK197 hb; replace BK207 := bb BK207 hb; replace HB := bs HB hb; clear hb) | (at_builtin; refine print_append_str (w0 := w) w.heap.size rfl (.tmp 62) _ 22 9 5 rfl Try.underlying22 Try.underlying9 info5 v223 y222 t226 rfl rfl ?aO ?aB ?aS ?aL ?_; (case aB => exact (bw HB)); (case aO => exact (Kd.own_of_R (kR HO224))); (case aS => exact (below_size (bw HB))); (case aL => have := LMc40.out; omega); intro v228 w47 ho0 hb hg; have ho := Kd.R_of_own (h1 := fun _ => rfl) (ok := fun _ => True) ho0 (fun _ _ => trivial); clear ho0; have hat := True.intro; rw [← Ny227.out] at ho; change Kd.R (Kd.int .u8) 5 w47 w.heap.size (fun _ => True) v228 y227 at ho; replace BK197 := bg BK197 hg (Kd.R_ne HO224.out BK197.out (by decide)); replace BK207 := bg BK207 hg (Kd.R_ne HO224.out BK207.out (by decide)); replace HB := am (hb); have HO229 := am (ho); clear HO224; clear ho hb hg hat))
    go_roundg k2
    case measure => have := HK1.out; have := HK2.out; omega
    case rel => exact ⟨(y227), (wrap64 (x6_2 + 1)), dr, H', ⟨by have := HK1.out; have := HK2.out; omega⟩, ⟨kR HO229⟩, ⟨bp BK197⟩, ⟨bp BK207⟩, ⟨bw HB⟩⟩
   have H' := am H
   clear H
   have hnb48 := NB207_197.out
   have hnc48 := NB197_207.out
   have hcz49 := bK wr BK207
   have hfz49 := bF BK207
   go_wp2
   go_roundg k2
   case measure => have := HK1.out; have := HK2.out; omega
   case rel => exact ⟨(x3_2), (wrap64 (x4_1 + 1)), dr, H', ⟨by have := HK1.out; have := HK2.out; omega⟩, ⟨kR HO_3⟩, ⟨bp BK197⟩, ⟨bw HB⟩⟩
  rw [if_neg c15] at H
  have c15b0 := decide_eq_false c15
  clear c15
  (first | rw [c15b0] | (simp only [i64_w, i32_w]; rw [c15b0]) | skip)
  refine be H ?_; clear H; intro t230 A50 H
  refine be H ?_; clear H; intro t231 A51 H
  refine iN H ?_; clear H; intro c52 H
  have c52b0 := eq_true c52
  have c52b1 := decide_eq_true c52
  try have c52b2 : (9223372036854775807 < (strOfNums x3_1).size + t231.size) = False := eq_false (Nat.not_lt.2 c52)
  obtain rfl := Option.some.inj H
  have hcz53 := bK wr BK197
  have hfz53 := bF BK197
  have hcv54 := own_string (P := Try.prog) Try.underlying22 Try.underlying5 Try.underlying9 (Kd.own_of_R HO_3.out)
  go_wp2_with (first | ((with_reducible refine gate_callee (f := 43) rfl ?_); refine goesL_ (some 75) rfl rfl Try.func43 (by kernel_rfl) rfl #[.string (strOfNums x3_1)] rfl gl ?_; (with_reducible refine (spec_Sum.calls k1 (strOfNums x3_1) t230 _ A50.out).mono ?_); rintro e w' ⟨rfl, ⟨nd, rfl⟩⟩; refine ⟨_, rfl, ?_⟩; (try clear HO_3)) | ((with_reducible refine gate_callee (f := 42) rfl ?_); refine goesL_ (some 76) rfl rfl Try.func42 (by kernel_rfl) rfl #[.int .i64 t230] rfl gl ?_; (with_reducible refine (spec_PutNum.calls k1 t230 t231 _ A51.out).mono ?_); rintro e w55 ⟨rfl, hb⟩; refine ⟨_, rfl, ?_⟩; replace BK197 := bb BK197 hb; replace HB := bs HB hb; clear hb))
  go_ret
  exact ⟨er, bw HB⟩
 obtain rfl := Option.some.inj H
 go_wp2
 go_ret
 exact ⟨er, bw HB⟩

end Go.Proofs.Ytopaefhfjioecaa.QFnFileCut
