import Derived.Test.YtbmjmaahcaoajaaCFnExactFileBytesx0
import Derived.Test.YtbmjmaahcaoajaaCFnExactFileBytesx7
namespace Go.Proofs.Ytbmjmaahcaoajaa.QFnExactFileBytes
open Go.RowKit Go.Proofs.YtbmjmaahcaoajaaW
open PrintWords PrintLast PrintMore PrintShort
attribute [local go_sem] max2_int min2_int max_two min_two max_three min_three max_four min_four   -- for this text's walks alone
set_option linter.unusedVariables false
set_option maxHeartbeats 8000000
set_option maxRecDepth 100000
set_option linter.unusedSimpArgs false

def spec_l01Fold.f (a0 : Int) : Option (Int) := if a0 < 0 then (some (IntKind.u64.wrap ((IntKind.u64.wrap (2 * (IntKind.u64.wrap (wrap64 (-(wrap64 (a0 + 1))))))) + 1))) else (some (IntKind.u64.wrap (2 * (IntKind.u64.wrap (a0)))))
theorem spec_l01Fold.calls (a0 : Int) (r : Int) (w : World) (h : spec_l01Fold.f a0 = some r) :
  Calls Try.prog 125 #[.int .i64 a0] w fun e w' => e = .returned (.int .u64 r) ∧ Drawn0 w w' := by
 have H : (if a0 < 0 then (some (IntKind.u64.wrap ((IntKind.u64.wrap (2 * (IntKind.u64.wrap (wrap64 (-(wrap64 (a0 + 1))))))) + 1))) else (some (IntKind.u64.wrap (2 * (IntKind.u64.wrap (a0)))))) = some r := h
 clear h
 by_cases c2 : a0 < 0
 ·rw [if_pos c2] at H
  have c2b0 := decide_eq_true c2
  clear c2
  obtain rfl := Option.some.inj H
  go_enter Try.func125, Try.ntmps125
  go_wp2
  go_ret
  exact ⟨by first | rfl | (simp; done) | (simp [*]; done), by repeat (first | exact Drawn0.refl _ | apply Drawn0.step)⟩
 ·rw [if_neg c2] at H
  have c2b0 := decide_eq_false c2
  clear c2
  obtain rfl := Option.some.inj H
  go_enter Try.func125, Try.ntmps125
  go_wp2
  go_ret
  exact ⟨by first | rfl | (simp; done) | (simp [*]; done), by repeat (first | exact Drawn0.refl _ | apply Drawn0.step)⟩

def spec_PutNum.l0 : Nat → Int → List Int → Option (ByteArray)
 | 0, _, _ => none
 | k + 1, x3, x4 => if x3 ≥ 128 then (if x4.length < 140737488355328 then (spec_PutNum.l0 k (IntKind.u64.wrap (Int.tdiv x3 128)) (x4 ++ [(IntKind.u64.wrap ((Int.tmod x3 128) + 128)) % 256])) else (none)) else (if x4.length < 140737488355328 then (some (strOfNums (x4 ++ [(x3) % 256]))) else (none))
def spec_PutNum.f (k : Nat) (a0 : Int) : Option (ByteArray) := (spec_l01Fold.f a0).bind fun t239 => (spec_PutNum.l0 k t239 (([] : List Int)))
theorem spec_PutNum.mono_l : ∀ k, (∀ y0 y1, LeO (spec_PutNum.l0 k y0 y1) (spec_PutNum.l0 (k + 1) y0 y1))
 | 0 => fun _ _ r h => by simp [spec_PutNum.l0] at h
 | k + 1 => by
  have ih0 := spec_PutNum.mono_l k
  ·intro y0 y1
   unfold spec_PutNum.l0
   repeat' first
   | (with_reducible exact ih0 _ _)
   | (with_reducible exact LeO.refl _)
   | (with_reducible exact LeO.none _)
   | (with_reducible refine LeO.ite ?_ ?_)
   | (with_reducible refine LeO.bind ?_ (fun _ => ?_))
theorem spec_PutNum.mono : ∀ a0 k, LeO (spec_PutNum.f k a0) (spec_PutNum.f (k + 1) a0) := by
 intro a0 k
 have ih0 := spec_PutNum.mono_l k
 unfold spec_PutNum.f
 repeat' first
   | (with_reducible exact ih0 _ _)
   | (with_reducible exact LeO.refl _)
   | (with_reducible exact LeO.none _)
   | (with_reducible refine LeO.ite ?_ ?_)
   | (with_reducible refine LeO.bind ?_ (fun _ => ?_))
theorem spec_PutNum.calls (k : Nat) (a0 : Int) (r : ByteArray) (w : World) (h : spec_PutNum.f k a0 = some r) :
  Calls Try.prog 64 #[.int .i64 a0] w fun e w' => e = .returned (.string r) ∧ Below w.heap.size w w' := by
 have HB := am (Below.refl w.heap.size w)
 have H : ((spec_l01Fold.f a0).bind fun t239 => (spec_PutNum.l0 k t239 (([] : List Int)))) = some r := h
 clear h
 replace H := Option.bind_eq_some_iff.mp H
 obtain ⟨t239, A20, H⟩ := H
 replace H : (spec_PutNum.l0 k t239 (([] : List Int))) = some r := H
 have A2 := am A20
 clear A20
 obtain ⟨y240, hy240⟩ : ∃ y_ : List Int, y_ = (([] : List Int)) := ⟨_, rfl⟩
 replace H : (spec_PutNum.l0 k t239 y240) = some r := by first | (rw [hy240]; with_reducible exact H) | (have H2_ := (Option.bind_some _ _).symm.trans H; rw [hy240]; with_reducible exact H2_) | (have H2_ := (Option.bind_some _ _).symm.trans H; with_reducible exact H2_) | with_reducible exact H | (rw [hy240]; exact H) | exact H
 have Ny240 := am hy240
 clear hy240
 have H' := am H
 clear H
 go_enter Try.func64, Try.ntmps64
 go_wp2_with (first | ((with_reducible refine gate_callee (f := 125) rfl ?_); refine goesL_ (some 6) rfl rfl Try.func125 (by kernel_rfl) rfl #[.int .i64 a0] rfl gl ?_; (with_reducible refine (spec_l01Fold.calls a0 t239 _ A2.out).mono ?_); rintro e w' ⟨rfl, ⟨nd, rfl⟩⟩; refine ⟨_, rfl, ?_⟩) | ((with_reducible refine gate_dst (N := 7) rfl ?_); refine Kd.R_lit (Kd.int .u8) _ 5 ?hg (N := 7) ?hd (xs := ([] : List Int)) (inner := []) (ok := fun _ => True) (okp := fun _ => True) ?hr ?hp (fun _ hk => hk) trivial (Below.refl _ _) (Nat.le_refl _) (by simp) ?_; (case hd => rfl); (case hg => rfl); (case hr => exact gs); (case hp => exact (Reps.none _ _)); intro v241 w3 ho4 hb hg_ hnew_; clear hg_ hnew_; (first | rw [← Ny240.out] at ho4 | (simp only [Int.reduceToNat] at ho4; rw [← Ny240.out] at ho4)); have HO242 := am (Kd.R_lower ho4 (below_size (bw HB))); replace HB := am (below_step (bw HB) hb); clear hb ho4))
 go_loopg [3, 4] k (fun kq v3 v4 w' => ∃ (x3_1 : Int) (x4_1 : List Int), v3 = .int .u64 x3_1 ∧ Aside0 (spec_PutNum.l0 kq x3_1 x4_1 = some r) ∧ Aside0 (kq ≤ k) ∧ Aside0 (Kd.R (Kd.int .u8) 5 w' w.heap.size (fun _ => True) v4 x4_1) ∧ Aside0 (Below w.heap.size w w'))
 case atStart => exact ⟨(t239), (y240), dr, H', ⟨Nat.le_refl _⟩, ⟨kR HO242⟩, ⟨bw HB⟩⟩
 case round =>
  clear H'
  (try clear c1); (try clear p2)
  obtain ⟨x3_1, x4_1, rfl, HA, HK1, HO_4, HB⟩ := hrel
  cases gk with
  | zero => exact absurd HA.out (by simp [spec_PutNum.l0])
  | succ k1 =>
   have H := HA.out
   clear HA
   simp only [spec_PutNum.l0] at H
   by_cases c5 : x3_1 ≥ 128
   ·rw [if_pos c5] at H
    have c5b0 : decide (128 ≤ x3_1) = true := decide_eq_true c5
    clear c5
    by_cases c6 : x4_1.length < 140737488355328
    ·rw [if_pos c6] at H
     have LMc6 := am c6
     clear c6
     obtain ⟨y243, hy243⟩ : ∃ y_ : List Int, y_ = (x4_1 ++ [(IntKind.u64.wrap ((Int.tmod x3_1 128) + 128)) % 256]) := ⟨_, rfl⟩
     replace H : (spec_PutNum.l0 k1 (IntKind.u64.wrap (Int.tdiv x3_1 128)) y243) = some r := by first | (rw [hy243]; with_reducible exact H) | (have H2_ := (Option.bind_some _ _).symm.trans H; rw [hy243]; with_reducible exact H2_) | (have H2_ := (Option.bind_some _ _).symm.trans H; with_reducible exact H2_) | with_reducible exact H | (rw [hy243]; exact H) | exact H
     have Ny243 := am hy243
     clear hy243
     have H' := am H
     clear H
     go_wp2_with (first | ((with_reducible refine gate_builtin (b := .append) (xs := #[.tmp 10, .tmp 15]) rfl ?_); at_builtin; refine Kd.R_append (Kd.int .u8) (w0 := w) w.heap.size rfl (.tmp 10) (.tmp 15) 96 5 (.int .u8 0) 1 rfl Try.underlying96 info5 rfl (by decide) (by omega) u4 x4_1 ((IntKind.u64.wrap ((Int.tmod x3_1 128) + 128)) % 256) [.int .u8 ((IntKind.u64.wrap ((Int.tmod x3_1 128) + 128)) % 256)] (fun _ => True) (fun _ => False) rfl rfl ?aP (fun _ hk => hk.elim) ?aF ?aO ?aB ?aS ?aL ?_; (case aP => exact rfl); (case aB => exact (bw HB)); (case aF => exact (fun _ _ => trivial)); (case aO => exact (kR HO_4)); (case aS => exact (below_size (bw HB))); (case aL => have := LMc6.out; omega); intro v244 w7 ho hb hg hat; rw [← Ny243.out] at ho; replace HB := am (hb); have HO245 := am (ho); clear HO_4; clear ho hb hg hat))
     go_roundg k1
     case measure => have := HK1.out; omega
     case rel => exact ⟨(IntKind.u64.wrap (Int.tdiv x3_1 128)), (y243), dr, H', ⟨by have := HK1.out; omega⟩, ⟨kR HO245⟩, ⟨bw HB⟩⟩
    ·rw [if_neg c6] at H
     exact absurd H (by simp)
   ·rw [if_neg c5] at H
    have c5b0 : decide (128 ≤ x3_1) = false := decide_eq_false c5
    clear c5
    by_cases c8 : x4_1.length < 140737488355328
    ·rw [if_pos c8] at H
     have LMc8 := am c8
     clear c8
     obtain ⟨y246, hy246⟩ : ∃ y_ : List Int, y_ = (x4_1 ++ [(x3_1) % 256]) := ⟨_, rfl⟩
     replace H : (some (strOfNums y246)) = some r := by first | (rw [hy246]; with_reducible exact H) | (have H2_ := (Option.bind_some _ _).symm.trans H; rw [hy246]; with_reducible exact H2_) | (have H2_ := (Option.bind_some _ _).symm.trans H; with_reducible exact H2_) | with_reducible exact H | (rw [hy246]; exact H) | exact H
     have Ny246 := am hy246
     clear hy246
     obtain rfl := Option.some.inj H
     go_wp2_with (first | ((with_reducible refine gate_builtin (b := .append) (xs := #[.tmp 19, .tmp 22]) rfl ?_); at_builtin; refine Kd.R_append (Kd.int .u8) (w0 := w) w.heap.size rfl (.tmp 19) (.tmp 22) 96 5 (.int .u8 0) 1 rfl Try.underlying96 info5 rfl (by decide) (by omega) u4 x4_1 ((x3_1) % 256) [.int .u8 ((x3_1) % 256)] (fun _ => True) (fun _ => False) rfl rfl ?aP (fun _ hk => hk.elim) ?aF ?aO ?aB ?aS ?aL ?_; (case aP => exact rfl); (case aB => exact (bw HB)); (case aF => exact (fun _ _ => trivial)); (case aO => exact (kR HO_4)); (case aS => exact (below_size (bw HB))); (case aL => have := LMc8.out; omega); intro v247 w9 ho hb hg hat; rw [← Ny246.out] at ho; replace HB := am (hb); have HO248 := am (ho); clear HO_4; clear ho hb hg hat; have hcv10 := own_string (P := Try.prog) Try.underlying96 Try.underlying5 Try.underlying9 (Kd.own_of_R HO248.out)))
     go_ret
     exact ⟨er, bw HB⟩
    ·rw [if_neg c8] at H
     exact absurd H (by simp)

def spec_Sum.l0 : Nat → ByteArray → Int → Int → Option (Int)
 | 0, _, _, _ => none
 | k + 1, x0, x3, x4 => if x4 < (x0.size : Int) then (if 0 ≤ x4 then (spec_Sum.l0 k x0 (Int.tmod (wrap64 ((wrap64 (257 * x3)) + (wrap64 (bt x0 x4)))) 4294967291) (wrap64 (x4 + 1))) else (none)) else (some x3)
def spec_Sum.f (k : Nat) (a0 : ByteArray) : Option (Int) := if (a0.size : Int) > 20000 then (some 0) else (spec_Sum.l0 k a0 7 0)
theorem spec_Sum.mono_l : ∀ k, (∀ y0 y1 y2, LeO (spec_Sum.l0 k y0 y1 y2) (spec_Sum.l0 (k + 1) y0 y1 y2))
 | 0 => fun _ _ _ r h => by simp [spec_Sum.l0] at h
 | k + 1 => by
  have ih0 := spec_Sum.mono_l k
  ·intro y0 y1 y2
   unfold spec_Sum.l0
   repeat' first
   | (with_reducible exact ih0 _ _ _)
   | (with_reducible exact LeO.refl _)
   | (with_reducible exact LeO.none _)
   | (with_reducible refine LeO.ite ?_ ?_)
   | (with_reducible refine LeO.bind ?_ (fun _ => ?_))
theorem spec_Sum.mono : ∀ a0 k, LeO (spec_Sum.f k a0) (spec_Sum.f (k + 1) a0) := by
 intro a0 k
 have ih0 := spec_Sum.mono_l k
 unfold spec_Sum.f
 repeat' first
   | (with_reducible exact ih0 _ _ _)
   | (with_reducible exact LeO.refl _)
   | (with_reducible exact LeO.none _)
   | (with_reducible refine LeO.ite ?_ ?_)
   | (with_reducible refine LeO.bind ?_ (fun _ => ?_))
theorem spec_Sum.calls (k : Nat) (a0 : ByteArray) (r : Int) (w : World) (h : spec_Sum.f k a0 = some r) :
  Calls Try.prog 65 #[.string a0] w fun e w' => e = .returned (.int .i64 r) ∧ Drawn0 w w' := by
 have H : (if (a0.size : Int) > 20000 then (some 0) else (spec_Sum.l0 k a0 7 0)) = some r := h
 clear h
 by_cases c2 : (a0.size : Int) > 20000
 ·rw [if_pos c2] at H
  have c2b0 : decide (20000 < (a0.size : Int)) = true := decide_eq_true c2
  have c2b1 : decide (20000 < a0.size) = true := decide_eq_true (by omega)
  clear c2
  obtain rfl := Option.some.inj H
  go_enter Try.func65, Try.ntmps65
  go_wp2
  go_ret
  exact ⟨by first | rfl | (simp; done) | (simp [*]; done), by repeat (first | exact Drawn0.refl _ | apply Drawn0.step)⟩
 ·rw [if_neg c2] at H
  have c2b0 : decide (20000 < (a0.size : Int)) = false := decide_eq_false c2
  have c2b1 : decide (20000 < a0.size) = false := decide_eq_false (by omega)
  clear c2
  have H' := am H
  clear H
  go_enter Try.func65, Try.ntmps65
  go_wp2
  go_loopg [3, 4] k (fun kq v3 v4 w' => ∃ (x3_1 : Int) (x4_1 : Int), v3 = .int .i64 x3_1 ∧ v4 = .int .i64 x4_1 ∧ Aside0 (spec_Sum.l0 kq a0 x3_1 x4_1 = some r) ∧ Aside0 (kq ≤ k) ∧ Drawn0 w w')
  case atStart => exact ⟨(7), (0), dr, dr, H', ⟨Nat.le_refl _⟩, by repeat (first | exact Drawn0.refl _ | apply Drawn0.step)⟩
  case round =>
   clear H'
   (try clear c2); (try clear c2b0); (try clear c2b1); (try clear p2)
   obtain ⟨x3_1, x4_1, rfl, rfl, HA, HK1, ⟨m1, rfl⟩⟩ := hrel
   cases gk with
   | zero => exact absurd HA.out (by simp [spec_Sum.l0])
   | succ k1 =>
    have H := HA.out
    clear HA
    simp only [spec_Sum.l0] at H
    by_cases c3 : x4_1 < (a0.size : Int)
    ·rw [if_pos c3] at H
     have c3b0 := decide_eq_true c3
     clear c3
     by_cases c4 : 0 ≤ x4_1
     ·rw [if_pos c4] at H
      have c4b0 := decide_eq_true c4
      clear c4
      have H' := am H
      clear H
      have p5 : 0 ≤ (x4_1 : Int) := of_decide_eq_true as1
      have q5 : x4_1 < (a0.size : Int) := of_decide_eq_true as1
      have hx5 := bt_at a0 x4_1
      replace p5 := eq_true p5
      replace q5 := eq_true q5
      go_wp2
      go_roundg k1
      case measure => have := HK1.out; omega
      case rel => exact ⟨(Int.tmod (wrap64 ((wrap64 (257 * x3_1)) + (wrap64 (bt a0 x4_1)))) 4294967291), (wrap64 (x4_1 + 1)), dr, dr, H', ⟨by have := HK1.out; omega⟩, by repeat (first | exact Drawn0.refl _ | apply Drawn0.step)⟩
     ·rw [if_neg c4] at H
      exact absurd H (by simp)
    ·rw [if_neg c3] at H
     have c3b0 := decide_eq_false c3
     clear c3
     obtain rfl := Option.some.inj H
     go_wp2
     go_ret
     exact ⟨by first | rfl | (simp; done) | (simp [*]; done), by repeat (first | exact Drawn0.refl _ | apply Drawn0.step)⟩

mutual
def spec_FileBytes.l0 : Nat → List Int → Int → List (S100) → Option (ByteArray)
 | 0, _, _, _ => none
 | k + 1, x3, x4, x250000 => if x4 < (x250000.length : Int) then (if 0 ≤ x4 then ((spec_PutNum.f k ((rd_T100 x250000 x4).f0)).bind fun t260 => (if x3.length + t260.size < 140737488355328 then ((some (x3 ++ bytesOf t260 : List Int)).bind fun y261 => ((spec_PutNum.f k ((rd_T100 x250000 x4).f1)).bind fun t264 => (if y261.length + t264.size < 140737488355328 then ((some (y261 ++ bytesOf t264 : List Int)).bind fun y265 => ((spec_PutNum.f k (((rd_T100 x250000 x4).f2).length : Int)).bind fun t268 => (if y265.length + t268.size < 140737488355328 then (spec_FileBytes.l1 k (y265 ++ bytesOf t268) x4 0 x250000 ((rd_T100 x250000 x4).f0) ((rd_T100 x250000 x4).f1) ((rd_T100 x250000 x4).f2)) else (none)))) else (none)))) else (none))) else (none)) else ((spec_Sum.f k (strOfNums x3)).bind fun t282 => ((spec_PutNum.f k t282).bind fun t283 => (if (strOfNums x3).size + t283.size ≤ 9223372036854775807 then (some ((strOfNums x3) ++ t283)) else (none))))
def spec_FileBytes.l1 : Nat → List Int → Int → Int → List (S100) → Int → Int → List (S102) → Option (ByteArray)
 | 0, _, _, _, _, _, _, _ => none
 | k + 1, x3, x4, x6, x250000, x260000, x260001, x260002 => if x6 < (x260002.length : Int) then (if 0 ≤ x6 then ((spec_PutNum.f k ((rd_T102 x260002 x6).f0)).bind fun t273 => (if x3.length + t273.size < 140737488355328 then ((some (x3 ++ bytesOf t273 : List Int)).bind fun y274 => ((spec_PutNum.f k ((rd_T102 x260002 x6).f1)).bind fun t278 => (if y274.length + t278.size < 140737488355328 then (spec_FileBytes.l1 k (y274 ++ bytesOf t278) x4 (wrap64 (x6 + 1)) x250000 x260000 x260001 x260002) else (none)))) else (none))) else (none)) else (spec_FileBytes.l0 k x3 (wrap64 (x4 + 1)) x250000)
end
def spec_FileBytes.f (k : Nat) (l0_0 : List (S100)) : Option (ByteArray) := (spec_l04Right.f k l0_0).bind fun t250 => (if t250 = true then ((some (([74, 49] : List Int) : List Int)).bind fun y251 => ((spec_PutNum.f k (l0_0.length : Int)).bind fun t254 => (if y251.length + t254.size < 140737488355328 then (spec_FileBytes.l0 k (y251 ++ bytesOf t254) 0 l0_0) else (none)))) else (some (⟨#[]⟩ : ByteArray)))
theorem spec_FileBytes.mono_l : ∀ k, (∀ y0 y1 y2, LeO (spec_FileBytes.l0 k y0 y1 y2) (spec_FileBytes.l0 (k + 1) y0 y1 y2)) ∧ (∀ y0 y1 y2 y3 y4 y5 y6, LeO (spec_FileBytes.l1 k y0 y1 y2 y3 y4 y5 y6) (spec_FileBytes.l1 (k + 1) y0 y1 y2 y3 y4 y5 y6))
 | 0 => ⟨fun _ _ _ r h => by simp [spec_FileBytes.l0] at h, fun _ _ _ _ _ _ _ r h => by simp [spec_FileBytes.l1] at h⟩
 | k + 1 => by
  obtain ⟨ih0, ih1⟩ := spec_FileBytes.mono_l k
  refine ⟨?_, ?_⟩
  ·intro y0 y1 y2
   unfold spec_FileBytes.l0
   repeat' first
   | (with_reducible exact ih0 _ _ _)
   | (with_reducible exact ih1 _ _ _ _ _ _ _)
   | (with_reducible exact spec_PutNum.mono _ _)
   | (with_reducible exact spec_Sum.mono _ _)
   | (with_reducible exact spec_l04Right.mono _ _)
   | (with_reducible exact LeO.refl _)
   | (with_reducible exact LeO.none _)
   | (with_reducible refine LeO.ite ?_ ?_)
   | (with_reducible refine LeO.bind ?_ (fun _ => ?_))
  ·intro y0 y1 y2 y3 y4 y5 y6
   unfold spec_FileBytes.l1
   repeat' first
   | (with_reducible exact ih0 _ _ _)
   | (with_reducible exact ih1 _ _ _ _ _ _ _)
   | (with_reducible exact spec_PutNum.mono _ _)
   | (with_reducible exact spec_Sum.mono _ _)
   | (with_reducible exact spec_l04Right.mono _ _)
   | (with_reducible exact LeO.refl _)
   | (with_reducible exact LeO.none _)
   | (with_reducible refine LeO.ite ?_ ?_)
   | (with_reducible refine LeO.bind ?_ (fun _ => ?_))
theorem spec_FileBytes.mono : ∀ a0 k, LeO (spec_FileBytes.f k a0) (spec_FileBytes.f (k + 1) a0) := by
 intro a0 k
 obtain ⟨ih0, ih1⟩ := spec_FileBytes.mono_l k
 unfold spec_FileBytes.f
 repeat' first
   | (with_reducible exact ih0 _ _ _)
   | (with_reducible exact ih1 _ _ _ _ _ _ _)
   | (with_reducible exact spec_PutNum.mono _ _)
   | (with_reducible exact spec_Sum.mono _ _)
   | (with_reducible exact spec_l04Right.mono _ _)
   | (with_reducible exact LeO.refl _)
   | (with_reducible exact LeO.none _)
   | (with_reducible refine LeO.ite ?_ ?_)
   | (with_reducible refine LeO.bind ?_ (fun _ => ?_))
theorem spec_FileBytes.calls (k : Nat) (A0_0 : Option Addr) (c0_0 : Nat) (l0_0 : List (S100)) (r : ByteArray) (w : World) (hr0_0 : Kd.C k100 w A0_0 l0_0.length l0_0) (hc0_0 : l0_0.length ≤ c0_0) (h : spec_FileBytes.f k l0_0 = some r) :
  Calls Try.prog 23 #[.agg #[.slice A0_0 l0_0.length c0_0]] w fun e w' => e = .returned (.string r) ∧ Below w.heap.size w w' := by
 have hu30 := Try.underlying30
 have hu100 := Try.underlying100
 have HR0_0 := am hr0_0
 have HC0_0 := am hc0_0
 clear hr0_0 hc0_0
 have HB := am (Below.refl w.heap.size w)
 have H : ((spec_l04Right.f k l0_0).bind fun t250 => (if t250 = true then ((some (([74, 49] : List Int) : List Int)).bind fun y251 => ((spec_PutNum.f k (l0_0.length : Int)).bind fun t254 => (if y251.length + t254.size < 140737488355328 then (spec_FileBytes.l0 k (y251 ++ bytesOf t254) 0 l0_0) else (none)))) else (some (⟨#[]⟩ : ByteArray)))) = some r := h
 clear h
 replace H := Option.bind_eq_some_iff.mp H
 obtain ⟨t250, A20, H⟩ := H
 replace H : (if t250 = true then ((some (([74, 49] : List Int) : List Int)).bind fun y251 => ((spec_PutNum.f k (l0_0.length : Int)).bind fun t254 => (if y251.length + t254.size < 140737488355328 then (spec_FileBytes.l0 k (y251 ++ bytesOf t254) 0 l0_0) else (none)))) else (some (⟨#[]⟩ : ByteArray))) = some r := H
 have A2 := am A20
 clear A20
 by_cases c3 : t250 = true
 ·subst c3
  have H1 : ((some (([74, 49] : List Int) : List Int)).bind fun y251 => ((spec_PutNum.f k (l0_0.length : Int)).bind fun t254 => (if y251.length + t254.size < 140737488355328 then (spec_FileBytes.l0 k (y251 ++ bytesOf t254) 0 l0_0) else (none)))) = some r := by rw [if_pos rfl] at H; exact H
  clear H
  have H := H1
  clear H1
  obtain ⟨y251, hy251⟩ : ∃ y_ : List Int, y_ = (([74, 49] : List Int)) := ⟨_, rfl⟩
  replace H : ((spec_PutNum.f k (l0_0.length : Int)).bind fun t254 => (if y251.length + t254.size < 140737488355328 then (spec_FileBytes.l0 k (y251 ++ bytesOf t254) 0 l0_0) else (none))) = some r := by first | (rw [hy251]; with_reducible exact H) | (have H2_ := (Option.bind_some _ _).symm.trans H; rw [hy251]; with_reducible exact H2_) | (have H2_ := (Option.bind_some _ _).symm.trans H; with_reducible exact H2_) | with_reducible exact H | (rw [hy251]; exact H) | exact H
  have Ny251 := am hy251
  clear hy251
  replace H := Option.bind_eq_some_iff.mp H
  obtain ⟨t254, A40, H⟩ := H
  replace H : (if y251.length + t254.size < 140737488355328 then (spec_FileBytes.l0 k (y251 ++ bytesOf t254) 0 l0_0) else (none)) = some r := H
  have A4 := am A40
  clear A40
  by_cases c5 : y251.length + t254.size < 140737488355328
  ·rw [if_pos c5] at H
   have LMc5 := am c5
   clear c5
   obtain ⟨y255, hy255⟩ : ∃ y_ : List Int, y_ = (y251 ++ bytesOf t254) := ⟨_, rfl⟩
   replace H : (spec_FileBytes.l0 k y255 0 l0_0) = some r := by first | (rw [hy255]; with_reducible exact H) | (have H2_ := (Option.bind_some _ _).symm.trans H; rw [hy255]; with_reducible exact H2_) | (have H2_ := (Option.bind_some _ _).symm.trans H; with_reducible exact H2_) | with_reducible exact H | (rw [hy255]; exact H) | exact H
   have Ny255 := am hy255
   clear hy255
   have H' := am H
   clear H
   go_enter Try.func23, Try.ntmps23
   go_wp2_with (first | ((with_reducible refine gate_dst (N := 1) rfl ?_); refine box_event ?hg (N := 1) ?hd (cs := #[.slice A0_0 l0_0.length c0_0]) (t := 30) ?hr ?_; (case hd => rfl); (case hg => rfl); (case hr => exact gs); intro gb249 hg w6 hbox hb; have BK249 := am (hbox); have GW249 := am ((by rw [hg]; exact (below_size (bw HB)) : w.heap.size ≤ gb249)); have GE249 := am ((by rw [hg]; exact (below_size (bw HB)) : w.heap.size ≤ gb249)); replace HB := am (below_step (bw HB) hb); clear hb hbox hg; have hcz7_0 : w6.cell? ⟨gb249, 0, none⟩ = some (.slice A0_0 l0_0.length c0_0) := bc BK249 0; have hfz7_0 := bf BK249 0) | ((with_reducible refine gate_callee (f := 63) rfl ?_); refine goesL_ (some 9) rfl rfl Try.func63 (by kernel_rfl) rfl #[.agg #[.slice A0_0 l0_0.length c0_0]] rfl gl ?_; (with_reducible refine (spec_l04Right.calls k _ _ l0_0 true _ ?side1 ?side2 A2.out).mono ?_); (case side1 => exact cc (Kd.C_below HR0_0.out HB.out)); (case side2 => exact HC0_0.out); rintro e w8 ⟨rfl, hb⟩; refine ⟨_, rfl, ?_⟩; replace BK249 := am (blk_below (g := gb249) (o := .cells #[.slice A0_0 l0_0.length c0_0] 30 (0, 0)) (bp BK249) hb); replace HB := am (below_step (bw HB) hb); (try clear hb); (try clear hb2); (try clear hk); (try clear hi)) | ((with_reducible refine gate_dst (N := 11) rfl ?_); refine Kd.R_lit (Kd.int .u8) _ 5 ?hg (N := 11) ?hd (xs := ([74, 49] : List Int)) (inner := [.int .u8 74, .int .u8 49]) (ok := fun _ => True) (okp := fun _ => True) ?hr ?hp (fun _ hk => hk) trivial (Below.refl _ _) (Nat.le_refl _) (by simp) ?_; (case hd => rfl); (case hg => rfl); (case hr => exact gs); (case hp => exact (Reps.one (show Kd.M (Kd.int .u8) _ _ _ 74 [.int .u8 74] from rfl) (Reps.one (show Kd.M (Kd.int .u8) _ _ _ 49 [.int .u8 49] from rfl) (Reps.none _ _)))); intro v252 w9 ho10 hb hg_ hnew_; clear hg_ hnew_; (first | rw [← Ny251.out] at ho10 | (simp only [Int.reduceToNat] at ho10; rw [← Ny251.out] at ho10)); have HO253 := am (Kd.R_lower ho10 (below_size (bw HB))); replace BK249 := am (blk_below (g := gb249) (o := .cells #[.slice A0_0 l0_0.length c0_0] 30 (0, 0)) (bp BK249) hb); replace HB := am (below_step (bw HB) hb); clear hb ho10; have hcz11_0 : w9.cell? ⟨gb249, 0, none⟩ = some (.slice A0_0 l0_0.length c0_0) := bc BK249 0; have hfz11_0 := bf BK249 0) | ((with_reducible refine gate_callee (f := 64) rfl ?_); refine goesL_ (some 16) rfl rfl Try.func64 (by kernel_rfl) rfl #[.int .i64 (l0_0.length : Int)] rfl gl ?_; (with_reducible refine (spec_PutNum.calls k (l0_0.length : Int) t254 _ A4.out).mono ?_); rintro e w12 ⟨rfl, hb⟩; refine ⟨_, rfl, ?_⟩; replace HO253 := am (Kd.R_below (kR HO253) hb); replace BK249 := am (blk_below (g := gb249) (o := .cells #[.slice A0_0 l0_0.length c0_0] 30 (0, 0)) (bp BK249) hb); replace HB := am (below_step (bw HB) hb); (try clear hb); (try clear hb2); (try clear hk); (try clear hi)) | (at_builtin; refine print_append_str (w0 := w) w.heap.size rfl (.tmp 12) _ 96 9 5 rfl Try.underlying96 Try.underlying9 info5 v252 y251 t254 rfl rfl ?aO ?aB ?aS ?aL ?_; (case aB => exact (bw HB)); (case aO => exact (Kd.own_of_R (kR HO253))); (case aS => exact (below_size (bw HB))); (case aL => have := LMc5.out; omega); intro v256 w13 ho0 hb hg; have ho := Kd.R_of_own (h1 := fun _ => rfl) (ok := fun _ => True) ho0 (fun _ _ => trivial); clear ho0; have hat := True.intro; rw [← Ny255.out] at ho; change Kd.R (Kd.int .u8) 5 w13 w.heap.size (fun _ => True) v256 y255 at ho; replace BK249 := am (blk_grown (g := gb249) (o := .cells #[.slice A0_0 l0_0.length c0_0] 30 (0, 0)) (bp BK249) hg (Kd.R_ne HO253.out BK249.out (by decide))); replace HB := am (hb); have HO257 := am (ho); clear HO253; clear ho hb hg hat))
   go_loopg [3, 4] k (fun kq v3 v4 w' => ∃ (x3_1 : List Int) (x4_1 : Int), v4 = .int .i64 x4_1 ∧ Aside0 (spec_FileBytes.l0 kq x3_1 x4_1 l0_0 = some r) ∧ Aside0 (kq ≤ k) ∧ Aside0 (Kd.R (Kd.int .u8) 5 w' w.heap.size (fun _ => True) v3 x3_1) ∧ Aside0 (w'.heap[gb249]? = some (.cells #[(.slice A0_0 l0_0.length c0_0)] 30 (0, 0))) ∧ Aside0 (Below w.heap.size w w'))
   case atStart => exact ⟨(y255), (0), dr, H', ⟨Nat.le_refl _⟩, ⟨kR HO257⟩, ⟨bp BK249⟩, ⟨bw HB⟩⟩
   case round =>
    clear H'
    (try clear c2); (try clear p2); (try clear c3); (try clear c5); (try clear c6); (try clear hcz11_0); (try clear hcz7_0); (try clear hfz11_0); (try clear hfz7_0)
    obtain ⟨x3_1, x4_1, rfl, HA, HK1, HO_3, BK249, HB⟩ := hrel
    cases gk with
    | zero => exact absurd HA.out (by simp [spec_FileBytes.l0])
    | succ k1 =>
     have H := HA.out
     clear HA
     simp only [spec_FileBytes.l0] at H
     by_cases c14 : x4_1 < (l0_0.length : Int)
     ·rw [if_pos c14] at H
      have c14b0 := decide_eq_true c14
      clear c14
      by_cases c15 : 0 ≤ x4_1
      ·rw [if_pos c15] at H
       have c15b0 := decide_eq_true c15
       clear c15
       replace H := Option.bind_eq_some_iff.mp H
       obtain ⟨t260, A160, H⟩ := H
       replace H : (if x3_1.length + t260.size < 140737488355328 then ((some (x3_1 ++ bytesOf t260 : List Int)).bind fun y261 => ((spec_PutNum.f k1 ((rd_T100 l0_0 x4_1).f1)).bind fun t264 => (if y261.length + t264.size < 140737488355328 then ((some (y261 ++ bytesOf t264 : List Int)).bind fun y265 => ((spec_PutNum.f k1 (((rd_T100 l0_0 x4_1).f2).length : Int)).bind fun t268 => (if y265.length + t268.size < 140737488355328 then (spec_FileBytes.l1 k1 (y265 ++ bytesOf t268) x4_1 0 l0_0 ((rd_T100 l0_0 x4_1).f0) ((rd_T100 l0_0 x4_1).f1) ((rd_T100 l0_0 x4_1).f2)) else (none)))) else (none)))) else (none)) = some r := H
       have A16 := am A160
       clear A160
       by_cases c17 : x3_1.length + t260.size < 140737488355328
       ·rw [if_pos c17] at H
        have LMc17 := am c17
        clear c17
        obtain ⟨y261, hy261⟩ : ∃ y_ : List Int, y_ = (x3_1 ++ bytesOf t260) := ⟨_, rfl⟩
        replace H : ((spec_PutNum.f k1 ((rd_T100 l0_0 x4_1).f1)).bind fun t264 => (if y261.length + t264.size < 140737488355328 then ((some (y261 ++ bytesOf t264 : List Int)).bind fun y265 => ((spec_PutNum.f k1 (((rd_T100 l0_0 x4_1).f2).length : Int)).bind fun t268 => (if y265.length + t268.size < 140737488355328 then (spec_FileBytes.l1 k1 (y265 ++ bytesOf t268) x4_1 0 l0_0 ((rd_T100 l0_0 x4_1).f0) ((rd_T100 l0_0 x4_1).f1) ((rd_T100 l0_0 x4_1).f2)) else (none)))) else (none))) = some r := by first | (rw [hy261]; with_reducible exact H) | (have H2_ := (Option.bind_some _ _).symm.trans H; rw [hy261]; with_reducible exact H2_) | (have H2_ := (Option.bind_some _ _).symm.trans H; with_reducible exact H2_) | with_reducible exact H | (rw [hy261]; exact H) | exact H
        have Ny261 := am hy261
        clear hy261
        replace H := Option.bind_eq_some_iff.mp H
        obtain ⟨t264, A180, H⟩ := H
        replace H : (if y261.length + t264.size < 140737488355328 then ((some (y261 ++ bytesOf t264 : List Int)).bind fun y265 => ((spec_PutNum.f k1 (((rd_T100 l0_0 x4_1).f2).length : Int)).bind fun t268 => (if y265.length + t268.size < 140737488355328 then (spec_FileBytes.l1 k1 (y265 ++ bytesOf t268) x4_1 0 l0_0 ((rd_T100 l0_0 x4_1).f0) ((rd_T100 l0_0 x4_1).f1) ((rd_T100 l0_0 x4_1).f2)) else (none)))) else (none)) = some r := H
        have A18 := am A180
        clear A180
        by_cases c19 : y261.length + t264.size < 140737488355328
        ·rw [if_pos c19] at H
         have LMc19 := am c19
         clear c19
         obtain ⟨y265, hy265⟩ : ∃ y_ : List Int, y_ = (y261 ++ bytesOf t264) := ⟨_, rfl⟩
         replace H : ((spec_PutNum.f k1 (((rd_T100 l0_0 x4_1).f2).length : Int)).bind fun t268 => (if y265.length + t268.size < 140737488355328 then (spec_FileBytes.l1 k1 (y265 ++ bytesOf t268) x4_1 0 l0_0 ((rd_T100 l0_0 x4_1).f0) ((rd_T100 l0_0 x4_1).f1) ((rd_T100 l0_0 x4_1).f2)) else (none))) = some r := by first | (rw [hy265]; with_reducible exact H) | (have H2_ := (Option.bind_some _ _).symm.trans H; rw [hy265]; with_reducible exact H2_) | (have H2_ := (Option.bind_some _ _).symm.trans H; with_reducible exact H2_) | with_reducible exact H | (rw [hy265]; exact H) | exact H
         have Ny265 := am hy265
         clear hy265
         replace H := Option.bind_eq_some_iff.mp H
         obtain ⟨t268, A200, H⟩ := H
         replace H : (if y265.length + t268.size < 140737488355328 then (spec_FileBytes.l1 k1 (y265 ++ bytesOf t268) x4_1 0 l0_0 ((rd_T100 l0_0 x4_1).f0) ((rd_T100 l0_0 x4_1).f1) ((rd_T100 l0_0 x4_1).f2)) else (none)) = some r := H
         have A20 := am A200
         clear A200
         by_cases c21 : y265.length + t268.size < 140737488355328
         ·rw [if_pos c21] at H
          have LMc21 := am c21
          clear c21
          obtain ⟨y269, hy269⟩ : ∃ y_ : List Int, y_ = (y265 ++ bytesOf t268) := ⟨_, rfl⟩
          replace H : (spec_FileBytes.l1 k1 y269 x4_1 0 l0_0 ((rd_T100 l0_0 x4_1).f0) ((rd_T100 l0_0 x4_1).f1) ((rd_T100 l0_0 x4_1).f2)) = some r := by first | (rw [hy269]; with_reducible exact H) | (have H2_ := (Option.bind_some _ _).symm.trans H; rw [hy269]; with_reducible exact H2_) | (have H2_ := (Option.bind_some _ _).symm.trans H; with_reducible exact H2_) | with_reducible exact H | (rw [hy269]; exact H) | exact H
          have Ny269 := am hy269
          clear hy269
          have H' := am H
          clear H
          have hcz22_0 : wr.cell? ⟨gb249, 0, none⟩ = some (.slice A0_0 l0_0.length c0_0) := bc BK249 0
          have hfz22_0 := bf BK249 0
          have p258 : 0 ≤ (x4_1 : Int) := of_decide_eq_true as1
          have q258 : x4_1 < (l0_0.length : Int) := of_decide_eq_true as1
          obtain ⟨ad258, A258_2, c258_2, e258, hx258_0, hx258_1, hx258_2, hl258_2, hi258_2⟩ := at_T100 HR0_0.out x4_1 p258 q258
          cases e258
          replace hx258_0 := (HB.out.cell (World.block_lt_of_cell? w _ hx258_0)).trans hx258_0
          replace hx258_1 := (HB.out.cell (World.block_lt_of_cell? w _ hx258_1)).trans hx258_1
          replace hx258_2 := (HB.out.cell (World.block_lt_of_cell? w _ hx258_2)).trans hx258_2
          have HR258_2 := am hi258_2
          have HC258_2 := am hl258_2
          clear hi258_2 hl258_2
          replace p258 := eq_true p258
          replace q258 := eq_true q258
          go_wp2_with (first | ((with_reducible refine gate_dst (N := 5) rfl ?_); refine box_event ?hg (N := 5) ?hd (cs := #[.int .i64 0, .int .i64 0, .slice none 0 0]) (t := 100) ?hr ?_; (case hd => rfl); (case hg => rfl); (case hr => exact gs); intro gb259 hg w23 hbox hb; replace HO_3 := am (Kd.R_below (kR HO_3) hb); have BK259 := am (hbox); have GW259 := am ((by rw [hg]; exact (below_size (bw HB)) : w.heap.size ≤ gb259)); have GE259 := am ((by rw [hg]; exact (below_size (bw HB)) : w.heap.size ≤ gb259)); replace HB := am (below_step (bw HB) hb); have NB249_259 := am ((by rw [hg]; exact Nat.ne_of_lt (blk_lt (g := gb249) (o := .cells #[.slice (some ad258) l0_0.length c0_0] 30 (0, 0)) (bp BK249)) : gb249 ≠ gb259)); have NB259_249 := am ((by rw [hg]; exact Nat.ne_of_gt (blk_lt (g := gb249) (o := .cells #[.slice (some ad258) l0_0.length c0_0] 30 (0, 0)) (bp BK249)) : gb259 ≠ gb249)); replace BK249 := am (blk_below (g := gb249) (o := .cells #[.slice (some ad258) l0_0.length c0_0] 30 (0, 0)) (bp BK249) hb); clear hb hbox hg; have hnb24 := NB259_249.out; have hnc24 := NB249_259.out; have hcz25_0 : w23.cell? ⟨gb259, 0, none⟩ = some (.int .i64 0) := bc BK259 0; have hcz25_1 : w23.cell? ⟨gb259, 1, none⟩ = some (.int .i64 0) := bc BK259 1; have hcz25_2 : w23.cell? ⟨gb259, 2, none⟩ = some (.slice none 0 0) := bc BK259 2; have hfz25_0 := bf BK259 0; have hfz25_1 := bf BK259 1; have hfz25_2 := bf BK259 2) | ((with_reducible refine gate_callee (f := 64) rfl ?_); refine goesL_ (some 33) rfl rfl Try.func64 (by kernel_rfl) rfl #[.int .i64 ((rd_T100 l0_0 x4_1).f0)] rfl gl ?_; (with_reducible refine (spec_PutNum.calls k1 ((rd_T100 l0_0 x4_1).f0) t260 _ A16.out).mono ?_); rintro e w26 ⟨rfl, hb⟩; refine ⟨_, rfl, ?_⟩; replace HO_3 := am (Kd.R_below (by (with_reducible repeat (first | apply Kd.R_alloc | apply Kd.R_drewN | apply Kd.R_drew)); exact (Kd.R_mono (Kd.R_far (p := ⟨gb259, 2, none⟩) (Kd.R_far (p := ⟨gb259, 1, none⟩) (Kd.R_far (p := ⟨gb259, 0, none⟩) (Kd.R_types HO_3.out BK259.out (by decide)) (fun _ hk => hk.2) (.int .i64 ((rd_T100 l0_0 x4_1).f0))) (fun _ hk => hk.2) (.int .i64 ((rd_T100 l0_0 x4_1).f1))) (fun _ hk => hk.2) (.slice A258_2 ((rd_T100 l0_0 x4_1).f2).length c258_2)) (fun _ h_ => h_.1))) hb); replace BK249 := am (blk_below (g := gb249) (o := .cells #[.slice (some ad258) l0_0.length c0_0] 30 (0, 0)) (by (with_reducible repeat (first | apply dN | apply dW | apply dA)); refine blk_far ?_ NB249_259.out _; (with_reducible repeat (first | apply dN | apply dW | apply dA)); refine blk_far ?_ NB249_259.out _; (with_reducible repeat (first | apply dN | apply dW | apply dA)); refine blk_far ?_ NB249_259.out _; exact bp BK249) hb); replace BK259 := am (blk_below (g := gb259) (o := .cells #[.int .i64 ((rd_T100 l0_0 x4_1).f0), .int .i64 ((rd_T100 l0_0 x4_1).f1), .slice A258_2 ((rd_T100 l0_0 x4_1).f2).length c258_2] 100 (0, 0)) (by (with_reducible repeat (first | apply dN | apply dW | apply dA)); refine blk_put (cs := #[.int .i64 ((rd_T100 l0_0 x4_1).f0), .int .i64 ((rd_T100 l0_0 x4_1).f1), .slice none 0 0]) ?_ 2 _ rfl; (with_reducible repeat (first | apply dN | apply dW | apply dA)); refine blk_put (cs := #[.int .i64 ((rd_T100 l0_0 x4_1).f0), .int .i64 0, .slice none 0 0]) ?_ 1 _ rfl; (with_reducible repeat (first | apply dN | apply dW | apply dA)); refine blk_put (cs := #[.int .i64 0, .int .i64 0, .slice none 0 0]) ?_ 0 _ rfl; exact bp BK259) hb); replace HB := am (below_step (bw HB) hb); (try clear hb); (try clear hb2); (try clear hk); (try clear hi)) | (at_builtin; refine print_append_str (w0 := w) w.heap.size rfl (.tmp 30) _ 96 9 5 rfl Try.underlying96 Try.underlying9 info5 u3 x3_1 t260 rfl rfl ?aO ?aB ?aS ?aL ?_; (case aB => exact (bw HB)); (case aO => exact (Kd.own_of_R (kR HO_3))); (case aS => exact (below_size (bw HB))); (case aL => have := LMc17.out; omega); intro v262 w27 ho0 hb hg; have ho := Kd.R_of_own (h1 := fun _ => rfl) (ok := fun _ => True) ho0 (fun _ _ => trivial); clear ho0; have hat := True.intro; rw [← Ny261.out] at ho; change Kd.R (Kd.int .u8) 5 w27 w.heap.size (fun _ => True) v262 y261 at ho; replace BK249 := am (blk_grown (g := gb249) (o := .cells #[.slice (some ad258) l0_0.length c0_0] 30 (0, 0)) (bp BK249) hg (Kd.R_ne HO_3.out BK249.out (by decide))); replace BK259 := am (blk_grown (g := gb259) (o := .cells #[.int .i64 ((rd_T100 l0_0 x4_1).f0), .int .i64 ((rd_T100 l0_0 x4_1).f1), .slice A258_2 ((rd_T100 l0_0 x4_1).f2).length c258_2] 100 (0, 0)) (bp BK259) hg (Kd.R_ne HO_3.out BK259.out (by decide))); replace HB := am (hb); have HO263 := am (ho); clear HO_3; clear ho hb hg hat; have hcz28_0 : w27.cell? ⟨gb259, 0, none⟩ = some (.int .i64 ((rd_T100 l0_0 x4_1).f0)) := bc BK259 0; have hcz28_1 : w27.cell? ⟨gb259, 1, none⟩ = some (.int .i64 ((rd_T100 l0_0 x4_1).f1)) := bc BK259 1; have hcz28_2 : w27.cell? ⟨gb259, 2, none⟩ = some (.slice A258_2 ((rd_T100 l0_0 x4_1).f2).length c258_2) := bc BK259 2; have hfz28_0 := bf BK259 0; have hfz28_1 := bf BK259 1; have hfz28_2 := bf BK259 2) | ((with_reducible refine gate_callee (f := 64) rfl ?_); refine goesL_ (some 38) rfl rfl Try.func64 (by kernel_rfl) rfl #[.int .i64 ((rd_T100 l0_0 x4_1).f1)] rfl gl ?_; (with_reducible refine (spec_PutNum.calls k1 ((rd_T100 l0_0 x4_1).f1) t264 _ A18.out).mono ?_); rintro e w29 ⟨rfl, hb⟩; refine ⟨_, rfl, ?_⟩; replace HO263 := am (Kd.R_below (kR HO263) hb); replace BK249 := am (blk_below (g := gb249) (o := .cells #[.slice (some ad258) l0_0.length c0_0] 30 (0, 0)) (bp BK249) hb); replace BK259 := am (blk_below (g := gb259) (o := .cells #[.int .i64 ((rd_T100 l0_0 x4_1).f0), .int .i64 ((rd_T100 l0_0 x4_1).f1), .slice A258_2 ((rd_T100 l0_0 x4_1).f2).length c258_2] 100 (0, 0)) (bp BK259) hb); replace HB := am (below_step (bw HB) hb); (try clear hb); (try clear hb2); (try clear hk); (try clear hi)) | (at_builtin; refine print_append_str (w0 := w) w.heap.size rfl (.tmp 35) _ 96 9 5 rfl Try.underlying96 Try.underlying9 info5 v262 y261 t264 rfl rfl ?aO ?aB ?aS ?aL ?_; (case aB => exact (bw HB)); (case aO => exact (Kd.own_of_R (kR HO263))); (case aS => exact (below_size (bw HB))); (case aL => have := LMc19.out; omega); intro v266 w30 ho0 hb hg; have ho := Kd.R_of_own (h1 := fun _ => rfl) (ok := fun _ => True) ho0 (fun _ _ => trivial); clear ho0; have hat := True.intro; rw [← Ny265.out] at ho; change Kd.R (Kd.int .u8) 5 w30 w.heap.size (fun _ => True) v266 y265 at ho; replace BK249 := am (blk_grown (g := gb249) (o := .cells #[.slice (some ad258) l0_0.length c0_0] 30 (0, 0)) (bp BK249) hg (Kd.R_ne HO263.out BK249.out (by decide))); replace BK259 := am (blk_grown (g := gb259) (o := .cells #[.int .i64 ((rd_T100 l0_0 x4_1).f0), .int .i64 ((rd_T100 l0_0 x4_1).f1), .slice A258_2 ((rd_T100 l0_0 x4_1).f2).length c258_2] 100 (0, 0)) (bp BK259) hg (Kd.R_ne HO263.out BK259.out (by decide))); replace HB := am (hb); have HO267 := am (ho); clear HO263; clear ho hb hg hat; have hcz31_0 : w30.cell? ⟨gb259, 0, none⟩ = some (.int .i64 ((rd_T100 l0_0 x4_1).f0)) := bc BK259 0; have hcz31_1 : w30.cell? ⟨gb259, 1, none⟩ = some (.int .i64 ((rd_T100 l0_0 x4_1).f1)) := bc BK259 1; have hcz31_2 : w30.cell? ⟨gb259, 2, none⟩ = some (.slice A258_2 ((rd_T100 l0_0 x4_1).f2).length c258_2) := bc BK259 2; have hfz31_0 := bf BK259 0; have hfz31_1 := bf BK259 1; have hfz31_2 := bf BK259 2) | ((with_reducible refine gate_callee (f := 64) rfl ?_); refine goesL_ (some 44) rfl rfl Try.func64 (by kernel_rfl) rfl #[.int .i64 (((rd_T100 l0_0 x4_1).f2).length : Int)] rfl gl ?_; (with_reducible refine (spec_PutNum.calls k1 (((rd_T100 l0_0 x4_1).f2).length : Int) t268 _ A20.out).mono ?_); rintro e w32 ⟨rfl, hb⟩; refine ⟨_, rfl, ?_⟩; replace HO267 := am (Kd.R_below (kR HO267) hb); replace BK249 := am (blk_below (g := gb249) (o := .cells #[.slice (some ad258) l0_0.length c0_0] 30 (0, 0)) (bp BK249) hb); replace BK259 := am (blk_below (g := gb259) (o := .cells #[.int .i64 ((rd_T100 l0_0 x4_1).f0), .int .i64 ((rd_T100 l0_0 x4_1).f1), .slice A258_2 ((rd_T100 l0_0 x4_1).f2).length c258_2] 100 (0, 0)) (bp BK259) hb); replace HB := am (below_step (bw HB) hb); (try clear hb); (try clear hb2); (try clear hk); (try clear hi)) | (at_builtin; refine print_append_str (w0 := w) w.heap.size rfl (.tmp 40) _ 96 9 5 rfl Try.underlying96 Try.underlying9 info5 v266 y265 t268 rfl rfl ?aO ?aB ?aS ?aL ?_; (case aB => exact (bw HB)); (case aO => exact (Kd.own_of_R (kR HO267))); (case aS => exact (below_size (bw HB))); (case aL => have := LMc21.out; omega); intro v270 w33 ho0 hb hg; have ho := Kd.R_of_own (h1 := fun _ => rfl) (ok := fun _ => True) ho0 (fun _ _ => trivial); clear ho0; have hat := True.intro; rw [← Ny269.out] at ho; change Kd.R (Kd.int .u8) 5 w33 w.heap.size (fun _ => True) v270 y269 at ho; replace BK249 := am (blk_grown (g := gb249) (o := .cells #[.slice (some ad258) l0_0.length c0_0] 30 (0, 0)) (bp BK249) hg (Kd.R_ne HO267.out BK249.out (by decide))); replace BK259 := am (blk_grown (g := gb259) (o := .cells #[.int .i64 ((rd_T100 l0_0 x4_1).f0), .int .i64 ((rd_T100 l0_0 x4_1).f1), .slice A258_2 ((rd_T100 l0_0 x4_1).f2).length c258_2] 100 (0, 0)) (bp BK259) hg (Kd.R_ne HO267.out BK259.out (by decide))); replace HB := am (hb); have HO271 := am (ho); clear HO267; clear ho hb hg hat))
          go_loopg [3, 6] k1 (fun kq v3 v6 w' => ∃ (x3_2 : List Int) (x6_2 : Int), v6 = .int .i64 x6_2 ∧ Aside0 (spec_FileBytes.l1 kq x3_2 x4_1 x6_2 l0_0 ((rd_T100 l0_0 x4_1).f0) ((rd_T100 l0_0 x4_1).f1) ((rd_T100 l0_0 x4_1).f2) = some r) ∧ Aside0 (kq ≤ k1) ∧ Aside0 (Kd.R (Kd.int .u8) 5 w' w.heap.size (fun _ => True) v3 x3_2) ∧ Aside0 (w'.heap[gb249]? = some (.cells #[(.slice (some ad258) l0_0.length c0_0)] 30 (0, 0))) ∧ Aside0 (w'.heap[gb259]? = some (.cells #[.int .i64 ((rd_T100 l0_0 x4_1).f0), .int .i64 ((rd_T100 l0_0 x4_1).f1), (.slice A258_2 ((rd_T100 l0_0 x4_1).f2).length c258_2)] 100 (0, 0))) ∧ Aside0 (Below w.heap.size w w'))
          case atStart => exact ⟨(y269), (0), dr, H', ⟨Nat.le_refl _⟩, ⟨kR HO271⟩, ⟨bp BK249⟩, ⟨bp BK259⟩, ⟨bw HB⟩⟩
          case round =>
           clear H'
           (try clear c1); (try clear c2); (try clear p2); (try clear q2); (try clear hx2); (try clear c3); (try clear c5); (try clear c6); (try clear c14); (try clear c14b0); (try clear c15); (try clear c15b0); (try clear c17); (try clear c19); (try clear c21); (try clear c23); (try clear c24); (try clear c25); (try clear p25); (try clear q25); (try clear hx25); (try clear hcz11_0); (try clear hcz22_0); (try clear hcz25_0); (try clear hcz25_1); (try clear hcz25_2); (try clear hcz28_0); (try clear hcz28_1); (try clear hcz28_2); (try clear hcz31_0); (try clear hcz31_1); (try clear hcz31_2); (try clear hcz7_0); (try clear hfz11_0); (try clear hfz22_0); (try clear hfz25_0); (try clear hfz25_1); (try clear hfz25_2); (try clear hfz28_0); (try clear hfz28_1); (try clear hfz28_2); (try clear hfz31_0); (try clear hfz31_1); (try clear hfz31_2); (try clear hfz7_0); (try clear hx258_0); (try clear hx258_1); (try clear hx258_2); (try clear p2); (try clear p258); (try clear q258)
           obtain ⟨x3_2, x6_2, rfl, HA, HK2, HO_3, BK249, BK259, HB⟩ := hrel
           cases gk with
           | zero => exact absurd HA.out (by simp [spec_FileBytes.l1])
           | succ k2 =>
            have H := HA.out
            clear HA
            simp only [spec_FileBytes.l1] at H
            by_cases c34 : x6_2 < (((rd_T100 l0_0 x4_1).f2).length : Int)
            ·rw [if_pos c34] at H
             have c34b0 := decide_eq_true c34
             clear c34
             by_cases c35 : 0 ≤ x6_2
             ·rw [if_pos c35] at H
              have c35b0 := decide_eq_true c35
              clear c35
              replace H := Option.bind_eq_some_iff.mp H
              obtain ⟨t273, A360, H⟩ := H
              replace H : (if x3_2.length + t273.size < 140737488355328 then ((some (x3_2 ++ bytesOf t273 : List Int)).bind fun y274 => ((spec_PutNum.f k2 ((rd_T102 ((rd_T100 l0_0 x4_1).f2) x6_2).f1)).bind fun t278 => (if y274.length + t278.size < 140737488355328 then (spec_FileBytes.l1 k2 (y274 ++ bytesOf t278) x4_1 (wrap64 (x6_2 + 1)) l0_0 ((rd_T100 l0_0 x4_1).f0) ((rd_T100 l0_0 x4_1).f1) ((rd_T100 l0_0 x4_1).f2)) else (none)))) else (none)) = some r := H
              have A36 := am A360
              clear A360
              by_cases c37 : x3_2.length + t273.size < 140737488355328
              ·rw [if_pos c37] at H
               have LMc37 := am c37
               clear c37
               obtain ⟨y274, hy274⟩ : ∃ y_ : List Int, y_ = (x3_2 ++ bytesOf t273) := ⟨_, rfl⟩
               replace H : ((spec_PutNum.f k2 ((rd_T102 ((rd_T100 l0_0 x4_1).f2) x6_2).f1)).bind fun t278 => (if y274.length + t278.size < 140737488355328 then (spec_FileBytes.l1 k2 (y274 ++ bytesOf t278) x4_1 (wrap64 (x6_2 + 1)) l0_0 ((rd_T100 l0_0 x4_1).f0) ((rd_T100 l0_0 x4_1).f1) ((rd_T100 l0_0 x4_1).f2)) else (none))) = some r := by first | (rw [hy274]; with_reducible exact H) | (have H2_ := (Option.bind_some _ _).symm.trans H; rw [hy274]; with_reducible exact H2_) | (have H2_ := (Option.bind_some _ _).symm.trans H; with_reducible exact H2_) | with_reducible exact H | (rw [hy274]; exact H) | exact H
               have Ny274 := am hy274
               clear hy274
               replace H := Option.bind_eq_some_iff.mp H
               obtain ⟨t278, A380, H⟩ := H
               replace H : (if y274.length + t278.size < 140737488355328 then (spec_FileBytes.l1 k2 (y274 ++ bytesOf t278) x4_1 (wrap64 (x6_2 + 1)) l0_0 ((rd_T100 l0_0 x4_1).f0) ((rd_T100 l0_0 x4_1).f1) ((rd_T100 l0_0 x4_1).f2)) else (none)) = some r := H
               have A38 := am A380
               clear A380
               by_cases c39 : y274.length + t278.size < 140737488355328
               ·rw [if_pos c39] at H
                have LMc39 := am c39
                clear c39
                obtain ⟨y279, hy279⟩ : ∃ y_ : List Int, y_ = (y274 ++ bytesOf t278) := ⟨_, rfl⟩
                replace H : (spec_FileBytes.l1 k2 y279 x4_1 (wrap64 (x6_2 + 1)) l0_0 ((rd_T100 l0_0 x4_1).f0) ((rd_T100 l0_0 x4_1).f1) ((rd_T100 l0_0 x4_1).f2)) = some r := by first | (rw [hy279]; with_reducible exact H) | (have H2_ := (Option.bind_some _ _).symm.trans H; rw [hy279]; with_reducible exact H2_) | (have H2_ := (Option.bind_some _ _).symm.trans H; with_reducible exact H2_) | with_reducible exact H | (rw [hy279]; exact H) | exact H
                have Ny279 := am hy279
                clear hy279
                have H' := am H
                clear H
                have hnb40 := NB259_249.out
                have hnc40 := NB249_259.out
                have hcz41_0 : wr.cell? ⟨gb259, 0, none⟩ = some (.int .i64 ((rd_T100 l0_0 x4_1).f0)) := bc BK259 0
                have hcz41_1 : wr.cell? ⟨gb259, 1, none⟩ = some (.int .i64 ((rd_T100 l0_0 x4_1).f1)) := bc BK259 1
                have hcz41_2 : wr.cell? ⟨gb259, 2, none⟩ = some (.slice A258_2 ((rd_T100 l0_0 x4_1).f2).length c258_2) := bc BK259 2
                have hfz41_0 := bf BK259 0
                have hfz41_1 := bf BK259 1
                have hfz41_2 := bf BK259 2
                have p272 : 0 ≤ (x6_2 : Int) := of_decide_eq_true as1
                have q272 : x6_2 < (((rd_T100 l0_0 x4_1).f2).length : Int) := of_decide_eq_true as1
                obtain ⟨ad272, e272, hx272_0, hx272_1⟩ := at_T102 HR258_2.out x6_2 p272 q272
                cases e272
                replace hx272_0 := (HB.out.cell (World.block_lt_of_cell? w _ hx272_0)).trans hx272_0
                replace hx272_1 := (HB.out.cell (World.block_lt_of_cell? w _ hx272_1)).trans hx272_1
                replace p272 := eq_true p272
                replace q272 := eq_true q272
                go_wp2_with (first | ((with_reducible refine gate_callee (f := 64) rfl ?_); refine goesL_ (some 60) rfl rfl Try.func64 (by kernel_rfl) rfl #[.int .i64 ((rd_T102 ((rd_T100 l0_0 x4_1).f2) x6_2).f0)] rfl gl ?_; (with_reducible refine (spec_PutNum.calls k2 ((rd_T102 ((rd_T100 l0_0 x4_1).f2) x6_2).f0) t273 _ A36.out).mono ?_); rintro e w42 ⟨rfl, hb⟩; refine ⟨_, rfl, ?_⟩; replace HO_3 := am (Kd.R_below (kR HO_3) hb); replace BK249 := am (blk_below (g := gb249) (o := .cells #[.slice (some ad258) l0_0.length c0_0] 30 (0, 0)) (bp BK249) hb); replace BK259 := am (blk_below (g := gb259) (o := .cells #[.int .i64 ((rd_T100 l0_0 x4_1).f0), .int .i64 ((rd_T100 l0_0 x4_1).f1), .slice (some ad272) ((rd_T100 l0_0 x4_1).f2).length c258_2] 100 (0, 0)) (bp BK259) hb); replace HB := am (below_step (bw HB) hb); (try clear hb); (try clear hb2); (try clear hk); (try clear hi)) | (at_builtin; refine print_append_str (w0 := w) w.heap.size rfl (.tmp 53) _ 96 9 5 rfl Try.underlying96 Try.underlying9 info5 u3 x3_2 t273 rfl rfl ?aO ?aB ?aS ?aL ?_; (case aB => exact (bw HB)); (case aO => exact (Kd.own_of_R (kR HO_3))); (case aS => exact (below_size (bw HB))); (case aL => have := LMc37.out; omega); intro v275 w43 ho0 hb hg; have ho := Kd.R_of_own (h1 := fun _ => rfl) (ok := fun _ => True) ho0 (fun _ _ => trivial); clear ho0; have hat := True.intro; rw [← Ny274.out] at ho; change Kd.R (Kd.int .u8) 5 w43 w.heap.size (fun _ => True) v275 y274 at ho; replace BK249 := am (blk_grown (g := gb249) (o := .cells #[.slice (some ad258) l0_0.length c0_0] 30 (0, 0)) (bp BK249) hg (Kd.R_ne HO_3.out BK249.out (by decide))); replace BK259 := am (blk_grown (g := gb259) (o := .cells #[.int .i64 ((rd_T100 l0_0 x4_1).f0), .int .i64 ((rd_T100 l0_0 x4_1).f1), .slice (some ad272) ((rd_T100 l0_0 x4_1).f2).length c258_2] 100 (0, 0)) (bp BK259) hg (Kd.R_ne HO_3.out BK259.out (by decide))); replace HB := am (hb); have HO276 := am (ho); clear HO_3; clear ho hb hg hat; have hcz44_0 : w43.cell? ⟨gb259, 0, none⟩ = some (.int .i64 ((rd_T100 l0_0 x4_1).f0)) := bc BK259 0; have hcz44_1 : w43.cell? ⟨gb259, 1, none⟩ = some (.int .i64 ((rd_T100 l0_0 x4_1).f1)) := bc BK259 1; have hcz44_2 : w43.cell? ⟨gb259, 2, none⟩ = some (.slice (some ad272) ((rd_T100 l0_0 x4_1).f2).length c258_2) := bc BK259 2; have hfz44_0 := bf BK259 0; have hfz44_1 := bf BK259 1; have hfz44_2 := bf BK259 2; have p277 : 0 ≤ (x6_2 : Int) := of_decide_eq_true as1; have q277 : x6_2 < (((rd_T100 l0_0 x4_1).f2).length : Int) := of_decide_eq_true as1; obtain ⟨ad277, e277, hx277_0, hx277_1⟩ := at_T102 HR258_2.out x6_2 p277 q277; obtain rfl : ad272 = ad277 := (by injection e277); replace hx277_0 := (HB.out.cell (World.block_lt_of_cell? w _ hx277_0)).trans hx277_0; replace hx277_1 := (HB.out.cell (World.block_lt_of_cell? w _ hx277_1)).trans hx277_1; replace p277 := eq_true p277; replace q277 := eq_true q277) | ((with_reducible refine gate_callee (f := 64) rfl ?_); refine goesL_ (some 69) rfl rfl Try.func64 (by kernel_rfl) rfl #[.int .i64 ((rd_T102 ((rd_T100 l0_0 x4_1).f2) x6_2).f1)] rfl gl ?_; (with_reducible refine (spec_PutNum.calls k2 ((rd_T102 ((rd_T100 l0_0 x4_1).f2) x6_2).f1) t278 _ A38.out).mono ?_); rintro e w45 ⟨rfl, hb⟩; refine ⟨_, rfl, ?_⟩; replace HO276 := am (Kd.R_below (kR HO276) hb); replace BK249 := am (blk_below (g := gb249) (o := .cells #[.slice (some ad258) l0_0.length c0_0] 30 (0, 0)) (bp BK249) hb); replace BK259 := am (blk_below (g := gb259) (o := .cells #[.int .i64 ((rd_T100 l0_0 x4_1).f0), .int .i64 ((rd_T100 l0_0 x4_1).f1), .slice (some ad272) ((rd_T100 l0_0 x4_1).f2).length c258_2] 100 (0, 0)) (bp BK259) hb); replace HB := am (below_step (bw HB) hb); (try clear hb); (try clear hb2); (try clear hk); (try clear hi)) | (at_builtin; refine print_append_str (w0 := w) w.heap.size rfl (.tmp 62) _ 96 9 5 rfl Try.underlying96 Try.underlying9 info5 v275 y274 t278 rfl rfl ?aO ?aB ?aS ?aL ?_; (case aB => exact (bw HB)); (case aO => exact (Kd.own_of_R (kR HO276))); (case aS => exact (below_size (bw HB))); (case aL => have := LMc39.out; omega); intro v280 w46 ho0 hb hg; have ho := Kd.R_of_own (h1 := fun _ => rfl) (ok := fun _ => True) ho0 (fun _ _ => trivial); clear ho0; have hat := True.intro; rw [← Ny279.out] at ho; change Kd.R (Kd.int .u8) 5 w46 w.heap.size (fun _ => True) v280 y279 at ho; replace BK249 := am (blk_grown (g := gb249) (o := .cells #[.slice (some ad258) l0_0.length c0_0] 30 (0, 0)) (bp BK249) hg (Kd.R_ne HO276.out BK249.out (by decide))); replace BK259 := am (blk_grown (g := gb259) (o := .cells #[.int .i64 ((rd_T100 l0_0 x4_1).f0), .int .i64 ((rd_T100 l0_0 x4_1).f1), .slice (some ad272) ((rd_T100 l0_0 x4_1).f2).length c258_2] 100 (0, 0)) (bp BK259) hg (Kd.R_ne HO276.out BK259.out (by decide))); replace HB := am (hb); have HO281 := am (ho); clear HO276; clear ho hb hg hat))
                go_roundg k2
                case measure => have := HK1.out; have := HK2.out; omega
                case rel => exact ⟨(y279), (wrap64 (x6_2 + 1)), dr, H', ⟨by have := HK1.out; have := HK2.out; omega⟩, ⟨kR HO281⟩, ⟨bp BK249⟩, ⟨bp BK259⟩, ⟨bw HB⟩⟩
               ·rw [if_neg c39] at H
                exact absurd H (by simp)
              ·rw [if_neg c37] at H
               exact absurd H (by simp)
             ·rw [if_neg c35] at H
              exact absurd H (by simp)
            ·rw [if_neg c34] at H
             have c34b0 := decide_eq_false c34
             clear c34
             have H' := am H
             clear H
             have hnb47 := NB259_249.out
             have hnc47 := NB249_259.out
             have hcz48_0 : wr.cell? ⟨gb259, 0, none⟩ = some (.int .i64 ((rd_T100 l0_0 x4_1).f0)) := bc BK259 0
             have hcz48_1 : wr.cell? ⟨gb259, 1, none⟩ = some (.int .i64 ((rd_T100 l0_0 x4_1).f1)) := bc BK259 1
             have hcz48_2 : wr.cell? ⟨gb259, 2, none⟩ = some (.slice A258_2 ((rd_T100 l0_0 x4_1).f2).length c258_2) := bc BK259 2
             have hfz48_0 := bf BK259 0
             have hfz48_1 := bf BK259 1
             have hfz48_2 := bf BK259 2
             go_wp2
             go_roundg k2
             case measure => have := HK1.out; have := HK2.out; omega
             case rel => exact ⟨(x3_2), (wrap64 (x4_1 + 1)), dr, H', ⟨by have := HK1.out; have := HK2.out; omega⟩, ⟨kR HO_3⟩, ⟨bp BK249⟩, ⟨bw HB⟩⟩
         ·rw [if_neg c21] at H
          exact absurd H (by simp)
        ·rw [if_neg c19] at H
         exact absurd H (by simp)
       ·rw [if_neg c17] at H
        exact absurd H (by simp)
      ·rw [if_neg c15] at H
       exact absurd H (by simp)
     ·rw [if_neg c14] at H
      have c14b0 := decide_eq_false c14
      clear c14
      replace H := Option.bind_eq_some_iff.mp H
      obtain ⟨t282, A490, H⟩ := H
      replace H : ((spec_PutNum.f k1 t282).bind fun t283 => (if (strOfNums x3_1).size + t283.size ≤ 9223372036854775807 then (some ((strOfNums x3_1) ++ t283)) else (none))) = some r := H
      have A49 := am A490
      clear A490
      replace H := Option.bind_eq_some_iff.mp H
      obtain ⟨t283, A500, H⟩ := H
      replace H : (if (strOfNums x3_1).size + t283.size ≤ 9223372036854775807 then (some ((strOfNums x3_1) ++ t283)) else (none)) = some r := H
      have A50 := am A500
      clear A500
      by_cases c51 : (strOfNums x3_1).size + t283.size ≤ 9223372036854775807
      ·rw [if_pos c51] at H
       have c51b0 := eq_true c51
       have c51b1 := decide_eq_true c51
       try have c51b2 : (9223372036854775807 < (strOfNums x3_1).size + t283.size) = False := eq_false (Nat.not_lt.2 c51)
       obtain rfl := Option.some.inj H
       have hcz52_0 : wr.cell? ⟨gb249, 0, none⟩ = some (.slice A0_0 l0_0.length c0_0) := bc BK249 0
       have hfz52_0 := bf BK249 0
       have hcv53 := own_string (P := Try.prog) Try.underlying96 Try.underlying5 Try.underlying9 (Kd.own_of_R HO_3.out)
       go_wp2_with (first | ((with_reducible refine gate_callee (f := 65) rfl ?_); refine goesL_ (some 75) rfl rfl Try.func65 (by kernel_rfl) rfl #[.string (strOfNums x3_1)] rfl gl ?_; (with_reducible refine (spec_Sum.calls k1 (strOfNums x3_1) t282 _ A49.out).mono ?_); rintro e w' ⟨rfl, ⟨nd, rfl⟩⟩; refine ⟨_, rfl, ?_⟩) | ((with_reducible refine gate_callee (f := 64) rfl ?_); refine goesL_ (some 76) rfl rfl Try.func64 (by kernel_rfl) rfl #[.int .i64 t282] rfl gl ?_; (with_reducible refine (spec_PutNum.calls k1 t282 t283 _ A50.out).mono ?_); rintro e w54 ⟨rfl, hb⟩; refine ⟨_, rfl, ?_⟩; replace HO_3 := am (Kd.R_below (kR HO_3) hb); replace BK249 := am (blk_below (g := gb249) (o := .cells #[.slice A0_0 l0_0.length c0_0] 30 (0, 0)) (bp BK249) hb); replace HB := am (below_step (bw HB) hb); (try clear hb); (try clear hb2); (try clear hk); (try clear hi)))
       go_ret
       exact ⟨er, bw HB⟩
      ·rw [if_neg c51] at H
       exact absurd H (by simp)
  ·rw [if_neg c5] at H
   exact absurd H (by simp)
 ·replace c3 := Bool.eq_false_iff.mpr c3
  subst c3
  have H1 : (some (⟨#[]⟩ : ByteArray)) = some r := by rw [if_neg (show ¬ (false = true) by decide)] at H; exact H
  clear H
  have H := H1
  clear H1
  obtain rfl := Option.some.inj H
  go_enter Try.func23, Try.ntmps23
  go_wp2_with (first | ((with_reducible refine gate_dst (N := 1) rfl ?_); refine box_event ?hg (N := 1) ?hd (cs := #[.slice A0_0 l0_0.length c0_0]) (t := 30) ?hr ?_; (case hd => rfl); (case hg => rfl); (case hr => exact gs); intro gb249 hg w55 hbox hb; have BK249 := am (hbox); have GW249 := am ((by rw [hg]; exact (below_size (bw HB)) : w.heap.size ≤ gb249)); have GE249 := am ((by rw [hg]; exact (below_size (bw HB)) : w.heap.size ≤ gb249)); replace HB := am (below_step (bw HB) hb); clear hb hbox hg; have hcz56_0 : w55.cell? ⟨gb249, 0, none⟩ = some (.slice A0_0 l0_0.length c0_0) := bc BK249 0; have hfz56_0 := bf BK249 0) | ((with_reducible refine gate_callee (f := 63) rfl ?_); refine goesL_ (some 9) rfl rfl Try.func63 (by kernel_rfl) rfl #[.agg #[.slice A0_0 l0_0.length c0_0]] rfl gl ?_; (with_reducible refine (spec_l04Right.calls k _ _ l0_0 false _ ?side1 ?side2 A2.out).mono ?_); (case side1 => exact cc (Kd.C_below HR0_0.out HB.out)); (case side2 => exact HC0_0.out); rintro e w57 ⟨rfl, hb⟩; refine ⟨_, rfl, ?_⟩; replace BK249 := am (blk_below (g := gb249) (o := .cells #[.slice A0_0 l0_0.length c0_0] 30 (0, 0)) (bp BK249) hb); replace HB := am (below_step (bw HB) hb); (try clear hb); (try clear hb2); (try clear hk); (try clear hi)))
  go_ret
  exact ⟨er, bw HB⟩

def impl_in.f (a0 : Int) (a1 : Int) (a2 : Int) : Option (Bool) := if a0 ≥ a1 then (some (decide (a0 ≤ a2))) else (some false)
theorem impl_in.calls (a0 : Int) (a1 : Int) (a2 : Int) (r : Bool) (w : World) (h : impl_in.f a0 a1 a2 = some r) :
  Calls Try.prog 85 #[.int .i64 a0, .int .i64 a1, .int .i64 a2] w fun e w' => e = .returned (.bool r) ∧ Drawn0 w w' := by
 have H : (if a0 ≥ a1 then (some (decide (a0 ≤ a2))) else (some false)) = some r := h
 clear h
 by_cases c4 : a0 ≥ a1
 ·rw [if_pos c4] at H
  have c4b0 : decide (a1 ≤ a0) = true := decide_eq_true c4
  clear c4
  obtain rfl := Option.some.inj H
  go_enter Try.func85, Try.ntmps85
  go_wp2
  go_ret
  exact ⟨by first | rfl | (simp; done) | (simp [*]; done), by repeat (first | exact Drawn0.refl _ | apply Drawn0.step)⟩
 ·rw [if_neg c4] at H
  have c4b0 : decide (a1 ≤ a0) = false := decide_eq_false c4
  clear c4
  obtain rfl := Option.some.inj H
  go_enter Try.func85, Try.ntmps85
  go_wp2
  go_ret
  exact ⟨by first | rfl | (simp; done) | (simp [*]; done), by repeat (first | exact Drawn0.refl _ | apply Drawn0.step)⟩

def impl_hasFunc.f (l0_0 : List (S100)) (a1 : Int) : Option (Bool) := if a1 ≥ 0 then (some (decide (a1 < (l0_0.length : Int)))) else (some false)
theorem impl_hasFunc.calls (A0_0 : Option Addr) (c0_0 : Nat) (l0_0 : List (S100)) (a1 : Int) (r : Bool) (w : World) (hr0_0 : Kd.C k100 w A0_0 l0_0.length l0_0) (hc0_0 : l0_0.length ≤ c0_0) (h : impl_hasFunc.f l0_0 a1 = some r) :
  Calls Try.prog 121 #[.agg #[.slice A0_0 l0_0.length c0_0], .int .i64 a1] w fun e w' => e = .returned (.bool r) ∧ Below w.heap.size w w' := by
 have hu30 := Try.underlying30
 have HR0_0 := am hr0_0
 have HC0_0 := am hc0_0
 clear hr0_0 hc0_0
 have HB := am (Below.refl w.heap.size w)
 have H : (if a1 ≥ 0 then (some (decide (a1 < (l0_0.length : Int)))) else (some false)) = some r := h
 clear h
 by_cases c3 : a1 ≥ 0
 ·rw [if_pos c3] at H
  have c3b0 : decide (0 ≤ a1) = true := decide_eq_true c3
  clear c3
  obtain rfl := Option.some.inj H
  go_enter Try.func121, Try.ntmps121
  go_wp2_with (first | ((with_reducible refine gate_dst (N := 2) rfl ?_); (try (refine gate_guard (by rfl) ?_; dsimp only)); refine box_event ?hg (N := 2) ?hd (cs := #[.slice A0_0 l0_0.length c0_0]) (t := 30) ?hr ?_; (case hd => rfl); (case hg => rfl); (case hr => exact gs); intro gb284 hg w4 hbox hb; have BK284 := am (hbox); have GW284 := am ((by rw [hg]; exact (below_size (bw HB)) : w.heap.size ≤ gb284)); have GE284 := am ((by rw [hg]; exact (below_size (bw HB)) : w.heap.size ≤ gb284)); replace HB := am (below_step (bw HB) hb); clear hb hbox hg; have hcz5_0 : w4.cell? ⟨gb284, 0, none⟩ = some (.slice A0_0 l0_0.length c0_0) := bc BK284 0; have hfz5_0 := bf BK284 0))
  go_ret
  exact ⟨er, bw HB⟩
 ·rw [if_neg c3] at H
  have c3b0 : decide (0 ≤ a1) = false := decide_eq_false c3
  clear c3
  obtain rfl := Option.some.inj H
  go_enter Try.func121, Try.ntmps121
  go_wp2_with (first | ((with_reducible refine gate_dst (N := 2) rfl ?_); (try (refine gate_guard (by rfl) ?_; dsimp only)); refine box_event ?hg (N := 2) ?hd (cs := #[.slice A0_0 l0_0.length c0_0]) (t := 30) ?hr ?_; (case hd => rfl); (case hg => rfl); (case hr => exact gs); intro gb284 hg w6 hbox hb; have BK284 := am (hbox); have GW284 := am ((by rw [hg]; exact (below_size (bw HB)) : w.heap.size ≤ gb284)); have GE284 := am ((by rw [hg]; exact (below_size (bw HB)) : w.heap.size ≤ gb284)); replace HB := am (below_step (bw HB) hb); clear hb hbox hg))
  go_ret
  exact ⟨er, bw HB⟩

def impl_opNames.f  : Option (List ByteArray) := some (([(⟨#[]⟩ : ByteArray), (⟨#[112, 117, 115, 104]⟩ : ByteArray), (⟨#[108, 111, 97, 100]⟩ : ByteArray), (⟨#[115, 116, 111, 114, 101]⟩ : ByteArray), (⟨#[100, 117, 112]⟩ : ByteArray), (⟨#[112, 111, 112]⟩ : ByteArray), (⟨#[]⟩ : ByteArray), (⟨#[]⟩ : ByteArray), (⟨#[]⟩ : ByteArray), (⟨#[]⟩ : ByteArray), (⟨#[97, 100, 100]⟩ : ByteArray), (⟨#[115, 117, 98]⟩ : ByteArray), (⟨#[109, 117, 108]⟩ : ByteArray), (⟨#[100, 105, 118]⟩ : ByteArray), (⟨#[114, 101, 109]⟩ : ByteArray), (⟨#[97, 110, 100]⟩ : ByteArray), (⟨#[111, 114]⟩ : ByteArray), (⟨#[120, 111, 114]⟩ : ByteArray), (⟨#[115, 104, 108]⟩ : ByteArray), (⟨#[115, 104, 114]⟩ : ByteArray), (⟨#[117, 115, 104, 114]⟩ : ByteArray), (⟨#[108, 101, 115, 115]⟩ : ByteArray), (⟨#[97, 116, 109, 111, 115, 116]⟩ : ByteArray), (⟨#[115, 97, 109, 101]⟩ : ByteArray), (⟨#[110, 101, 103]⟩ : ByteArray), (⟨#[110, 111, 116]⟩ : ByteArray), (⟨#[98, 121, 116, 101]⟩ : ByteArray), (⟨#[115, 104, 111, 114, 116]⟩ : ByteArray), (⟨#[105, 110, 116]⟩ : ByteArray), (⟨#[119, 111, 114, 100]⟩ : ByteArray), (⟨#[106, 117, 109, 112]⟩ : ByteArray), (⟨#[106, 122]⟩ : ByteArray), (⟨#[99, 97, 108, 108]⟩ : ByteArray), (⟨#[114, 101, 116]⟩ : ByteArray), (⟨#[110, 101, 119]⟩ : ByteArray), (⟨#[103, 101, 116]⟩ : ByteArray), (⟨#[115, 101, 116]⟩ : ByteArray), (⟨#[108, 101, 110]⟩ : ByteArray), (⟨#[111, 117, 116]⟩ : ByteArray)] : List ByteArray))
theorem impl_opNames.calls  (r : List ByteArray) (w : World) (h : impl_opNames.f  = some r) :
  Calls Try.prog 200 #[] w fun e w' => ∃ v0_ : Value, e = .returned (v0_) ∧ Kd.R Kd.string 9 w' w.heap.size (fun _ => True) v0_ r ∧ Below w.heap.size w w' := by
 have HB := am (Below.refl w.heap.size w)
 have H : (some (([(⟨#[]⟩ : ByteArray), (⟨#[112, 117, 115, 104]⟩ : ByteArray), (⟨#[108, 111, 97, 100]⟩ : ByteArray), (⟨#[115, 116, 111, 114, 101]⟩ : ByteArray), (⟨#[100, 117, 112]⟩ : ByteArray), (⟨#[112, 111, 112]⟩ : ByteArray), (⟨#[]⟩ : ByteArray), (⟨#[]⟩ : ByteArray), (⟨#[]⟩ : ByteArray), (⟨#[]⟩ : ByteArray), (⟨#[97, 100, 100]⟩ : ByteArray), (⟨#[115, 117, 98]⟩ : ByteArray), (⟨#[109, 117, 108]⟩ : ByteArray), (⟨#[100, 105, 118]⟩ : ByteArray), (⟨#[114, 101, 109]⟩ : ByteArray), (⟨#[97, 110, 100]⟩ : ByteArray), (⟨#[111, 114]⟩ : ByteArray), (⟨#[120, 111, 114]⟩ : ByteArray), (⟨#[115, 104, 108]⟩ : ByteArray), (⟨#[115, 104, 114]⟩ : ByteArray), (⟨#[117, 115, 104, 114]⟩ : ByteArray), (⟨#[108, 101, 115, 115]⟩ : ByteArray), (⟨#[97, 116, 109, 111, 115, 116]⟩ : ByteArray), (⟨#[115, 97, 109, 101]⟩ : ByteArray), (⟨#[110, 101, 103]⟩ : ByteArray), (⟨#[110, 111, 116]⟩ : ByteArray), (⟨#[98, 121, 116, 101]⟩ : ByteArray), (⟨#[115, 104, 111, 114, 116]⟩ : ByteArray), (⟨#[105, 110, 116]⟩ : ByteArray), (⟨#[119, 111, 114, 100]⟩ : ByteArray), (⟨#[106, 117, 109, 112]⟩ : ByteArray), (⟨#[106, 122]⟩ : ByteArray), (⟨#[99, 97, 108, 108]⟩ : ByteArray), (⟨#[114, 101, 116]⟩ : ByteArray), (⟨#[110, 101, 119]⟩ : ByteArray), (⟨#[103, 101, 116]⟩ : ByteArray), (⟨#[115, 101, 116]⟩ : ByteArray), (⟨#[108, 101, 110]⟩ : ByteArray), (⟨#[111, 117, 116]⟩ : ByteArray)] : List ByteArray))) = some r := h
 clear h
 obtain ⟨y285, hy285⟩ : ∃ y_ : List ByteArray, y_ = (([(⟨#[]⟩ : ByteArray), (⟨#[112, 117, 115, 104]⟩ : ByteArray), (⟨#[108, 111, 97, 100]⟩ : ByteArray), (⟨#[115, 116, 111, 114, 101]⟩ : ByteArray), (⟨#[100, 117, 112]⟩ : ByteArray), (⟨#[112, 111, 112]⟩ : ByteArray), (⟨#[]⟩ : ByteArray), (⟨#[]⟩ : ByteArray), (⟨#[]⟩ : ByteArray), (⟨#[]⟩ : ByteArray), (⟨#[97, 100, 100]⟩ : ByteArray), (⟨#[115, 117, 98]⟩ : ByteArray), (⟨#[109, 117, 108]⟩ : ByteArray), (⟨#[100, 105, 118]⟩ : ByteArray), (⟨#[114, 101, 109]⟩ : ByteArray), (⟨#[97, 110, 100]⟩ : ByteArray), (⟨#[111, 114]⟩ : ByteArray), (⟨#[120, 111, 114]⟩ : ByteArray), (⟨#[115, 104, 108]⟩ : ByteArray), (⟨#[115, 104, 114]⟩ : ByteArray), (⟨#[117, 115, 104, 114]⟩ : ByteArray), (⟨#[108, 101, 115, 115]⟩ : ByteArray), (⟨#[97, 116, 109, 111, 115, 116]⟩ : ByteArray), (⟨#[115, 97, 109, 101]⟩ : ByteArray), (⟨#[110, 101, 103]⟩ : ByteArray), (⟨#[110, 111, 116]⟩ : ByteArray), (⟨#[98, 121, 116, 101]⟩ : ByteArray), (⟨#[115, 104, 111, 114, 116]⟩ : ByteArray), (⟨#[105, 110, 116]⟩ : ByteArray), (⟨#[119, 111, 114, 100]⟩ : ByteArray), (⟨#[106, 117, 109, 112]⟩ : ByteArray), (⟨#[106, 122]⟩ : ByteArray), (⟨#[99, 97, 108, 108]⟩ : ByteArray), (⟨#[114, 101, 116]⟩ : ByteArray), (⟨#[110, 101, 119]⟩ : ByteArray), (⟨#[103, 101, 116]⟩ : ByteArray), (⟨#[115, 101, 116]⟩ : ByteArray), (⟨#[108, 101, 110]⟩ : ByteArray), (⟨#[111, 117, 116]⟩ : ByteArray)] : List ByteArray)) := ⟨_, rfl⟩
 replace H : (some y285) = some r := by first | (rw [hy285]; with_reducible exact H) | (have H2_ := (Option.bind_some _ _).symm.trans H; rw [hy285]; with_reducible exact H2_) | (have H2_ := (Option.bind_some _ _).symm.trans H; with_reducible exact H2_) | with_reducible exact H | (rw [hy285]; exact H) | exact H
 have Ny285 := am hy285
 clear hy285
 obtain rfl := Option.some.inj H
 go_enter Try.func200, Try.ntmps200
 go_wp2_with (first | ((with_reducible refine gate_dst (N := 1) rfl ?_); refine Kd.R_lit Kd.string _ 9 ?hg (N := 1) ?hd (xs := ([(⟨#[]⟩ : ByteArray), (⟨#[112, 117, 115, 104]⟩ : ByteArray), (⟨#[108, 111, 97, 100]⟩ : ByteArray), (⟨#[115, 116, 111, 114, 101]⟩ : ByteArray), (⟨#[100, 117, 112]⟩ : ByteArray), (⟨#[112, 111, 112]⟩ : ByteArray), (⟨#[]⟩ : ByteArray), (⟨#[]⟩ : ByteArray), (⟨#[]⟩ : ByteArray), (⟨#[]⟩ : ByteArray), (⟨#[97, 100, 100]⟩ : ByteArray), (⟨#[115, 117, 98]⟩ : ByteArray), (⟨#[109, 117, 108]⟩ : ByteArray), (⟨#[100, 105, 118]⟩ : ByteArray), (⟨#[114, 101, 109]⟩ : ByteArray), (⟨#[97, 110, 100]⟩ : ByteArray), (⟨#[111, 114]⟩ : ByteArray), (⟨#[120, 111, 114]⟩ : ByteArray), (⟨#[115, 104, 108]⟩ : ByteArray), (⟨#[115, 104, 114]⟩ : ByteArray), (⟨#[117, 115, 104, 114]⟩ : ByteArray), (⟨#[108, 101, 115, 115]⟩ : ByteArray), (⟨#[97, 116, 109, 111, 115, 116]⟩ : ByteArray), (⟨#[115, 97, 109, 101]⟩ : ByteArray), (⟨#[110, 101, 103]⟩ : ByteArray), (⟨#[110, 111, 116]⟩ : ByteArray), (⟨#[98, 121, 116, 101]⟩ : ByteArray), (⟨#[115, 104, 111, 114, 116]⟩ : ByteArray), (⟨#[105, 110, 116]⟩ : ByteArray), (⟨#[119, 111, 114, 100]⟩ : ByteArray), (⟨#[106, 117, 109, 112]⟩ : ByteArray), (⟨#[106, 122]⟩ : ByteArray), (⟨#[99, 97, 108, 108]⟩ : ByteArray), (⟨#[114, 101, 116]⟩ : ByteArray), (⟨#[110, 101, 119]⟩ : ByteArray), (⟨#[103, 101, 116]⟩ : ByteArray), (⟨#[115, 101, 116]⟩ : ByteArray), (⟨#[108, 101, 110]⟩ : ByteArray), (⟨#[111, 117, 116]⟩ : ByteArray)] : List ByteArray)) (inner := [.string (⟨#[]⟩ : ByteArray), .string (⟨#[112, 117, 115, 104]⟩ : ByteArray), .string (⟨#[108, 111, 97, 100]⟩ : ByteArray), .string (⟨#[115, 116, 111, 114, 101]⟩ : ByteArray), .string (⟨#[100, 117, 112]⟩ : ByteArray), .string (⟨#[112, 111, 112]⟩ : ByteArray), .string (⟨#[]⟩ : ByteArray), .string (⟨#[]⟩ : ByteArray), .string (⟨#[]⟩ : ByteArray), .string (⟨#[]⟩ : ByteArray), .string (⟨#[97, 100, 100]⟩ : ByteArray), .string (⟨#[115, 117, 98]⟩ : ByteArray), .string (⟨#[109, 117, 108]⟩ : ByteArray), .string (⟨#[100, 105, 118]⟩ : ByteArray), .string (⟨#[114, 101, 109]⟩ : ByteArray), .string (⟨#[97, 110, 100]⟩ : ByteArray), .string (⟨#[111, 114]⟩ : ByteArray), .string (⟨#[120, 111, 114]⟩ : ByteArray), .string (⟨#[115, 104, 108]⟩ : ByteArray), .string (⟨#[115, 104, 114]⟩ : ByteArray), .string (⟨#[117, 115, 104, 114]⟩ : ByteArray), .string (⟨#[108, 101, 115, 115]⟩ : ByteArray), .string (⟨#[97, 116, 109, 111, 115, 116]⟩ : ByteArray), .string (⟨#[115, 97, 109, 101]⟩ : ByteArray), .string (⟨#[110, 101, 103]⟩ : ByteArray), .string (⟨#[110, 111, 116]⟩ : ByteArray), .string (⟨#[98, 121, 116, 101]⟩ : ByteArray), .string (⟨#[115, 104, 111, 114, 116]⟩ : ByteArray), .string (⟨#[105, 110, 116]⟩ : ByteArray), .string (⟨#[119, 111, 114, 100]⟩ : ByteArray), .string (⟨#[106, 117, 109, 112]⟩ : ByteArray), .string (⟨#[106, 122]⟩ : ByteArray), .string (⟨#[99, 97, 108, 108]⟩ : ByteArray), .string (⟨#[114, 101, 116]⟩ : ByteArray), .string (⟨#[110, 101, 119]⟩ : ByteArray), .string (⟨#[103, 101, 116]⟩ : ByteArray), .string (⟨#[115, 101, 116]⟩ : ByteArray), .string (⟨#[108, 101, 110]⟩ : ByteArray), .string (⟨#[111, 117, 116]⟩ : ByteArray)]) (ok := fun _ => True) (okp := fun _ => True) ?hr ?hp (fun _ hk => hk) trivial (Below.refl _ _) (Nat.le_refl _) (by simp) ?_; (case hd => rfl); (case hg => rfl); (case hr => exact gs); (case hp => exact (Reps.one (show Kd.M Kd.string _ _ _ (⟨#[]⟩ : ByteArray) [.string (⟨#[]⟩ : ByteArray)] from rfl) (Reps.one (show Kd.M Kd.string _ _ _ (⟨#[112, 117, 115, 104]⟩ : ByteArray) [.string (⟨#[112, 117, 115, 104]⟩ : ByteArray)] from rfl) (Reps.one (show Kd.M Kd.string _ _ _ (⟨#[108, 111, 97, 100]⟩ : ByteArray) [.string (⟨#[108, 111, 97, 100]⟩ : ByteArray)] from rfl) (Reps.one (show Kd.M Kd.string _ _ _ (⟨#[115, 116, 111, 114, 101]⟩ : ByteArray) [.string (⟨#[115, 116, 111, 114, 101]⟩ : ByteArray)] from rfl) (Reps.one (show Kd.M Kd.string _ _ _ (⟨#[100, 117, 112]⟩ : ByteArray) [.string (⟨#[100, 117, 112]⟩ : ByteArray)] from rfl) (Reps.one (show Kd.M Kd.string _ _ _ (⟨#[112, 111, 112]⟩ : ByteArray) [.string (⟨#[112, 111, 112]⟩ : ByteArray)] from rfl) (Reps.one (show Kd.M Kd.string _ _ _ (⟨#[]⟩ : ByteArray) [.string (⟨#[]⟩ : ByteArray)] from rfl) (Reps.one (show Kd.M Kd.string _ _ _ (⟨#[]⟩ : ByteArray) [.string (⟨#[]⟩ : ByteArray)] from rfl) (Reps.one (show Kd.M Kd.string _ _ _ (⟨#[]⟩ : ByteArray) [.string (⟨#[]⟩ : ByteArray)] from rfl) (Reps.one (show Kd.M Kd.string _ _ _ (⟨#[]⟩ : ByteArray) [.string (⟨#[]⟩ : ByteArray)] from rfl) (Reps.one (show Kd.M Kd.string _ _ _ (⟨#[97, 100, 100]⟩ : ByteArray) [.string (⟨#[97, 100, 100]⟩ : ByteArray)] from rfl) (Reps.one (show Kd.M Kd.string _ _ _ (⟨#[115, 117, 98]⟩ : ByteArray) [.string (⟨#[115, 117, 98]⟩ : ByteArray)] from rfl) (Reps.one (show Kd.M Kd.string _ _ _ (⟨#[109, 117, 108]⟩ : ByteArray) [.string (⟨#[109, 117, 108]⟩ : ByteArray)] from rfl) (Reps.one (show Kd.M Kd.string _ _ _ (⟨#[100, 105, 118]⟩ : ByteArray) [.string (⟨#[100, 105, 118]⟩ : ByteArray)] from rfl) (Reps.one (show Kd.M Kd.string _ _ _ (⟨#[114, 101, 109]⟩ : ByteArray) [.string (⟨#[114, 101, 109]⟩ : ByteArray)] from rfl) (Reps.one (show Kd.M Kd.string _ _ _ (⟨#[97, 110, 100]⟩ : ByteArray) [.string (⟨#[97, 110, 100]⟩ : ByteArray)] from rfl) (Reps.one (show Kd.M Kd.string _ _ _ (⟨#[111, 114]⟩ : ByteArray) [.string (⟨#[111, 114]⟩ : ByteArray)] from rfl) (Reps.one (show Kd.M Kd.string _ _ _ (⟨#[120, 111, 114]⟩ : ByteArray) [.string (⟨#[120, 111, 114]⟩ : ByteArray)] from rfl) (Reps.one (show Kd.M Kd.string _ _ _ (⟨#[115, 104, 108]⟩ : ByteArray) [.string (⟨#[115, 104, 108]⟩ : ByteArray)] from rfl) (Reps.one (show Kd.M Kd.string _ _ _ (⟨#[115, 104, 114]⟩ : ByteArray) [.string (⟨#[115, 104, 114]⟩ : ByteArray)] from rfl) (Reps.one (show Kd.M Kd.string _ _ _ (⟨#[117, 115, 104, 114]⟩ : ByteArray) [.string (⟨#[117, 115, 104, 114]⟩ : ByteArray)] from rfl) (Reps.one (show Kd.M Kd.string _ _ _ (⟨#[108, 101, 115, 115]⟩ : ByteArray) [.string (⟨#[108, 101, 115, 115]⟩ : ByteArray)] from rfl) (Reps.one (show Kd.M Kd.string _ _ _ (⟨#[97, 116, 109, 111, 115, 116]⟩ : ByteArray) [.string (⟨#[97, 116, 109, 111, 115, 116]⟩ : ByteArray)] from rfl) (Reps.one (show Kd.M Kd.string _ _ _ (⟨#[115, 97, 109, 101]⟩ : ByteArray) [.string (⟨#[115, 97, 109, 101]⟩ : ByteArray)] from rfl) (Reps.one (show Kd.M Kd.string _ _ _ (⟨#[110, 101, 103]⟩ : ByteArray) [.string (⟨#[110, 101, 103]⟩ : ByteArray)] from rfl) (Reps.one (show Kd.M Kd.string _ _ _ (⟨#[110, 111, 116]⟩ : ByteArray) [.string (⟨#[110, 111, 116]⟩ : ByteArray)] from rfl) (Reps.one (show Kd.M Kd.string _ _ _ (⟨#[98, 121, 116, 101]⟩ : ByteArray) [.string (⟨#[98, 121, 116, 101]⟩ : ByteArray)] from rfl) (Reps.one (show Kd.M Kd.string _ _ _ (⟨#[115, 104, 111, 114, 116]⟩ : ByteArray) [.string (⟨#[115, 104, 111, 114, 116]⟩ : ByteArray)] from rfl) (Reps.one (show Kd.M Kd.string _ _ _ (⟨#[105, 110, 116]⟩ : ByteArray) [.string (⟨#[105, 110, 116]⟩ : ByteArray)] from rfl) (Reps.one (show Kd.M Kd.string _ _ _ (⟨#[119, 111, 114, 100]⟩ : ByteArray) [.string (⟨#[119, 111, 114, 100]⟩ : ByteArray)] from rfl) (Reps.one (show Kd.M Kd.string _ _ _ (⟨#[106, 117, 109, 112]⟩ : ByteArray) [.string (⟨#[106, 117, 109, 112]⟩ : ByteArray)] from rfl) (Reps.one (show Kd.M Kd.string _ _ _ (⟨#[106, 122]⟩ : ByteArray) [.string (⟨#[106, 122]⟩ : ByteArray)] from rfl) (Reps.one (show Kd.M Kd.string _ _ _ (⟨#[99, 97, 108, 108]⟩ : ByteArray) [.string (⟨#[99, 97, 108, 108]⟩ : ByteArray)] from rfl) (Reps.one (show Kd.M Kd.string _ _ _ (⟨#[114, 101, 116]⟩ : ByteArray) [.string (⟨#[114, 101, 116]⟩ : ByteArray)] from rfl) (Reps.one (show Kd.M Kd.string _ _ _ (⟨#[110, 101, 119]⟩ : ByteArray) [.string (⟨#[110, 101, 119]⟩ : ByteArray)] from rfl) (Reps.one (show Kd.M Kd.string _ _ _ (⟨#[103, 101, 116]⟩ : ByteArray) [.string (⟨#[103, 101, 116]⟩ : ByteArray)] from rfl) (Reps.one (show Kd.M Kd.string _ _ _ (⟨#[115, 101, 116]⟩ : ByteArray) [.string (⟨#[115, 101, 116]⟩ : ByteArray)] from rfl) (Reps.one (show Kd.M Kd.string _ _ _ (⟨#[108, 101, 110]⟩ : ByteArray) [.string (⟨#[108, 101, 110]⟩ : ByteArray)] from rfl) (Reps.one (show Kd.M Kd.string _ _ _ (⟨#[111, 117, 116]⟩ : ByteArray) [.string (⟨#[111, 117, 116]⟩ : ByteArray)] from rfl) (Reps.none _ _))))))))))))))))))))))))))))))))))))))))); intro v286 w1 ho2 hb hg_ hnew_; clear hg_ hnew_; (first | rw [← Ny285.out] at ho2 | (simp only [Int.reduceToNat] at ho2; rw [← Ny285.out] at ho2)); have HO287 := am (Kd.R_lower ho2 (below_size (bw HB))); replace HB := am (below_step (bw HB) hb); clear hb ho2))
 go_ret
 exact ⟨_, er, kR HO287, bw HB⟩

def impl_OpName.f (a0 : Int) : Option (ByteArray) := (impl_in.f a0 0 38).bind fun t288 => (if t288 = true then ((impl_opNames.f).bind fun t289 => (if 0 ≤ a0 then (if a0 < (t289.length : Int) then (some (rdOf ByteArray.empty t289 a0)) else (none)) else (none))) else (some (⟨#[]⟩ : ByteArray)))
theorem impl_OpName.calls (a0 : Int) (r : ByteArray) (w : World) (h : impl_OpName.f a0 = some r) :
  Calls Try.prog 192 #[.int .i64 a0] w fun e w' => e = .returned (.string r) ∧ Below w.heap.size w w' := by
 have HB := am (Below.refl w.heap.size w)
 have H : ((impl_in.f a0 0 38).bind fun t288 => (if t288 = true then ((impl_opNames.f).bind fun t289 => (if 0 ≤ a0 then (if a0 < (t289.length : Int) then (some (rdOf ByteArray.empty t289 a0)) else (none)) else (none))) else (some (⟨#[]⟩ : ByteArray)))) = some r := h
 clear h
 replace H := Option.bind_eq_some_iff.mp H
 obtain ⟨t288, A20, H⟩ := H
 replace H : (if t288 = true then ((impl_opNames.f).bind fun t289 => (if 0 ≤ a0 then (if a0 < (t289.length : Int) then (some (rdOf ByteArray.empty t289 a0)) else (none)) else (none))) else (some (⟨#[]⟩ : ByteArray))) = some r := H
 have A2 := am A20
 clear A20
 by_cases c3 : t288 = true
 ·subst c3
  have H1 : ((impl_opNames.f).bind fun t289 => (if 0 ≤ a0 then (if a0 < (t289.length : Int) then (some (rdOf ByteArray.empty t289 a0)) else (none)) else (none))) = some r := by rw [if_pos rfl] at H; exact H
  clear H
  have H := H1
  clear H1
  replace H := Option.bind_eq_some_iff.mp H
  obtain ⟨t289, A40, H⟩ := H
  replace H : (if 0 ≤ a0 then (if a0 < (t289.length : Int) then (some (rdOf ByteArray.empty t289 a0)) else (none)) else (none)) = some r := H
  have A4 := am A40
  clear A40
  by_cases c5 : 0 ≤ a0
  ·rw [if_pos c5] at H
   have c5b0 := decide_eq_true c5
   clear c5
   by_cases c6 : a0 < (t289.length : Int)
   ·rw [if_pos c6] at H
    have c6b0 := decide_eq_true c6
    clear c6
    obtain rfl := Option.some.inj H
    go_enter Try.func192, Try.ntmps192
    go_wp2_with (first | ((with_reducible refine gate_callee (f := 85) rfl ?_); refine goesL_ (some 4) rfl rfl Try.func85 (by kernel_rfl) rfl #[.int .i64 a0, .int .i64 0, .int .i64 38] rfl gl ?_; (with_reducible refine (impl_in.calls a0 0 38 true _ A2.out).mono ?_); rintro e w' ⟨rfl, ⟨nd, rfl⟩⟩; refine ⟨_, rfl, ?_⟩) | ((with_reducible refine gate_callee (f := 200) rfl ?_); refine goesL_ (some 6) rfl rfl Try.func200 (by kernel_rfl) rfl #[] rfl gl ?_; (with_reducible refine (impl_opNames.calls  t289 _ A4.out).mono ?_); rintro e w7 ⟨v290, rfl, ho0, hb⟩; refine ⟨_, rfl, ?_⟩; have HO291 := am (Kd.R_lower ho0 (below_size (bw HB))); replace HB := am (below_step (bw HB) hb); (try clear hb); (try clear hb2); (try clear hk); (try clear hi); (try clear ho0); obtain ⟨Ao8, co8, eo8⟩ := Kd.R_slice HO291.out; subst eo8; have p292 : 0 ≤ (a0 : Int) := of_decide_eq_true as1; have q292 : a0 < (t289.length : Int) := of_decide_eq_true as1; obtain ⟨ad292, e292, hx292_0⟩ := Kd.at_string (Kd.R_reads' HO291.out).2.2 a0 p292 q292; cases e292; replace p292 := eq_true p292; replace q292 := eq_true q292))
    go_ret
    exact ⟨er, bw HB⟩
   ·rw [if_neg c6] at H
    exact absurd H (by simp)
  ·rw [if_neg c5] at H
   exact absurd H (by simp)
 ·replace c3 := Bool.eq_false_iff.mpr c3
  subst c3
  have H1 : (some (⟨#[]⟩ : ByteArray)) = some r := by rw [if_neg (show ¬ (false = true) by decide)] at H; exact H
  clear H
  have H := H1
  clear H1
  obtain rfl := Option.some.inj H
  go_enter Try.func192, Try.ntmps192
  go_wp2_with (first | ((with_reducible refine gate_callee (f := 85) rfl ?_); refine goesL_ (some 4) rfl rfl Try.func85 (by kernel_rfl) rfl #[.int .i64 a0, .int .i64 0, .int .i64 38] rfl gl ?_; (with_reducible refine (impl_in.calls a0 0 38 false _ A2.out).mono ?_); rintro e w' ⟨rfl, ⟨nd, rfl⟩⟩; refine ⟨_, rfl, ?_⟩))
  go_ret
  exact ⟨er, bw HB⟩

end Go.Proofs.Ytbmjmaahcaoajaa.QFnExactFileBytes
