import Derived.Test.YtcdohkilplgmjaaCFnExactPlainx0
namespace Go.Proofs.Ytcdohkilplgmjaa.QFnExactPlain
open Go.RowKit Go.Proofs.YtcdohkilplgmjaaW
open PrintWords PrintLast PrintMore PrintShort PrintIsh
attribute [local go_sem] max2_int min2_int max_two min_two max_three min_three max_four min_four   -- for this text's walks alone
set_option linter.unusedVariables false
set_option maxHeartbeats 8000000
set_option maxRecDepth 100000
set_option linter.unusedSimpArgs false

def spec_OpName.j0 : Nat → Int → List ByteArray → List ByteArray → Bool → Option (ByteArray)
 | 0, _, _, _, _ => none
 | k + 1, x0, x3, x4, x12 => if x12 = true then (if 0 ≤ (wrap64 (x0 - 1)) then (if (wrap64 (x0 - 1)) < (x3.length : Int) then (some (rdOf ByteArray.empty x3 (wrap64 (x0 - 1)))) else (none)) else (none)) else (if x0 ≥ 10 then (if x0 ≤ 38 then (if 0 ≤ (wrap64 (x0 - 10)) then (if (wrap64 (x0 - 10)) < (x4.length : Int) then (some (rdOf ByteArray.empty x4 (wrap64 (x0 - 10)))) else (none)) else (none)) else (some (⟨#[]⟩ : ByteArray))) else (some (⟨#[]⟩ : ByteArray)))
def spec_OpName.f (k : Nat) (a0 : Int) : Option (ByteArray) := (some (([(⟨#[112, 117, 115, 104]⟩ : ByteArray), (⟨#[108, 111, 97, 100]⟩ : ByteArray), (⟨#[115, 116, 111, 114, 101]⟩ : ByteArray), (⟨#[100, 117, 112]⟩ : ByteArray), (⟨#[112, 111, 112]⟩ : ByteArray)] : List ByteArray) : List ByteArray)).bind fun y157 => ((some (([(⟨#[97, 100, 100]⟩ : ByteArray), (⟨#[115, 117, 98]⟩ : ByteArray), (⟨#[109, 117, 108]⟩ : ByteArray), (⟨#[100, 105, 118]⟩ : ByteArray), (⟨#[114, 101, 109]⟩ : ByteArray), (⟨#[97, 110, 100]⟩ : ByteArray), (⟨#[111, 114]⟩ : ByteArray), (⟨#[120, 111, 114]⟩ : ByteArray), (⟨#[115, 104, 108]⟩ : ByteArray), (⟨#[115, 104, 114]⟩ : ByteArray), (⟨#[117, 115, 104, 114]⟩ : ByteArray), (⟨#[108, 101, 115, 115]⟩ : ByteArray), (⟨#[97, 116, 109, 111, 115, 116]⟩ : ByteArray), (⟨#[115, 97, 109, 101]⟩ : ByteArray), (⟨#[110, 101, 103]⟩ : ByteArray), (⟨#[110, 111, 116]⟩ : ByteArray), (⟨#[98, 121, 116, 101]⟩ : ByteArray), (⟨#[115, 104, 111, 114, 116]⟩ : ByteArray), (⟨#[105, 110, 116]⟩ : ByteArray), (⟨#[119, 111, 114, 100]⟩ : ByteArray), (⟨#[106, 117, 109, 112]⟩ : ByteArray), (⟨#[106, 122]⟩ : ByteArray), (⟨#[99, 97, 108, 108]⟩ : ByteArray), (⟨#[114, 101, 116]⟩ : ByteArray), (⟨#[110, 101, 119]⟩ : ByteArray), (⟨#[103, 101, 116]⟩ : ByteArray), (⟨#[115, 101, 116]⟩ : ByteArray), (⟨#[108, 101, 110]⟩ : ByteArray), (⟨#[111, 117, 116]⟩ : ByteArray)] : List ByteArray) : List ByteArray)).bind fun y160 => (if a0 ≥ 1 then (spec_OpName.j0 k a0 y157 y160 (decide (a0 ≤ 5))) else (spec_OpName.j0 k a0 y157 y160 false)))
theorem spec_OpName.mono_l : ∀ k, (∀ y0 y1 y2 y3, LeO (spec_OpName.j0 k y0 y1 y2 y3) (spec_OpName.j0 (k + 1) y0 y1 y2 y3))
 | 0 => fun _ _ _ _ r h => by simp [spec_OpName.j0] at h
 | k + 1 => by
  have ih0 := spec_OpName.mono_l k
  ·intro y0 y1 y2 y3
   unfold spec_OpName.j0
   with_reducible repeat' first | exact ih0 .. | exact LeO.refl _ | exact LeO.none _ | refine LeO.ite ?_ ?_ | refine LeO.bind ?_ (fun _ => ?_)
theorem spec_OpName.mono : ∀ a0 k, LeO (spec_OpName.f k a0) (spec_OpName.f (k + 1) a0) := by
 intro a0 k
 have ih0 := spec_OpName.mono_l k
 unfold spec_OpName.f
 with_reducible repeat' first | exact ih0 .. | exact LeO.refl _ | exact LeO.none _ | refine LeO.ite ?_ ?_ | refine LeO.bind ?_ (fun _ => ?_)
theorem spec_OpName.calls (k : Nat) (a0 : Int) (r : ByteArray) (w : World) (h : spec_OpName.f k a0 = some r) :
  Calls Try.prog 78 #[.int .i64 a0] w fun e w' => e = .returned (.string r) ∧ Below w.heap.size w w' := by
 have HB := am (Below.refl w.heap.size w)
 have H : ((some (([(⟨#[112, 117, 115, 104]⟩ : ByteArray), (⟨#[108, 111, 97, 100]⟩ : ByteArray), (⟨#[115, 116, 111, 114, 101]⟩ : ByteArray), (⟨#[100, 117, 112]⟩ : ByteArray), (⟨#[112, 111, 112]⟩ : ByteArray)] : List ByteArray) : List ByteArray)).bind fun y157 => ((some (([(⟨#[97, 100, 100]⟩ : ByteArray), (⟨#[115, 117, 98]⟩ : ByteArray), (⟨#[109, 117, 108]⟩ : ByteArray), (⟨#[100, 105, 118]⟩ : ByteArray), (⟨#[114, 101, 109]⟩ : ByteArray), (⟨#[97, 110, 100]⟩ : ByteArray), (⟨#[111, 114]⟩ : ByteArray), (⟨#[120, 111, 114]⟩ : ByteArray), (⟨#[115, 104, 108]⟩ : ByteArray), (⟨#[115, 104, 114]⟩ : ByteArray), (⟨#[117, 115, 104, 114]⟩ : ByteArray), (⟨#[108, 101, 115, 115]⟩ : ByteArray), (⟨#[97, 116, 109, 111, 115, 116]⟩ : ByteArray), (⟨#[115, 97, 109, 101]⟩ : ByteArray), (⟨#[110, 101, 103]⟩ : ByteArray), (⟨#[110, 111, 116]⟩ : ByteArray), (⟨#[98, 121, 116, 101]⟩ : ByteArray), (⟨#[115, 104, 111, 114, 116]⟩ : ByteArray), (⟨#[105, 110, 116]⟩ : ByteArray), (⟨#[119, 111, 114, 100]⟩ : ByteArray), (⟨#[106, 117, 109, 112]⟩ : ByteArray), (⟨#[106, 122]⟩ : ByteArray), (⟨#[99, 97, 108, 108]⟩ : ByteArray), (⟨#[114, 101, 116]⟩ : ByteArray), (⟨#[110, 101, 119]⟩ : ByteArray), (⟨#[103, 101, 116]⟩ : ByteArray), (⟨#[115, 101, 116]⟩ : ByteArray), (⟨#[108, 101, 110]⟩ : ByteArray), (⟨#[111, 117, 116]⟩ : ByteArray)] : List ByteArray) : List ByteArray)).bind fun y160 => (if a0 ≥ 1 then (spec_OpName.j0 k a0 y157 y160 (decide (a0 ≤ 5))) else (spec_OpName.j0 k a0 y157 y160 false)))) = some r := h
 clear h
 obtain ⟨y157, hy157⟩ : ∃ y_ : List ByteArray, y_ = (([(⟨#[112, 117, 115, 104]⟩ : ByteArray), (⟨#[108, 111, 97, 100]⟩ : ByteArray), (⟨#[115, 116, 111, 114, 101]⟩ : ByteArray), (⟨#[100, 117, 112]⟩ : ByteArray), (⟨#[112, 111, 112]⟩ : ByteArray)] : List ByteArray)) := ⟨_, rfl⟩
 replace H : ((some (([(⟨#[97, 100, 100]⟩ : ByteArray), (⟨#[115, 117, 98]⟩ : ByteArray), (⟨#[109, 117, 108]⟩ : ByteArray), (⟨#[100, 105, 118]⟩ : ByteArray), (⟨#[114, 101, 109]⟩ : ByteArray), (⟨#[97, 110, 100]⟩ : ByteArray), (⟨#[111, 114]⟩ : ByteArray), (⟨#[120, 111, 114]⟩ : ByteArray), (⟨#[115, 104, 108]⟩ : ByteArray), (⟨#[115, 104, 114]⟩ : ByteArray), (⟨#[117, 115, 104, 114]⟩ : ByteArray), (⟨#[108, 101, 115, 115]⟩ : ByteArray), (⟨#[97, 116, 109, 111, 115, 116]⟩ : ByteArray), (⟨#[115, 97, 109, 101]⟩ : ByteArray), (⟨#[110, 101, 103]⟩ : ByteArray), (⟨#[110, 111, 116]⟩ : ByteArray), (⟨#[98, 121, 116, 101]⟩ : ByteArray), (⟨#[115, 104, 111, 114, 116]⟩ : ByteArray), (⟨#[105, 110, 116]⟩ : ByteArray), (⟨#[119, 111, 114, 100]⟩ : ByteArray), (⟨#[106, 117, 109, 112]⟩ : ByteArray), (⟨#[106, 122]⟩ : ByteArray), (⟨#[99, 97, 108, 108]⟩ : ByteArray), (⟨#[114, 101, 116]⟩ : ByteArray), (⟨#[110, 101, 119]⟩ : ByteArray), (⟨#[103, 101, 116]⟩ : ByteArray), (⟨#[115, 101, 116]⟩ : ByteArray), (⟨#[108, 101, 110]⟩ : ByteArray), (⟨#[111, 117, 116]⟩ : ByteArray)] : List ByteArray) : List ByteArray)).bind fun y160 => (if a0 ≥ 1 then (spec_OpName.j0 k a0 y157 y160 (decide (a0 ≤ 5))) else (spec_OpName.j0 k a0 y157 y160 false))) = some r := by first | (rw [hy157]; with_reducible exact H) | (have H2_ := (Option.bind_some _ _).symm.trans H; rw [hy157]; with_reducible exact H2_) | (have H2_ := (Option.bind_some _ _).symm.trans H; with_reducible exact H2_) | with_reducible exact H | (rw [hy157]; exact H) | exact H
 have Ny157 := am hy157
 clear hy157
 obtain ⟨y160, hy160⟩ : ∃ y_ : List ByteArray, y_ = (([(⟨#[97, 100, 100]⟩ : ByteArray), (⟨#[115, 117, 98]⟩ : ByteArray), (⟨#[109, 117, 108]⟩ : ByteArray), (⟨#[100, 105, 118]⟩ : ByteArray), (⟨#[114, 101, 109]⟩ : ByteArray), (⟨#[97, 110, 100]⟩ : ByteArray), (⟨#[111, 114]⟩ : ByteArray), (⟨#[120, 111, 114]⟩ : ByteArray), (⟨#[115, 104, 108]⟩ : ByteArray), (⟨#[115, 104, 114]⟩ : ByteArray), (⟨#[117, 115, 104, 114]⟩ : ByteArray), (⟨#[108, 101, 115, 115]⟩ : ByteArray), (⟨#[97, 116, 109, 111, 115, 116]⟩ : ByteArray), (⟨#[115, 97, 109, 101]⟩ : ByteArray), (⟨#[110, 101, 103]⟩ : ByteArray), (⟨#[110, 111, 116]⟩ : ByteArray), (⟨#[98, 121, 116, 101]⟩ : ByteArray), (⟨#[115, 104, 111, 114, 116]⟩ : ByteArray), (⟨#[105, 110, 116]⟩ : ByteArray), (⟨#[119, 111, 114, 100]⟩ : ByteArray), (⟨#[106, 117, 109, 112]⟩ : ByteArray), (⟨#[106, 122]⟩ : ByteArray), (⟨#[99, 97, 108, 108]⟩ : ByteArray), (⟨#[114, 101, 116]⟩ : ByteArray), (⟨#[110, 101, 119]⟩ : ByteArray), (⟨#[103, 101, 116]⟩ : ByteArray), (⟨#[115, 101, 116]⟩ : ByteArray), (⟨#[108, 101, 110]⟩ : ByteArray), (⟨#[111, 117, 116]⟩ : ByteArray)] : List ByteArray)) := ⟨_, rfl⟩
 replace H : (if a0 ≥ 1 then (spec_OpName.j0 k a0 y157 y160 (decide (a0 ≤ 5))) else (spec_OpName.j0 k a0 y157 y160 false)) = some r := by first | (rw [hy160]; with_reducible exact H) | (have H2_ := (Option.bind_some _ _).symm.trans H; rw [hy160]; with_reducible exact H2_) | (have H2_ := (Option.bind_some _ _).symm.trans H; with_reducible exact H2_) | with_reducible exact H | (rw [hy160]; exact H) | exact H
 have Ny160 := am hy160
 clear hy160
 have HC2 := am H
 clear H
 go_enter Try.func78, Try.ntmps78
 go_upto_region 3 with (first | ((with_reducible refine gate_dst (N := 5) rfl ?_); refine Kd.R_lit Kd.string _ 9 ?hg (N := 5) ?hd (xs := ([(⟨#[112, 117, 115, 104]⟩ : ByteArray), (⟨#[108, 111, 97, 100]⟩ : ByteArray), (⟨#[115, 116, 111, 114, 101]⟩ : ByteArray), (⟨#[100, 117, 112]⟩ : ByteArray), (⟨#[112, 111, 112]⟩ : ByteArray)] : List ByteArray)) (inner := [.string (⟨#[112, 117, 115, 104]⟩ : ByteArray), .string (⟨#[108, 111, 97, 100]⟩ : ByteArray), .string (⟨#[115, 116, 111, 114, 101]⟩ : ByteArray), .string (⟨#[100, 117, 112]⟩ : ByteArray), .string (⟨#[112, 111, 112]⟩ : ByteArray)]) (ok := fun _ => True) (okp := fun _ => True) ?hr ?hp (fun _ hk => hk) trivial (Below.refl _ _) (Nat.le_refl _) (by simp) ?_; (case hd => rfl); (case hg => rfl); (case hr => exact gs); (case hp => exact (Reps.one (show Kd.M Kd.string _ _ _ (⟨#[112, 117, 115, 104]⟩ : ByteArray) [.string (⟨#[112, 117, 115, 104]⟩ : ByteArray)] from rfl) (Reps.one (show Kd.M Kd.string _ _ _ (⟨#[108, 111, 97, 100]⟩ : ByteArray) [.string (⟨#[108, 111, 97, 100]⟩ : ByteArray)] from rfl) (Reps.one (show Kd.M Kd.string _ _ _ (⟨#[115, 116, 111, 114, 101]⟩ : ByteArray) [.string (⟨#[115, 116, 111, 114, 101]⟩ : ByteArray)] from rfl) (Reps.one (show Kd.M Kd.string _ _ _ (⟨#[100, 117, 112]⟩ : ByteArray) [.string (⟨#[100, 117, 112]⟩ : ByteArray)] from rfl) (Reps.one (show Kd.M Kd.string _ _ _ (⟨#[112, 111, 112]⟩ : ByteArray) [.string (⟨#[112, 111, 112]⟩ : ByteArray)] from rfl) (Reps.none _ _))))))); intro v158 w3 ho4 hb hg_ hnew_; clear hg_ hnew_; (first | rw [← Ny157.out] at ho4 | (simp only [Int.reduceToNat] at ho4; rw [← Ny157.out] at ho4)); have HO159 := am (Kd.R_lower ho4 (below_size (bw HB))); replace HB := bs HB hb; clear hb ho4) | ((with_reducible refine gate_dst (N := 6) rfl ?_); refine Kd.R_lit Kd.string _ 9 ?hg (N := 6) ?hd (xs := ([(⟨#[97, 100, 100]⟩ : ByteArray), (⟨#[115, 117, 98]⟩ : ByteArray), (⟨#[109, 117, 108]⟩ : ByteArray), (⟨#[100, 105, 118]⟩ : ByteArray), (⟨#[114, 101, 109]⟩ : ByteArray), (⟨#[97, 110, 100]⟩ : ByteArray), (⟨#[111, 114]⟩ : ByteArray), (⟨#[120, 111, 114]⟩ : ByteArray), (⟨#[115, 104, 108]⟩ : ByteArray), (⟨#[115, 104, 114]⟩ : ByteArray), (⟨#[117, 115, 104, 114]⟩ : ByteArray), (⟨#[108, 101, 115, 115]⟩ : ByteArray), (⟨#[97, 116, 109, 111, 115, 116]⟩ : ByteArray), (⟨#[115, 97, 109, 101]⟩ : ByteArray), (⟨#[110, 101, 103]⟩ : ByteArray), (⟨#[110, 111, 116]⟩ : ByteArray), (⟨#[98, 121, 116, 101]⟩ : ByteArray), (⟨#[115, 104, 111, 114, 116]⟩ : ByteArray), (⟨#[105, 110, 116]⟩ : ByteArray), (⟨#[119, 111, 114, 100]⟩ : ByteArray), (⟨#[106, 117, 109, 112]⟩ : ByteArray), (⟨#[106, 122]⟩ : ByteArray), (⟨#[99, 97, 108, 108]⟩ : ByteArray), (⟨#[114, 101, 116]⟩ : ByteArray), (⟨#[110, 101, 119]⟩ : ByteArray), (⟨#[103, 101, 116]⟩ : ByteArray), (⟨#[115, 101, 116]⟩ : ByteArray), (⟨#[108, 101, 110]⟩ : ByteArray), (⟨#[111, 117, 116]⟩ : ByteArray)] : List ByteArray)) (inner := [.string (⟨#[97, 100, 100]⟩ : ByteArray), .string (⟨#[115, 117, 98]⟩ : ByteArray), .string (⟨#[109, 117, 108]⟩ : ByteArray), .string (⟨#[100, 105, 118]⟩ : ByteArray), .string (⟨#[114, 101, 109]⟩ : ByteArray), .string (⟨#[97, 110, 100]⟩ : ByteArray), .string (⟨#[111, 114]⟩ : ByteArray), .string (⟨#[120, 111, 114]⟩ : ByteArray), .string (⟨#[115, 104, 108]⟩ : ByteArray), .string (⟨#[115, 104, 114]⟩ : ByteArray), .string (⟨#[117, 115, 104, 114]⟩ : ByteArray), .string (⟨#[108, 101, 115, 115]⟩ : ByteArray), .string (⟨#[97, 116, 109, 111, 115, 116]⟩ : ByteArray), .string (⟨#[115, 97, 109, 101]⟩ : ByteArray), .string (⟨#[110, 101, 103]⟩ : ByteArray), .string (⟨#[110, 111, 116]⟩ : ByteArray), .string (⟨#[98, 121, 116, 101]⟩ : ByteArray), .string (⟨#[115, 104, 111, 114, 116]⟩ : ByteArray), .string (⟨#[105, 110, 116]⟩ : ByteArray), .string (⟨#[119, 111, 114, 100]⟩ : ByteArray), .string (⟨#[106, 117, 109, 112]⟩ : ByteArray), .string (⟨#[106, 122]⟩ : ByteArray), .string (⟨#[99, 97, 108, 108]⟩ : ByteArray), .string (⟨#[114, 101, 116]⟩ : ByteArray), .string (⟨#[110, 101, 119]⟩ : ByteArray), .string (⟨#[103, 101, 116]⟩ : ByteArray), .string (⟨#[115, 101, 116]⟩ : ByteArray), .string (⟨#[108, 101, 110]⟩ : ByteArray), .string (⟨#[111, 117, 116]⟩ : ByteArray)]) (ok := fun _ => True) (okp := fun _ => True) ?hr ?hp (fun _ hk => hk) trivial (Below.refl _ _) (Nat.le_refl _) (by simp) ?_; (case hd => rfl); (case hg => rfl); (case hr => exact gs); (case hp => exact (Reps.one (show Kd.M Kd.string _ _ _ (⟨#[97, 100, 100]⟩ : ByteArray) [.string (⟨#[97, 100, 100]⟩ : ByteArray)] from rfl) (Reps.one (show Kd.M Kd.string _ _ _ (⟨#[115, 117, 98]⟩ : ByteArray) [.string (⟨#[115, 117, 98]⟩ : ByteArray)] from rfl) (Reps.one (show Kd.M Kd.string _ _ _ (⟨#[109, 117, 108]⟩ : ByteArray) [.string (⟨#[109, 117, 108]⟩ : ByteArray)] from rfl) (Reps.one (show Kd.M Kd.string _ _ _ (⟨#[100, 105, 118]⟩ : ByteArray) [.string (⟨#[100, 105, 118]⟩ : ByteArray)] from rfl) (Reps.one (show Kd.M Kd.string _ _ _ (⟨#[114, 101, 109]⟩ : ByteArray) [.string (⟨#[114, 101, 109]⟩ : ByteArray)] from rfl) (Reps.one (show Kd.M Kd.string _ _ _ (⟨#[97, 110, 100]⟩ : ByteArray) [.string (⟨#[97, 110, 100]⟩ : ByteArray)] from rfl) (Reps.one (show Kd.M Kd.string _ _ _ (⟨#[111, 114]⟩ : ByteArray) [.string (⟨#[111, 114]⟩ : ByteArray)] from rfl) (Reps.one (show Kd.M Kd.string _ _ _ (⟨#[120, 111, 114]⟩ : ByteArray) [.string (⟨#[120, 111, 114]⟩ : ByteArray)] from rfl) (Reps.one (show Kd.M Kd.string _ _ _ (⟨#[115, 104, 108]⟩ : ByteArray) [.string (⟨#[115, 104, 108]⟩ : ByteArray)] from rfl) (Reps.one (show Kd.M Kd.string _ _ _ (⟨#[115, 104, 114]⟩ : ByteArray) [.string (⟨#[115, 104, 114]⟩ : ByteArray)] from rfl) (Reps.one (show Kd.M Kd.string _ _ _ (⟨#[117, 115, 104, 114]⟩ : ByteArray) [.string (⟨#[117, 115, 104, 114]⟩ : ByteArray)] from rfl) (Reps.one (show Kd.M Kd.string _ _ _ (⟨#[108, 101, 115, 115]⟩ : ByteArray) [.string (⟨#[108, 101, 115, 115]⟩ : ByteArray)] from rfl) (Reps.one (show Kd.M Kd.string _ _ _ (⟨#[97, 116, 109, 111, 115, 116]⟩ : ByteArray) [.string (⟨#[97, 116, 109, 111, 115, 116]⟩ : ByteArray)] from rfl) (Reps.one (show Kd.M Kd.string _ _ _ (⟨#[115, 97, 109, 101]⟩ : ByteArray) [.string (⟨#[115, 97, 109, 101]⟩ : ByteArray)] from rfl) (Reps.one (show Kd.M Kd.string _ _ _ (⟨#[110, 101, 103]⟩ : ByteArray) [.string (⟨#[110, 101, 103]⟩ : ByteArray)] from rfl) (Reps.one (show Kd.M Kd.string _ _ _ (⟨#[110, 111, 116]⟩ : ByteArray) [.string (⟨#[110, 111, 116]⟩ : ByteArray)] from rfl) (Reps.one (show Kd.M Kd.string _ _ _ (⟨#[98, 121, 116, 101]⟩ : ByteArray) [.string (⟨#[98, 121, 116, 101]⟩ : ByteArray)] from rfl) (Reps.one (show Kd.M Kd.string _ _ _ (⟨#[115, 104, 111, 114, 116]⟩ : ByteArray) [.string (⟨#[115, 104, 111, 114, 116]⟩ : ByteArray)] from rfl) (Reps.one (show Kd.M Kd.string _ _ _ (⟨#[105, 110, 116]⟩ : ByteArray) [.string (⟨#[105, 110, 116]⟩ : ByteArray)] from rfl) (Reps.one (show Kd.M Kd.string _ _ _ (⟨#[119, 111, 114, 100]⟩ : ByteArray) [.string (⟨#[119, 111, 114, 100]⟩ : ByteArray)] from rfl) (Reps.one (show Kd.M Kd.string _ _ _ (⟨#[106, 117, 109, 112]⟩ : ByteArray) [.string (⟨#[106, 117, 109, 112]⟩ : ByteArray)] from rfl) (Reps.one (show Kd.M Kd.string _ _ _ (⟨#[106, 122]⟩ : ByteArray) [.string (⟨#[106, 122]⟩ : ByteArray)] from rfl) (Reps.one (show Kd.M Kd.string _ _ _ (⟨#[99, 97, 108, 108]⟩ : ByteArray) [.string (⟨#[99, 97, 108, 108]⟩ : ByteArray)] from rfl) (Reps.one (show Kd.M Kd.string _ _ _ (⟨#[114, 101, 116]⟩ : ByteArray) [.string (⟨#[114, 101, 116]⟩ : ByteArray)] from rfl) (Reps.one (show Kd.M Kd.string _ _ _ (⟨#[110, 101, 119]⟩ : ByteArray) [.string (⟨#[110, 101, 119]⟩ : ByteArray)] from rfl) (Reps.one (show Kd.M Kd.string _ _ _ (⟨#[103, 101, 116]⟩ : ByteArray) [.string (⟨#[103, 101, 116]⟩ : ByteArray)] from rfl) (Reps.one (show Kd.M Kd.string _ _ _ (⟨#[115, 101, 116]⟩ : ByteArray) [.string (⟨#[115, 101, 116]⟩ : ByteArray)] from rfl) (Reps.one (show Kd.M Kd.string _ _ _ (⟨#[108, 101, 110]⟩ : ByteArray) [.string (⟨#[108, 101, 110]⟩ : ByteArray)] from rfl) (Reps.one (show Kd.M Kd.string _ _ _ (⟨#[111, 117, 116]⟩ : ByteArray) [.string (⟨#[111, 117, 116]⟩ : ByteArray)] from rfl) (Reps.none _ _))))))))))))))))))))))))))))))); intro v161 w5 ho6 hb hg_ hnew_; clear hg_ hnew_; (first | rw [← Ny160.out] at ho6 | (simp only [Int.reduceToNat] at ho6; rw [← Ny160.out] at ho6)); have HO162 := am (Kd.R_lower (Kd.R_new' ho6 (Kd.R_lt (kR HO159))) (below_size (bw HB))); replace HO159 := am (Kd.R_elder' (kR HO159) (Kd.R_base ho6) hb); replace HB := bs HB hb; clear hb ho6))
 (try simp only [Act.put, sa, sz, ss])
 go_cut [12] (fun v12 wc => ∃ (kq : Nat) (x12_1 : Bool), v12 = .bool x12_1 ∧ Aside0 (spec_OpName.j0 kq a0 y157 y160 x12_1 = some r) ∧ Aside0 (kq ≤ k) ∧ Aside0 (Kd.R Kd.string 9 wc w.heap.size (fun k_ => some k_ ≠ (v161 : Value).ownBlock) v158 y157) ∧ Aside0 (Kd.R Kd.string 9 wc w.heap.size (fun k_ => some k_ ≠ (v158 : Value).ownBlock) v161 y160) ∧ Aside0 (Below w.heap.size w wc))
 case first =>
  have H := HC2.out
  clear HC2
  refine qL H ?_ ?_ <;> clear H <;> intro c7b0 H
  ·(first | rw [c7b0] | (simp only [i64_w, i32_w]; rw [c7b0]) | skip)
   have H' := am H
   clear H
   go_wp2
   go_meet
   case rel => exact ⟨_, (decide (a0 ≤ 5)), dr, H', ⟨lk0⟩, ⟨by (with_reducible repeat (first | apply Kd.R_alloc | apply Kd.R_drewN | apply Kd.R_drew)); exact Kd.R_mono HO159.out (fun _ hk => hk.2)⟩, ⟨by (with_reducible repeat (first | apply Kd.R_alloc | apply Kd.R_drewN | apply Kd.R_drew)); exact Kd.R_mono HO162.out (fun _ hk => hk.2)⟩, ⟨bw HB⟩⟩
  (first | rw [c7b0] | (simp only [i64_w, i32_w]; rw [c7b0]) | skip)
  have H' := am H
  clear H
  go_wp2
  go_meet
  case rel => exact ⟨_, (false), dr, H', ⟨lk0⟩, ⟨by (with_reducible repeat (first | apply Kd.R_alloc | apply Kd.R_drewN | apply Kd.R_drew)); exact Kd.R_mono HO159.out (fun _ hk => hk.2)⟩, ⟨by (with_reducible repeat (first | apply Kd.R_alloc | apply Kd.R_drewN | apply Kd.R_drew)); exact Kd.R_mono HO162.out (fun _ hk => hk.2)⟩, ⟨bw HB⟩⟩
 clear HC2
 (try clear p2); (try clear c7); (try clear c7b0)
 obtain ⟨kq, x12_1, rfl, HA, HJ1, HO_3, HO_4, HB⟩ := hcut
 rcases kq with _ | kj1
 ·exact absurd HA.out (by simp [spec_OpName.j0])
 have H := HA.out
 clear HA
 simp only [spec_OpName.j0] at H
 refine qT H ?_ ?_ <;> clear H <;> intro c8 H <;> subst c8
 ·obtain ⟨ji9, hji9⟩ : ∃ j_ : Int, (wrap64 (a0 - 1)) = j_ := ⟨_, rfl⟩
  replace H : (if 0 ≤ (ji9) then (if (ji9) < (y157.length : Int) then (some (rdOf ByteArray.empty y157 (ji9))) else (none)) else (none)) = some r := by first | (rw [hji9] at H; exact H) | (simp only [hji9] at H ⊢; exact H)
  have hji9w : (IntKind.i64.wrap (a0 - 1)) = ji9 := (i64_w _).trans hji9
  refine iM H ?_; clear H; intro c10b0 H
  refine iM H ?_; clear H; intro c11b0 H
  obtain rfl := Option.some.inj H
  obtain ⟨Ao12, co12, eo12⟩ := Kd.R_slice HO_3.out
  subst eo12
  have p163 : 0 ≤ ((ji9) : Int) := of_decide_eq_true as1
  have q163 : (ji9) < (y157.length : Int) := of_decide_eq_true as1
  obtain ⟨ad163, e163, hx163_0⟩ := Kd.at_string (Kd.R_reads' HO_3.out).2.2 (ji9) p163 q163
  cases e163
  replace p163 := eq_true p163
  replace q163 := eq_true q163
  go_wp2
  go_ret
  exact ⟨by first | rfl | (simp [errW_none, errW_some] <;> rfl) | (simp only [← hji9]; first | rfl | (simp [errW_none, errW_some] <;> rfl)) | (simp [*, errW_none, errW_some] <;> rfl), bw HB⟩
 refine qL H ?_ ?_ <;> clear H <;> intro c13b0 H
 ·refine qI H ?_ ?_ <;> clear H <;> intro c14b0 H
  ·obtain ⟨ji15, hji15⟩ : ∃ j_ : Int, (wrap64 (a0 - 10)) = j_ := ⟨_, rfl⟩
   replace H : (if 0 ≤ (ji15) then (if (ji15) < (y160.length : Int) then (some (rdOf ByteArray.empty y160 (ji15))) else (none)) else (none)) = some r := by first | (rw [hji15] at H; exact H) | (simp only [hji15] at H ⊢; exact H)
   have hji15w : (IntKind.i64.wrap (a0 - 10)) = ji15 := (i64_w _).trans hji15
   refine iM H ?_; clear H; intro c16b0 H
   refine iM H ?_; clear H; intro c17b0 H
   obtain rfl := Option.some.inj H
   obtain ⟨Ao18, co18, eo18⟩ := Kd.R_slice HO_4.out
   subst eo18
   have p164 : 0 ≤ ((ji15) : Int) := of_decide_eq_true as1
   have q164 : (ji15) < (y160.length : Int) := of_decide_eq_true as1
   obtain ⟨ad164, e164, hx164_0⟩ := Kd.at_string (Kd.R_reads' HO_4.out).2.2 (ji15) p164 q164
   cases e164
   replace p164 := eq_true p164
   replace q164 := eq_true q164
   go_wp2
   go_ret
   exact ⟨by first | rfl | (simp [errW_none, errW_some] <;> rfl) | (simp only [← hji15]; first | rfl | (simp [errW_none, errW_some] <;> rfl)) | (simp [*, errW_none, errW_some] <;> rfl), bw HB⟩
  obtain rfl := Option.some.inj H
  go_wp2
  go_ret
  exact ⟨er, bw HB⟩
 obtain rfl := Option.some.inj H
 go_wp2
 go_ret
 exact ⟨er, bw HB⟩

mutual
def spec_InsRight.j0 : Nat → Int → Bool → List (S53) → Int → Int → Option (Bool)
 | 0, _, _, _, _, _ => none
 | k + 1, x1, x15, x166000, x167000, x167001 => if x15 = true then (some false) else (if x167000 = 1 then (some true) else (if x167000 = 2 then (spec_InsRight.j1 k x1 x167000 (x167000 == 2) x166000 x167000 x167001) else (spec_InsRight.j1 k x1 x167000 (x167000 == 3) x166000 x167000 x167001)))
def spec_InsRight.j1 : Nat → Int → Int → Bool → List (S53) → Int → Int → Option (Bool)
 | 0, _, _, _, _, _, _ => none
 | k + 1, x1, x17, x20, x166000, x167000, x167001 => if x20 = true then (if x167001 ≥ 0 then (if 0 ≤ x1 then (if x1 < (x166000.length : Int) then (some (decide (x167001 < ((rd_T53 x166000 x1).f1)))) else (none)) else (none)) else (some false)) else (if x17 = 30 then (spec_InsRight.j2 k x1 x17 (x17 == 30) x166000 x167000 x167001) else (spec_InsRight.j2 k x1 x17 (x17 == 31) x166000 x167000 x167001))
def spec_InsRight.j2 : Nat → Int → Int → Bool → List (S53) → Int → Int → Option (Bool)
 | 0, _, _, _, _, _, _ => none
 | k + 1, x1, x17, x37, x166000, x167000, x167001 => if x37 = true then (if x167001 ≥ 0 then (if 0 ≤ x1 then (if x1 < (x166000.length : Int) then (some (decide (x167001 < (((rd_T53 x166000 x1).f2).length : Int)))) else (none)) else (none)) else (some false)) else (if x17 = 32 then (if x167001 ≥ 0 then (some (decide (x167001 < (x166000.length : Int)))) else (some false)) else ((spec_OpName.f k x167000).bind fun t169 => (if t169.toList = ([] : List UInt8) then (some false) else (some (x167001 == 0)))))
end
def spec_InsRight.f (k : Nat) (l0_0 : List (S53)) (a1 : Int) (a2_0 : Int) (a2_1 : Int) : Option (Bool) := if a1 < 0 then (spec_InsRight.j0 k a1 true l0_0 a2_0 a2_1) else (spec_InsRight.j0 k a1 (decide (a1 ≥ (l0_0.length : Int))) l0_0 a2_0 a2_1)
theorem spec_InsRight.mono_l : ∀ k, (∀ y0 y1 y2 y3 y4, LeO (spec_InsRight.j0 k y0 y1 y2 y3 y4) (spec_InsRight.j0 (k + 1) y0 y1 y2 y3 y4)) ∧ (∀ y0 y1 y2 y3 y4 y5, LeO (spec_InsRight.j1 k y0 y1 y2 y3 y4 y5) (spec_InsRight.j1 (k + 1) y0 y1 y2 y3 y4 y5)) ∧ (∀ y0 y1 y2 y3 y4 y5, LeO (spec_InsRight.j2 k y0 y1 y2 y3 y4 y5) (spec_InsRight.j2 (k + 1) y0 y1 y2 y3 y4 y5))
 | 0 => ⟨fun _ _ _ _ _ r h => by simp [spec_InsRight.j0] at h, fun _ _ _ _ _ _ r h => by simp [spec_InsRight.j1] at h, fun _ _ _ _ _ _ r h => by simp [spec_InsRight.j2] at h⟩
 | k + 1 => by
  obtain ⟨ih0, ih1, ih2⟩ := spec_InsRight.mono_l k
  refine ⟨?_, ?_, ?_⟩
  ·intro y0 y1 y2 y3 y4
   unfold spec_InsRight.j0
   with_reducible repeat' first | exact ih0 .. | exact ih1 .. | exact ih2 .. | exact spec_OpName.mono .. | exact LeO.refl _ | exact LeO.none _ | refine LeO.ite ?_ ?_ | refine LeO.bind ?_ (fun _ => ?_)
  ·intro y0 y1 y2 y3 y4 y5
   unfold spec_InsRight.j1
   with_reducible repeat' first | exact ih0 .. | exact ih1 .. | exact ih2 .. | exact spec_OpName.mono .. | exact LeO.refl _ | exact LeO.none _ | refine LeO.ite ?_ ?_ | refine LeO.bind ?_ (fun _ => ?_)
  ·intro y0 y1 y2 y3 y4 y5
   unfold spec_InsRight.j2
   with_reducible repeat' first | exact ih0 .. | exact ih1 .. | exact ih2 .. | exact spec_OpName.mono .. | exact LeO.refl _ | exact LeO.none _ | refine LeO.ite ?_ ?_ | refine LeO.bind ?_ (fun _ => ?_)
theorem spec_InsRight.mono : ∀ a0 a1 a2 a3 k, LeO (spec_InsRight.f k a0 a1 a2 a3) (spec_InsRight.f (k + 1) a0 a1 a2 a3) := by
 intro a0 a1 a2 a3 k
 obtain ⟨ih0, ih1, ih2⟩ := spec_InsRight.mono_l k
 unfold spec_InsRight.f
 with_reducible repeat' first | exact ih0 .. | exact ih1 .. | exact ih2 .. | exact spec_OpName.mono .. | exact LeO.refl _ | exact LeO.none _ | refine LeO.ite ?_ ?_ | refine LeO.bind ?_ (fun _ => ?_)
theorem spec_InsRight.calls (k : Nat) (A0_0 : Option Addr) (c0_0 : Nat) (l0_0 : List (S53)) (a1 : Int) (a2_0 : Int) (a2_1 : Int) (r : Bool) (w : World) (hr0_0 : Kd.C k53 w A0_0 l0_0.length l0_0) (hc0_0 : l0_0.length ≤ c0_0) (h : spec_InsRight.f k l0_0 a1 a2_0 a2_1 = some r) :
  Calls Try.prog 75 #[.agg #[.slice A0_0 l0_0.length c0_0], .int .i64 a1, .agg #[.int .i64 a2_0, .int .i64 a2_1]] w fun e w' => e = .returned (.bool r) ∧ Below w.heap.size w w' := by
 have hu33 := Try.underlying33
 have hu59 := Try.underlying59
 have HR0_0 := am hr0_0
 have HC0_0 := am hc0_0
 clear hr0_0 hc0_0
 have HB := am (Below.refl w.heap.size w)
 have H : (if a1 < 0 then (spec_InsRight.j0 k a1 true l0_0 a2_0 a2_1) else (spec_InsRight.j0 k a1 (decide (a1 ≥ (l0_0.length : Int))) l0_0 a2_0 a2_1)) = some r := h
 clear h
 have HC4 := am H
 clear H
 go_enter Try.func75, Try.ntmps75
 go_upto_region 1 with (first | ((with_reducible refine gate_dst (N := 3) rfl ?_); (try (refine gate_guard (by rfl) ?_; dsimp only)); refine box_event ?hg (N := 3) ?hd (cs := #[.slice A0_0 l0_0.length c0_0]) (t := 33) ?hr ?_; (case hd => rfl); (case hg => rfl); (case hr => exact gs); intro gb165 hg w5 hbox hb; have BK165 := am (hbox); have GW165 := gw hg HB; replace HB := bs HB hb; clear hb hbox hg) | ((with_reducible refine gate_dst (N := 5) rfl ?_); (try (refine gate_guard (by rfl) ?_; dsimp only)); refine box_event ?hg (N := 5) ?hd (cs := #[.int .i64 a2_0, .int .i64 a2_1]) (t := 59) ?hr ?_; (case hd => rfl); (case hg => rfl); (case hr => exact gs); intro gb166 hg w6 hbox hb; have BK166 := am (hbox); have GW166 := gw hg HB; replace HB := bs HB hb; obtain ⟨NB165_166, NB166_165, BK165⟩ := b3 hg BK165 hb; clear hb hbox hg))
 repeat (go_quiet (first | ((with_reducible refine gate_dst (N := 3) rfl ?_); (try (refine gate_guard (by rfl) ?_; dsimp only)); refine box_event ?hg (N := 3) ?hd (cs := #[.slice A0_0 l0_0.length c0_0]) (t := 33) ?hr ?_; (case hd => rfl); (case hg => rfl); (case hr => exact gs); intro gb165 hg w5 hbox hb; have BK165 := am (hbox); have GW165 := gw hg HB; replace HB := bs HB hb; clear hb hbox hg) | ((with_reducible refine gate_dst (N := 5) rfl ?_); (try (refine gate_guard (by rfl) ?_; dsimp only)); refine box_event ?hg (N := 5) ?hd (cs := #[.int .i64 a2_0, .int .i64 a2_1]) (t := 59) ?hr ?_; (case hd => rfl); (case hg => rfl); (case hr => exact gs); intro gb166 hg w6 hbox hb; have BK166 := am (hbox); have GW166 := gw hg HB; replace HB := bs HB hb; obtain ⟨NB165_166, NB166_165, BK165⟩ := b3 hg BK165 hb; clear hb hbox hg)); go_upto_region 1 with (first | ((with_reducible refine gate_dst (N := 3) rfl ?_); (try (refine gate_guard (by rfl) ?_; dsimp only)); refine box_event ?hg (N := 3) ?hd (cs := #[.slice A0_0 l0_0.length c0_0]) (t := 33) ?hr ?_; (case hd => rfl); (case hg => rfl); (case hr => exact gs); intro gb165 hg w5 hbox hb; have BK165 := am (hbox); have GW165 := gw hg HB; replace HB := bs HB hb; clear hb hbox hg) | ((with_reducible refine gate_dst (N := 5) rfl ?_); (try (refine gate_guard (by rfl) ?_; dsimp only)); refine box_event ?hg (N := 5) ?hd (cs := #[.int .i64 a2_0, .int .i64 a2_1]) (t := 59) ?hr ?_; (case hd => rfl); (case hg => rfl); (case hr => exact gs); intro gb166 hg w6 hbox hb; have BK166 := am (hbox); have GW166 := gw hg HB; replace HB := bs HB hb; obtain ⟨NB165_166, NB166_165, BK165⟩ := b3 hg BK165 hb; clear hb hbox hg)))
 (try simp only [Act.put, sa, sz, ss])
 go_cut [15] (fun v15 wc => ∃ (kq : Nat) (x15_3 : Bool), v15 = .bool x15_3 ∧ Aside0 (spec_InsRight.j0 kq a1 x15_3 l0_0 a2_0 a2_1 = some r) ∧ Aside0 (kq ≤ k) ∧ Aside0 (wc.heap[gb165]? = some (.cells #[(.slice A0_0 l0_0.length c0_0)] 33 (0, 0))) ∧ Aside0 (wc.heap[gb166]? = some (.cells #[.int .i64 a2_0, .int .i64 a2_1] 59 (0, 0))) ∧ Aside0 (Below w.heap.size w wc))
 case first =>
  have H := HC4.out
  clear HC4
  refine qI H ?_ ?_ <;> clear H <;> intro c7b0 H
  ·(first | rw [c7b0] | (simp only [i64_w, i32_w]; rw [c7b0]) | skip)
   have H' := am H
   clear H
   go_wp2
   repeat (go_quiet (fail); try go_wp2)
   go_meet
   case rel => exact ⟨_, (true), dr, H', ⟨lk0⟩, ⟨bp BK165⟩, ⟨bp BK166⟩, ⟨bw HB⟩⟩
  (first | rw [c7b0] | (simp only [i64_w, i32_w]; rw [c7b0]) | skip)
  have H' := am H
  clear H
  have hnb8 := NB165_166.out
  have hnc8 := NB166_165.out
  have hcz9 := bK w6 BK165
  have hfz9 := bF BK165
  go_wp2
  repeat (go_quiet (fail); try go_wp2)
  go_meet
  case rel => exact ⟨_, (decide (a1 ≥ (l0_0.length : Int))), dr, H', ⟨lk0⟩, ⟨bp BK165⟩, ⟨bp BK166⟩, ⟨bw HB⟩⟩
 clear HC4
 (try clear p2); (try clear c7); (try clear c7b0); (try clear c8); (try clear hcz9); (try clear hfz9)
 obtain ⟨kq, x15_3, rfl, HA, HJ3, BK165, BK166, HB⟩ := hcut
 rcases kq with _ | kj3
 ·exact absurd HA.out (by simp [spec_InsRight.j0])
 have H := HA.out
 clear HA
 simp only [spec_InsRight.j0] at H
 refine qT H ?_ ?_ <;> clear H <;> intro c10 H <;> subst c10
 ·obtain rfl := Option.some.inj H
  go_wp2
  repeat (go_quiet (fail); try go_wp2)
  go_ret
  exact ⟨er, bw HB⟩
 refine qE H ?_ ?_ <;> clear H
 ·intro c11b0 c11b1 H
  obtain rfl := Option.some.inj H
  have hnb12 := NB166_165.out
  have hnc12 := NB165_166.out
  have hcz13 := bK wc BK166
  have hfz13 := bF BK166
  go_wp2
  repeat (go_quiet (fail); try go_wp2)
  go_ret
  exact ⟨er, bw HB⟩
 intro c11 c11b0 c11b1 H
 have HC14 := am H
 clear H
 have hnb15 := NB166_165.out
 have hnc15 := NB165_166.out
 have hcz16 := bK wc BK166
 have hfz16 := bF BK166
 go_upto_if 20 with (fail)
 repeat (go_quiet (fail); go_upto_if 20 with (fail))
 go_cut [20] (fun v20 wc => ∃ (kq : Nat) (x20_13 : Bool), v20 = .bool x20_13 ∧ Aside0 (spec_InsRight.j1 kq a1 a2_0 x20_13 l0_0 a2_0 a2_1 = some r) ∧ Aside0 (kq ≤ kj3) ∧ Aside0 (wc.heap[gb165]? = some (.cells #[(.slice A0_0 l0_0.length c0_0)] 33 (0, 0))) ∧ Aside0 (wc.heap[gb166]? = some (.cells #[.int .i64 a2_0, .int .i64 a2_1] 59 (0, 0))) ∧ Aside0 (Below w.heap.size w wc))
 case first =>
  have H := HC14.out
  clear HC14
  refine qE H ?_ ?_ <;> clear H
  ·intro c17b0 c17b1 H
   (first | rw [c17b0] | (simp only [i64_w, i32_w]; rw [c17b0]) | skip)
   have H' := am H
   clear H
   go_wp2
   repeat (go_quiet (fail); try go_wp2)
   go_meet
   case rel => exact ⟨_, ((a2_0 == 2)), dr, H', ⟨lk1 HJ3⟩, ⟨bp BK165⟩, ⟨bp BK166⟩, ⟨bw HB⟩⟩
  intro c17 c17b0 c17b1 H
  (first | rw [c17b0] | (simp only [i64_w, i32_w]; rw [c17b0]) | skip)
  have H' := am H
  clear H
  go_wp2
  repeat (go_quiet (fail); try go_wp2)
  go_meet
  case rel => exact ⟨_, ((a2_0 == 3)), dr, H', ⟨lk1 HJ3⟩, ⟨bp BK165⟩, ⟨bp BK166⟩, ⟨bw HB⟩⟩
 clear HC14
 (try clear c1); (try clear c10); (try clear c11); (try clear c11b0); (try clear c11b1); (try clear c12); (try clear c15); (try clear c17); (try clear c17b0); (try clear c17b1); (try clear hcz13); (try clear hcz16); (try clear hfz13); (try clear hfz16)
 obtain ⟨kq, x20_13, rfl, HA, HJ13, BK165, BK166, HB⟩ := hcut
 rcases kq with _ | kj13
 ·exact absurd HA.out (by simp [spec_InsRight.j1])
 have H := HA.out
 clear HA
 simp only [spec_InsRight.j1] at H
 refine qT H ?_ ?_ <;> clear H <;> intro c18 H <;> subst c18
 ·refine qL H ?_ ?_ <;> clear H <;> intro c19b0 H
  ·refine iM H ?_; clear H; intro c20b0 H
   refine iM H ?_; clear H; intro c21b0 H
   obtain rfl := Option.some.inj H
   have hnb22 := NB166_165.out
   have hnc22 := NB165_166.out
   have hcz23 := bK wc BK166
   have hfz23 := bF BK166
   have hcz24 := bK wc BK165
   have hfz24 := bF BK165
   have p167 : 0 ≤ (a1 : Int) := of_decide_eq_true as1
   have q167 : a1 < (l0_0.length : Int) := of_decide_eq_true as1
   obtain ⟨ad167, A167_2, c167_2, e167, hx167_0, hx167_1, hx167_2, hl167_2, hi167_2⟩ := at_T53 HR0_0.out a1 p167 q167
   cases e167
   replace hx167_0 := cl HB hx167_0
   replace hx167_1 := cl HB hx167_1
   replace hx167_2 := cl HB hx167_2
   have HR167_2 := am hi167_2
   have HC167_2 := am hl167_2
   clear hi167_2 hl167_2
   replace p167 := eq_true p167
   replace q167 := eq_true q167
   go_wp2
   repeat (go_quiet (fail); try go_wp2)
   go_ret
   exact ⟨er, bw HB⟩
  obtain rfl := Option.some.inj H
  have hnb25 := NB166_165.out
  have hnc25 := NB165_166.out
  have hcz26 := bK wc BK166
  have hfz26 := bF BK166
  go_wp2
  repeat (go_quiet (fail); try go_wp2)
  go_ret
  exact ⟨er, bw HB⟩
 have HC27 := am H
 clear H
 go_upto_if 37 with (fail)
 repeat (go_quiet (fail); go_upto_if 37 with (fail))
 go_cut [37] (fun v37 wc => ∃ (kq : Nat) (x37_26 : Bool), v37 = .bool x37_26 ∧ Aside0 (spec_InsRight.j2 kq a1 a2_0 x37_26 l0_0 a2_0 a2_1 = some r) ∧ Aside0 (kq ≤ kj13) ∧ Aside0 (wc.heap[gb165]? = some (.cells #[(.slice A0_0 l0_0.length c0_0)] 33 (0, 0))) ∧ Aside0 (wc.heap[gb166]? = some (.cells #[.int .i64 a2_0, .int .i64 a2_1] 59 (0, 0))) ∧ Aside0 (Below w.heap.size w wc))
 case first =>
  have H := HC27.out
  clear HC27
  refine qE H ?_ ?_ <;> clear H
  ·intro c28b0 c28b1 H
   (first | rw [c28b0] | (simp only [i64_w, i32_w]; rw [c28b0]) | skip)
   have H' := am H
   clear H
   go_wp2
   repeat (go_quiet (fail); try go_wp2)
   go_meet
   case rel => exact ⟨_, ((a2_0 == 30)), dr, H', ⟨lk2 HJ3 HJ13⟩, ⟨bp BK165⟩, ⟨bp BK166⟩, ⟨bw HB⟩⟩
  intro c28 c28b0 c28b1 H
  (first | rw [c28b0] | (simp only [i64_w, i32_w]; rw [c28b0]) | skip)
  have H' := am H
  clear H
  go_wp2
  repeat (go_quiet (fail); try go_wp2)
  go_meet
  case rel => exact ⟨_, ((a2_0 == 31)), dr, H', ⟨lk2 HJ3 HJ13⟩, ⟨bp BK165⟩, ⟨bp BK166⟩, ⟨bw HB⟩⟩
 clear HC27
 (try clear p1); (try clear q1); (try clear hx1); (try clear c2); (try clear c16); (try clear p16); (try clear q16); (try clear hx16); (try clear c18); (try clear c19); (try clear c19b0); (try clear c20); (try clear c20b0); (try clear c21); (try clear c21b0); (try clear c22); (try clear c25); (try clear c28); (try clear c28b0); (try clear c28b1); (try clear hcz23); (try clear hcz24); (try clear hcz26); (try clear hfz23); (try clear hfz24); (try clear hfz26); (try clear hx167_0); (try clear hx167_1); (try clear hx167_2); (try clear p167); (try clear q167)
 obtain ⟨kq, x37_26, rfl, HA, HJ26, BK165, BK166, HB⟩ := hcut
 rcases kq with _ | kj26
 ·exact absurd HA.out (by simp [spec_InsRight.j2])
 have H := HA.out
 clear HA
 simp only [spec_InsRight.j2] at H
 refine qT H ?_ ?_ <;> clear H <;> intro c29 H <;> subst c29
 ·refine qL H ?_ ?_ <;> clear H <;> intro c30b0 H
  ·refine iM H ?_; clear H; intro c31b0 H
   refine iM H ?_; clear H; intro c32b0 H
   obtain rfl := Option.some.inj H
   have hnb33 := NB166_165.out
   have hnc33 := NB165_166.out
   have hcz34 := bK wc BK166
   have hfz34 := bF BK166
   have hcz35 := bK wc BK165
   have hfz35 := bF BK165
   have p168 : 0 ≤ (a1 : Int) := of_decide_eq_true as1
   have q168 : a1 < (l0_0.length : Int) := of_decide_eq_true as1
   obtain ⟨ad168, A168_2, c168_2, e168, hx168_0, hx168_1, hx168_2, hl168_2, hi168_2⟩ := at_T53 HR0_0.out a1 p168 q168
   cases e168
   replace hx168_0 := cl HB hx168_0
   replace hx168_1 := cl HB hx168_1
   replace hx168_2 := cl HB hx168_2
   have HR168_2 := am hi168_2
   have HC168_2 := am hl168_2
   clear hi168_2 hl168_2
   replace p168 := eq_true p168
   replace q168 := eq_true q168
   go_wp2
   repeat (go_quiet (fail); try go_wp2)
   go_ret
   exact ⟨er, bw HB⟩
  obtain rfl := Option.some.inj H
  have hnb36 := NB166_165.out
  have hnc36 := NB165_166.out
  have hcz37 := bK wc BK166
  have hfz37 := bF BK166
  go_wp2
  repeat (go_quiet (fail); try go_wp2)
  go_ret
  exact ⟨er, bw HB⟩
 refine qE H ?_ ?_ <;> clear H
 ·intro c38b0 c38b1 H
  refine qL H ?_ ?_ <;> clear H <;> intro c39b0 H
  ·obtain rfl := Option.some.inj H
   have hnb40 := NB166_165.out
   have hnc40 := NB165_166.out
   have hcz41 := bK wc BK166
   have hfz41 := bF BK166
   have hcz42 := bK wc BK165
   have hfz42 := bF BK165
   go_wp2
   repeat (go_quiet (fail); try go_wp2)
   go_ret
   exact ⟨er, bw HB⟩
  obtain rfl := Option.some.inj H
  have hnb43 := NB166_165.out
  have hnc43 := NB165_166.out
  have hcz44 := bK wc BK166
  have hfz44 := bF BK166
  go_wp2
  repeat (go_quiet (fail); try go_wp2)
  go_ret
  exact ⟨er, bw HB⟩
 intro c38 c38b0 c38b1 H
 refine be H ?_; clear H; intro t169 A45 H
 by_cases c46 : t169.toList = ([] : List UInt8)
 ·rw [if_pos c46] at H
  have c46b0 : (t169.toList == ([] : List UInt8)) = true := beq_iff_eq.mpr c46
  have c46b1 : (t169.toList != ([] : List UInt8)) = false := bne_eq_false_iff_eq.mpr c46
  clear c46
  obtain rfl := Option.some.inj H
  have hnb47 := NB166_165.out
  have hnc47 := NB165_166.out
  have hcz48 := bK wc BK166
  have hfz48 := bF BK166
  go_wp2_with (first | (go_at_call 78; (with_reducible refine (spec_OpName.calls kj26 a2_0 t169 _ A45.out).mono ?_); rintro e w49 ⟨rfl, hb⟩; replace BK165 := bb BK165 hb; replace BK166 := bb BK166 hb; replace HB := bs HB hb; clear hb))
  repeat (go_quiet (first | (go_at_call 78; (with_reducible refine (spec_OpName.calls kj26 a2_0 t169 _ A45.out).mono ?_); rintro e w49 ⟨rfl, hb⟩; replace BK165 := bb BK165 hb; replace BK166 := bb BK166 hb; replace HB := bs HB hb; clear hb)); try go_wp2_with (first | (go_at_call 78; (with_reducible refine (spec_OpName.calls kj26 a2_0 t169 _ A45.out).mono ?_); rintro e w49 ⟨rfl, hb⟩; replace BK165 := bb BK165 hb; replace BK166 := bb BK166 hb; replace HB := bs HB hb; clear hb)))
  go_ret
  exact ⟨er, bw HB⟩
 rw [if_neg c46] at H
 have c46b0 : (t169.toList == ([] : List UInt8)) = false := beq_eq_false_iff_ne.mpr c46
 have c46b1 : (t169.toList != ([] : List UInt8)) = true := bne_iff_ne.mpr c46
 obtain rfl := Option.some.inj H
 have hnb50 := NB166_165.out
 have hnc50 := NB165_166.out
 have hcz51 := bK wc BK166
 have hfz51 := bF BK166
 go_wp2_with (first | (go_at_call 78; (with_reducible refine (spec_OpName.calls kj26 a2_0 t169 _ A45.out).mono ?_); rintro e w52 ⟨rfl, hb⟩; replace BK165 := bb BK165 hb; replace BK166 := bb BK166 hb; replace HB := bs HB hb; clear hb; have hcz53 := bK w52 BK166; have hfz53 := bF BK166))
 repeat (go_quiet (first | (go_at_call 78; (with_reducible refine (spec_OpName.calls kj26 a2_0 t169 _ A45.out).mono ?_); rintro e w52 ⟨rfl, hb⟩; replace BK165 := bb BK165 hb; replace BK166 := bb BK166 hb; replace HB := bs HB hb; clear hb; have hcz53 := bK w52 BK166; have hfz53 := bF BK166)); try go_wp2_with (first | (go_at_call 78; (with_reducible refine (spec_OpName.calls kj26 a2_0 t169 _ A45.out).mono ?_); rintro e w52 ⟨rfl, hb⟩; replace BK165 := bb BK165 hb; replace BK166 := bb BK166 hb; replace HB := bs HB hb; clear hb; have hcz53 := bK w52 BK166; have hfz53 := bF BK166)))
 go_ret
 exact ⟨er, bw HB⟩

end Go.Proofs.Ytcdohkilplgmjaa.QFnExactPlain
