import Derived.Test.YtkhpiicijkhpkaaCFnExactAsmBytesx0
namespace Go.Proofs.Ytkhpiicijkhpkaa.QFnExactAsmBytes
open Go.RowKit Go.Proofs.YtkhpiicijkhpkaaW
open PrintWords PrintLast PrintMore PrintShort PrintIsh
attribute [local go_sem] max2_int min2_int max_two min_two max_three min_three max_four min_four
set_option linter.unusedVariables false
set_option maxHeartbeats 8000000
set_option maxRecDepth 100000
set_option linter.unusedSimpArgs false

def spec_OpName.j0 : Nat → Int → List ByteArray → List ByteArray → Bool → Option (ByteArray)
 | 0, _, _, _, _ => none
 | k + 1, x0, x3, x4, x12 => if x12 = true then (if 0 ≤ (wrap64 (x0 - 1)) then (if (wrap64 (x0 - 1)) < (x3.length : Int) then (some (rdOf ByteArray.empty x3 (wrap64 (x0 - 1)))) else (none)) else (none)) else (if x0 ≥ 10 then (if x0 ≤ 38 then (if 0 ≤ (wrap64 (x0 - 10)) then (if (wrap64 (x0 - 10)) < (x4.length : Int) then (some (rdOf ByteArray.empty x4 (wrap64 (x0 - 10)))) else (none)) else (none)) else (some (⟨#[]⟩ : ByteArray))) else (some (⟨#[]⟩ : ByteArray)))
def spec_OpName.f (k : Nat) (a0 : Int) : Option (ByteArray) := (some (([⟨#[112, 117, 115, 104]⟩, ⟨#[108, 111, 97, 100]⟩, ⟨#[115, 116, 111, 114, 101]⟩, ⟨#[100, 117, 112]⟩, ⟨#[112, 111, 112]⟩] : List ByteArray) : List ByteArray)).bind fun y213 => ((some (([⟨#[97, 100, 100]⟩, ⟨#[115, 117, 98]⟩, ⟨#[109, 117, 108]⟩, ⟨#[100, 105, 118]⟩, ⟨#[114, 101, 109]⟩, ⟨#[97, 110, 100]⟩, ⟨#[111, 114]⟩, ⟨#[120, 111, 114]⟩, ⟨#[115, 104, 108]⟩, ⟨#[115, 104, 114]⟩, ⟨#[117, 115, 104, 114]⟩, ⟨#[108, 101, 115, 115]⟩, ⟨#[97, 116, 109, 111, 115, 116]⟩, ⟨#[115, 97, 109, 101]⟩, ⟨#[110, 101, 103]⟩, ⟨#[110, 111, 116]⟩, ⟨#[98, 121, 116, 101]⟩, ⟨#[115, 104, 111, 114, 116]⟩, ⟨#[105, 110, 116]⟩, ⟨#[119, 111, 114, 100]⟩, ⟨#[106, 117, 109, 112]⟩, ⟨#[106, 122]⟩, ⟨#[99, 97, 108, 108]⟩, ⟨#[114, 101, 116]⟩, ⟨#[110, 101, 119]⟩, ⟨#[103, 101, 116]⟩, ⟨#[115, 101, 116]⟩, ⟨#[108, 101, 110]⟩, ⟨#[111, 117, 116]⟩] : List ByteArray) : List ByteArray)).bind fun y216 => (if a0 ≥ 1 then (spec_OpName.j0 k a0 y213 y216 (decide (a0 ≤ 5))) else (spec_OpName.j0 k a0 y213 y216 false)))
theorem spec_OpName.mono_l : ∀ k, (∀ y0 y1 y2 y3, LeO (spec_OpName.j0 k y0 y1 y2 y3) (spec_OpName.j0 (k + 1) y0 y1 y2 y3))
 | 0 => fun _ _ _ _ r h => by simp [spec_OpName.j0] at h
 | k + 1 => by
  have ih0 := spec_OpName.mono_l k
  ·intro y0 y1 y2 y3
   unfold spec_OpName.j0
   with_reducible repeat' first | exact ih0 .. | exact LeO.refl _ | exact LeO.none _ | refine LeO.ite ?_ ?_ | refine LeO.bind ?_ (fun _ => ?_)
theorem spec_OpName.mono : ∀ a0 k, LeO (spec_OpName.f k a0) (spec_OpName.f (k + 1) a0) := by
 intro a0 k
 have ih0 := spec_OpName.mono_l k
 unfold spec_OpName.f
 with_reducible repeat' first | exact ih0 .. | exact LeO.refl _ | exact LeO.none _ | refine LeO.ite ?_ ?_ | refine LeO.bind ?_ (fun _ => ?_)
theorem spec_OpName.calls (k : Nat) (a0 : Int) (r : ByteArray) (w : World) (h : spec_OpName.f k a0 = some r) :
  Calls Try.prog 164 #[.int .i64 a0] w fun e w' => e = .returned (.string r) ∧ Below w.heap.size w w' := by
 have HB := am (Below.refl w.heap.size w)
 have H : ((some (([⟨#[112, 117, 115, 104]⟩, ⟨#[108, 111, 97, 100]⟩, ⟨#[115, 116, 111, 114, 101]⟩, ⟨#[100, 117, 112]⟩, ⟨#[112, 111, 112]⟩] : List ByteArray) : List ByteArray)).bind fun y213 => ((some (([⟨#[97, 100, 100]⟩, ⟨#[115, 117, 98]⟩, ⟨#[109, 117, 108]⟩, ⟨#[100, 105, 118]⟩, ⟨#[114, 101, 109]⟩, ⟨#[97, 110, 100]⟩, ⟨#[111, 114]⟩, ⟨#[120, 111, 114]⟩, ⟨#[115, 104, 108]⟩, ⟨#[115, 104, 114]⟩, ⟨#[117, 115, 104, 114]⟩, ⟨#[108, 101, 115, 115]⟩, ⟨#[97, 116, 109, 111, 115, 116]⟩, ⟨#[115, 97, 109, 101]⟩, ⟨#[110, 101, 103]⟩, ⟨#[110, 111, 116]⟩, ⟨#[98, 121, 116, 101]⟩, ⟨#[115, 104, 111, 114, 116]⟩, ⟨#[105, 110, 116]⟩, ⟨#[119, 111, 114, 100]⟩, ⟨#[106, 117, 109, 112]⟩, ⟨#[106, 122]⟩, ⟨#[99, 97, 108, 108]⟩, ⟨#[114, 101, 116]⟩, ⟨#[110, 101, 119]⟩, ⟨#[103, 101, 116]⟩, ⟨#[115, 101, 116]⟩, ⟨#[108, 101, 110]⟩, ⟨#[111, 117, 116]⟩] : List ByteArray) : List ByteArray)).bind fun y216 => (if a0 ≥ 1 then (spec_OpName.j0 k a0 y213 y216 (decide (a0 ≤ 5))) else (spec_OpName.j0 k a0 y213 y216 false)))) = some r := h
 clear h
 obtain ⟨y213, hy213⟩ : ∃ y_ : List ByteArray, y_ = (([⟨#[112, 117, 115, 104]⟩, ⟨#[108, 111, 97, 100]⟩, ⟨#[115, 116, 111, 114, 101]⟩, ⟨#[100, 117, 112]⟩, ⟨#[112, 111, 112]⟩] : List ByteArray)) := ⟨_, rfl⟩
 replace H : ((some (([⟨#[97, 100, 100]⟩, ⟨#[115, 117, 98]⟩, ⟨#[109, 117, 108]⟩, ⟨#[100, 105, 118]⟩, ⟨#[114, 101, 109]⟩, ⟨#[97, 110, 100]⟩, ⟨#[111, 114]⟩, ⟨#[120, 111, 114]⟩, ⟨#[115, 104, 108]⟩, ⟨#[115, 104, 114]⟩, ⟨#[117, 115, 104, 114]⟩, ⟨#[108, 101, 115, 115]⟩, ⟨#[97, 116, 109, 111, 115, 116]⟩, ⟨#[115, 97, 109, 101]⟩, ⟨#[110, 101, 103]⟩, ⟨#[110, 111, 116]⟩, ⟨#[98, 121, 116, 101]⟩, ⟨#[115, 104, 111, 114, 116]⟩, ⟨#[105, 110, 116]⟩, ⟨#[119, 111, 114, 100]⟩, ⟨#[106, 117, 109, 112]⟩, ⟨#[106, 122]⟩, ⟨#[99, 97, 108, 108]⟩, ⟨#[114, 101, 116]⟩, ⟨#[110, 101, 119]⟩, ⟨#[103, 101, 116]⟩, ⟨#[115, 101, 116]⟩, ⟨#[108, 101, 110]⟩, ⟨#[111, 117, 116]⟩] : List ByteArray) : List ByteArray)).bind fun y216 => (if a0 ≥ 1 then (spec_OpName.j0 k a0 y213 y216 (decide (a0 ≤ 5))) else (spec_OpName.j0 k a0 y213 y216 false))) = some r := cg hy213 H
 have Ny213 := am hy213
 clear hy213
 obtain ⟨y216, hy216⟩ : ∃ y_ : List ByteArray, y_ = (([⟨#[97, 100, 100]⟩, ⟨#[115, 117, 98]⟩, ⟨#[109, 117, 108]⟩, ⟨#[100, 105, 118]⟩, ⟨#[114, 101, 109]⟩, ⟨#[97, 110, 100]⟩, ⟨#[111, 114]⟩, ⟨#[120, 111, 114]⟩, ⟨#[115, 104, 108]⟩, ⟨#[115, 104, 114]⟩, ⟨#[117, 115, 104, 114]⟩, ⟨#[108, 101, 115, 115]⟩, ⟨#[97, 116, 109, 111, 115, 116]⟩, ⟨#[115, 97, 109, 101]⟩, ⟨#[110, 101, 103]⟩, ⟨#[110, 111, 116]⟩, ⟨#[98, 121, 116, 101]⟩, ⟨#[115, 104, 111, 114, 116]⟩, ⟨#[105, 110, 116]⟩, ⟨#[119, 111, 114, 100]⟩, ⟨#[106, 117, 109, 112]⟩, ⟨#[106, 122]⟩, ⟨#[99, 97, 108, 108]⟩, ⟨#[114, 101, 116]⟩, ⟨#[110, 101, 119]⟩, ⟨#[103, 101, 116]⟩, ⟨#[115, 101, 116]⟩, ⟨#[108, 101, 110]⟩, ⟨#[111, 117, 116]⟩] : List ByteArray)) := ⟨_, rfl⟩
 replace H : (if a0 ≥ 1 then (spec_OpName.j0 k a0 y213 y216 (decide (a0 ≤ 5))) else (spec_OpName.j0 k a0 y213 y216 false)) = some r := cg hy216 H
 have Ny216 := am hy216
 clear hy216
 have HC2 := am H
 clear H
 go_enter Try.func164, Try.ntmps164
 go_upto_region 3 with (first | ((with_reducible refine gate_dst (N := 5) rfl ?_); refine Kd.R_lit Kd.string _ 9 ?hg (N := 5) ?hd (xs := ([⟨#[112, 117, 115, 104]⟩, ⟨#[108, 111, 97, 100]⟩, ⟨#[115, 116, 111, 114, 101]⟩, ⟨#[100, 117, 112]⟩, ⟨#[112, 111, 112]⟩] : List ByteArray)) (inner := [.string (⟨#[112, 117, 115, 104]⟩ : ByteArray), .string (⟨#[108, 111, 97, 100]⟩ : ByteArray), .string (⟨#[115, 116, 111, 114, 101]⟩ : ByteArray), .string (⟨#[100, 117, 112]⟩ : ByteArray), .string (⟨#[112, 111, 112]⟩ : ByteArray)]) (ok := fun _ => True) (okp := fun _ => True) ?hr ?hp (fun _ hk => hk) trivial (Below.refl _ _) (Nat.le_refl _) (by simp) ?_; (case hd => rfl); (case hg => rfl); (case hr => exact gs); (case hp => exact (Reps.one (show Kd.M Kd.string _ _ _ (⟨#[112, 117, 115, 104]⟩ : ByteArray) [.string (⟨#[112, 117, 115, 104]⟩ : ByteArray)] from rfl) (Reps.one (show Kd.M Kd.string _ _ _ (⟨#[108, 111, 97, 100]⟩ : ByteArray) [.string (⟨#[108, 111, 97, 100]⟩ : ByteArray)] from rfl) (Reps.one (show Kd.M Kd.string _ _ _ (⟨#[115, 116, 111, 114, 101]⟩ : ByteArray) [.string (⟨#[115, 116, 111, 114, 101]⟩ : ByteArray)] from rfl) (Reps.one (show Kd.M Kd.string _ _ _ (⟨#[100, 117, 112]⟩ : ByteArray) [.string (⟨#[100, 117, 112]⟩ : ByteArray)] from rfl) (Reps.one (show Kd.M Kd.string _ _ _ (⟨#[112, 111, 112]⟩ : ByteArray) [.string (⟨#[112, 111, 112]⟩ : ByteArray)] from rfl) (Reps.none _ _))))))); intro v214 w3 ho4 hb hg_ hnew_; clear hg_ hnew_; (first | rw [← Ny213.out] at ho4 | (simp only [Int.reduceToNat] at ho4; rw [← Ny213.out] at ho4)); have HO215 := am (Kd.R_lower ho4 (below_size (bw HB))); replace HB := bs HB hb; clear hb ho4) | ((with_reducible refine gate_dst (N := 6) rfl ?_); refine Kd.R_lit Kd.string _ 9 ?hg (N := 6) ?hd (xs := ([⟨#[97, 100, 100]⟩, ⟨#[115, 117, 98]⟩, ⟨#[109, 117, 108]⟩, ⟨#[100, 105, 118]⟩, ⟨#[114, 101, 109]⟩, ⟨#[97, 110, 100]⟩, ⟨#[111, 114]⟩, ⟨#[120, 111, 114]⟩, ⟨#[115, 104, 108]⟩, ⟨#[115, 104, 114]⟩, ⟨#[117, 115, 104, 114]⟩, ⟨#[108, 101, 115, 115]⟩, ⟨#[97, 116, 109, 111, 115, 116]⟩, ⟨#[115, 97, 109, 101]⟩, ⟨#[110, 101, 103]⟩, ⟨#[110, 111, 116]⟩, ⟨#[98, 121, 116, 101]⟩, ⟨#[115, 104, 111, 114, 116]⟩, ⟨#[105, 110, 116]⟩, ⟨#[119, 111, 114, 100]⟩, ⟨#[106, 117, 109, 112]⟩, ⟨#[106, 122]⟩, ⟨#[99, 97, 108, 108]⟩, ⟨#[114, 101, 116]⟩, ⟨#[110, 101, 119]⟩, ⟨#[103, 101, 116]⟩, ⟨#[115, 101, 116]⟩, ⟨#[108, 101, 110]⟩, ⟨#[111, 117, 116]⟩] : List ByteArray)) (inner := [.string (⟨#[97, 100, 100]⟩ : ByteArray), .string (⟨#[115, 117, 98]⟩ : ByteArray), .string (⟨#[109, 117, 108]⟩ : ByteArray), .string (⟨#[100, 105, 118]⟩ : ByteArray), .string (⟨#[114, 101, 109]⟩ : ByteArray), .string (⟨#[97, 110, 100]⟩ : ByteArray), .string (⟨#[111, 114]⟩ : ByteArray), .string (⟨#[120, 111, 114]⟩ : ByteArray), .string (⟨#[115, 104, 108]⟩ : ByteArray), .string (⟨#[115, 104, 114]⟩ : ByteArray), .string (⟨#[117, 115, 104, 114]⟩ : ByteArray), .string (⟨#[108, 101, 115, 115]⟩ : ByteArray), .string (⟨#[97, 116, 109, 111, 115, 116]⟩ : ByteArray), .string (⟨#[115, 97, 109, 101]⟩ : ByteArray), .string (⟨#[110, 101, 103]⟩ : ByteArray), .string (⟨#[110, 111, 116]⟩ : ByteArray), .string (⟨#[98, 121, 116, 101]⟩ : ByteArray), .string (⟨#[115, 104, 111, 114, 116]⟩ : ByteArray), .string (⟨#[105, 110, 116]⟩ : ByteArray), .string (⟨#[119, 111, 114, 100]⟩ : ByteArray), .string (⟨#[106, 117, 109, 112]⟩ : ByteArray), .string (⟨#[106, 122]⟩ : ByteArray), .string (⟨#[99, 97, 108, 108]⟩ : ByteArray), .string (⟨#[114, 101, 116]⟩ : ByteArray), .string (⟨#[110, 101, 119]⟩ : ByteArray), .string (⟨#[103, 101, 116]⟩ : ByteArray), .string (⟨#[115, 101, 116]⟩ : ByteArray), .string (⟨#[108, 101, 110]⟩ : ByteArray), .string (⟨#[111, 117, 116]⟩ : ByteArray)]) (ok := fun _ => True) (okp := fun _ => True) ?hr ?hp (fun _ hk => hk) trivial (Below.refl _ _) (Nat.le_refl _) (by simp) ?_; (case hd => rfl); (case hg => rfl); (case hr => exact gs); (case hp => exact (Reps.one (show Kd.M Kd.string _ _ _ (⟨#[97, 100, 100]⟩ : ByteArray) [.string (⟨#[97, 100, 100]⟩ : ByteArray)] from rfl) (Reps.one (show Kd.M Kd.string _ _ _ (⟨#[115, 117, 98]⟩ : ByteArray) [.string (⟨#[115, 117, 98]⟩ : ByteArray)] from rfl) (Reps.one (show Kd.M Kd.string _ _ _ (⟨#[109, 117, 108]⟩ : ByteArray) [.string (⟨#[109, 117, 108]⟩ : ByteArray)] from rfl) (Reps.one (show Kd.M Kd.string _ _ _ (⟨#[100, 105, 118]⟩ : ByteArray) [.string (⟨#[100, 105, 118]⟩ : ByteArray)] from rfl) (Reps.one (show Kd.M Kd.string _ _ _ (⟨#[114, 101, 109]⟩ : ByteArray) [.string (⟨#[114, 101, 109]⟩ : ByteArray)] from rfl) (Reps.one (show Kd.M Kd.string _ _ _ (⟨#[97, 110, 100]⟩ : ByteArray) [.string (⟨#[97, 110, 100]⟩ : ByteArray)] from rfl) (Reps.one (show Kd.M Kd.string _ _ _ (⟨#[111, 114]⟩ : ByteArray) [.string (⟨#[111, 114]⟩ : ByteArray)] from rfl) (Reps.one (show Kd.M Kd.string _ _ _ (⟨#[120, 111, 114]⟩ : ByteArray) [.string (⟨#[120, 111, 114]⟩ : ByteArray)] from rfl) (Reps.one (show Kd.M Kd.string _ _ _ (⟨#[115, 104, 108]⟩ : ByteArray) [.string (⟨#[115, 104, 108]⟩ : ByteArray)] from rfl) (Reps.one (show Kd.M Kd.string _ _ _ (⟨#[115, 104, 114]⟩ : ByteArray) [.string (⟨#[115, 104, 114]⟩ : ByteArray)] from rfl) (Reps.one (show Kd.M Kd.string _ _ _ (⟨#[117, 115, 104, 114]⟩ : ByteArray) [.string (⟨#[117, 115, 104, 114]⟩ : ByteArray)] from rfl) (Reps.one (show Kd.M Kd.string _ _ _ (⟨#[108, 101, 115, 115]⟩ : ByteArray) [.string (⟨#[108, 101, 115, 115]⟩ : ByteArray)] from rfl) (Reps.one (show Kd.M Kd.string _ _ _ (⟨#[97, 116, 109, 111, 115, 116]⟩ : ByteArray) [.string (⟨#[97, 116, 109, 111, 115, 116]⟩ : ByteArray)] from rfl) (Reps.one (show Kd.M Kd.string _ _ _ (⟨#[115, 97, 109, 101]⟩ : ByteArray) [.string (⟨#[115, 97, 109, 101]⟩ : ByteArray)] from rfl) (Reps.one (show Kd.M Kd.string _ _ _ (⟨#[110, 101, 103]⟩ : ByteArray) [.string (⟨#[110, 101, 103]⟩ : ByteArray)] from rfl) (Reps.one (show Kd.M Kd.string _ _ _ (⟨#[110, 111, 116]⟩ : ByteArray) [.string (⟨#[110, 111, 116]⟩ : ByteArray)] from rfl) (Reps.one (show Kd.M Kd.string _ _ _ (⟨#[98, 121, 116, 101]⟩ : ByteArray) [.string (⟨#[98, 121, 116, 101]⟩ : ByteArray)] from rfl) (Reps.one (show Kd.M Kd.string _ _ _ (⟨#[115, 104, 111, 114, 116]⟩ : ByteArray) [.string (⟨#[115, 104, 111, 114, 116]⟩ : ByteArray)] from rfl) (Reps.one (show Kd.M Kd.string _ _ _ (⟨#[105, 110, 116]⟩ : ByteArray) [.string (⟨#[105, 110, 116]⟩ : ByteArray)] from rfl) (Reps.one (show Kd.M Kd.string _ _ _ (⟨#[119, 111, 114, 100]⟩ : ByteArray) [.string (⟨#[119, 111, 114, 100]⟩ : ByteArray)] from rfl) (Reps.one (show Kd.M Kd.string _ _ _ (⟨#[106, 117, 109, 112]⟩ : ByteArray) [.string (⟨#[106, 117, 109, 112]⟩ : ByteArray)] from rfl) (Reps.one (show Kd.M Kd.string _ _ _ (⟨#[106, 122]⟩ : ByteArray) [.string (⟨#[106, 122]⟩ : ByteArray)] from rfl) (Reps.one (show Kd.M Kd.string _ _ _ (⟨#[99, 97, 108, 108]⟩ : ByteArray) [.string (⟨#[99, 97, 108, 108]⟩ : ByteArray)] from rfl) (Reps.one (show Kd.M Kd.string _ _ _ (⟨#[114, 101, 116]⟩ : ByteArray) [.string (⟨#[114, 101, 116]⟩ : ByteArray)] from rfl) (Reps.one (show Kd.M Kd.string _ _ _ (⟨#[110, 101, 119]⟩ : ByteArray) [.string (⟨#[110, 101, 119]⟩ : ByteArray)] from rfl) (Reps.one (show Kd.M Kd.string _ _ _ (⟨#[103, 101, 116]⟩ : ByteArray) [.string (⟨#[103, 101, 116]⟩ : ByteArray)] from rfl) (Reps.one (show Kd.M Kd.string _ _ _ (⟨#[115, 101, 116]⟩ : ByteArray) [.string (⟨#[115, 101, 116]⟩ : ByteArray)] from rfl) (Reps.one (show Kd.M Kd.string _ _ _ (⟨#[108, 101, 110]⟩ : ByteArray) [.string (⟨#[108, 101, 110]⟩ : ByteArray)] from rfl) (Reps.one (show Kd.M Kd.string _ _ _ (⟨#[111, 117, 116]⟩ : ByteArray) [.string (⟨#[111, 117, 116]⟩ : ByteArray)] from rfl) (Reps.none _ _))))))))))))))))))))))))))))))); intro v217 w5 ho6 hb hg_ hnew_; clear hg_ hnew_; (first | rw [← Ny216.out] at ho6 | (simp only [Int.reduceToNat] at ho6; rw [← Ny216.out] at ho6)); have HO218 := am (Kd.R_lower (Kd.R_new' ho6 (Kd.R_lt (kR HO215))) (below_size (bw HB))); replace HO215 := am (Kd.R_elder' (kR HO215) (Kd.R_base ho6) hb); replace HB := bs HB hb; clear hb ho6))
 (try simp only [Act.put, sa, sz, ss])
 go_cut [12] (fun v12 wc => ∃ (kq : Nat) (x12_1 : Bool), v12 = .bool x12_1 ∧ Aside0 (spec_OpName.j0 kq a0 y213 y216 x12_1 = some r) ∧ Aside0 (kq ≤ k) ∧ Aside0 (Kd.R Kd.string 9 wc w.heap.size (fun k_ => some k_ ≠ (v217 : Value).ownBlock) v214 y213) ∧ Aside0 (Kd.R Kd.string 9 wc w.heap.size (fun k_ => some k_ ≠ (v214 : Value).ownBlock) v217 y216) ∧ Aside0 (Below w.heap.size w wc))
 case first =>
  have H := HC2.out
  clear HC2
  refine qL H ?_ ?_ <;> clear H <;> intro c7b0 H
  ·(first | rw [c7b0] | (simp only [i64_w, i32_w]; rw [c7b0]) | skip)
   have H' := am H
   clear H
   go_wp2
   go_meet
   case rel => exact ⟨_, (decide (a0 ≤ 5)), dr, H', ⟨lk0⟩, ⟨by (with_reducible repeat (first | apply Kd.R_alloc | apply Kd.R_drewN | apply Kd.R_drew)); exact Kd.R_mono HO215.out (fun _ hk => hk.2)⟩, ⟨by (with_reducible repeat (first | apply Kd.R_alloc | apply Kd.R_drewN | apply Kd.R_drew)); exact Kd.R_mono HO218.out (fun _ hk => hk.2)⟩, ⟨bw HB⟩⟩
  (first | rw [c7b0] | (simp only [i64_w, i32_w]; rw [c7b0]) | skip)
  have H' := am H
  clear H
  go_wp2
  go_meet
  case rel => exact ⟨_, (false), dr, H', ⟨lk0⟩, ⟨by (with_reducible repeat (first | apply Kd.R_alloc | apply Kd.R_drewN | apply Kd.R_drew)); exact Kd.R_mono HO215.out (fun _ hk => hk.2)⟩, ⟨by (with_reducible repeat (first | apply Kd.R_alloc | apply Kd.R_drewN | apply Kd.R_drew)); exact Kd.R_mono HO218.out (fun _ hk => hk.2)⟩, ⟨bw HB⟩⟩
 clear HC2
 obtain ⟨kq, x12_1, rfl, HA, HJ1, HO_3, HO_4, HB⟩ := hcut
 rcases kq with _ | kj1
 ·exact absurd HA.out (by simp [spec_OpName.j0])
 have H := HA.out
 clear HA
 simp only [spec_OpName.j0] at H
 refine qT H ?_ ?_ <;> clear H <;> intro c8 H <;> subst c8
 ·obtain ⟨ji9, hji9⟩ : ∃ j_ : Int, (wrap64 (a0 - 1)) = j_ := ⟨_, rfl⟩
  replace H : (if 0 ≤ (ji9) then (if (ji9) < (y213.length : Int) then (some (rdOf ByteArray.empty y213 (ji9))) else (none)) else (none)) = some r := by first | (rw [hji9] at H; exact H) | (simp only [hji9] at H ⊢; exact H)
  have hji9w : (IntKind.i64.wrap (a0 - 1)) = ji9 := (i64_w _).trans hji9
  refine iM H ?_; clear H; intro c10b0 H
  refine iM H ?_; clear H; intro c11b0 H
  obtain rfl := oi H
  obtain ⟨Ao12, co12, eo12⟩ := Kd.R_slice HO_3.out
  subst eo12
  have p219 : 0 ≤ ((ji9) : Int) := dt
  have q219 : (ji9) < (y213.length : Int) := dt
  obtain ⟨ad219, e219, hx219_0⟩ := Kd.at_string (Kd.R_reads' HO_3.out).2.2 (ji9) p219 q219
  cases e219
  replace p219 := eq_true p219
  replace q219 := eq_true q219
  go_wp2
  go_ret
  exact ⟨by first | rfl | (simp [errW_none, errW_some] <;> rfl) | (simp only [← hji9]; first | rfl | (simp [errW_none, errW_some] <;> rfl)) | (simp [*, errW_none, errW_some] <;> rfl), bw HB⟩
 refine qL H ?_ ?_ <;> clear H <;> intro c13b0 H
 ·refine qI H ?_ ?_ <;> clear H <;> intro c14b0 H
  ·obtain ⟨ji15, hji15⟩ : ∃ j_ : Int, (wrap64 (a0 - 10)) = j_ := ⟨_, rfl⟩
   replace H : (if 0 ≤ (ji15) then (if (ji15) < (y216.length : Int) then (some (rdOf ByteArray.empty y216 (ji15))) else (none)) else (none)) = some r := by first | (rw [hji15] at H; exact H) | (simp only [hji15] at H ⊢; exact H)
   have hji15w : (IntKind.i64.wrap (a0 - 10)) = ji15 := (i64_w _).trans hji15
   refine iM H ?_; clear H; intro c16b0 H
   refine iM H ?_; clear H; intro c17b0 H
   obtain rfl := oi H
   obtain ⟨Ao18, co18, eo18⟩ := Kd.R_slice HO_4.out
   subst eo18
   have p220 : 0 ≤ ((ji15) : Int) := dt
   have q220 : (ji15) < (y216.length : Int) := dt
   obtain ⟨ad220, e220, hx220_0⟩ := Kd.at_string (Kd.R_reads' HO_4.out).2.2 (ji15) p220 q220
   cases e220
   replace p220 := eq_true p220
   replace q220 := eq_true q220
   go_wp2
   go_ret
   exact ⟨by first | rfl | (simp [errW_none, errW_some] <;> rfl) | (simp only [← hji15]; first | rfl | (simp [errW_none, errW_some] <;> rfl)) | (simp [*, errW_none, errW_some] <;> rfl), bw HB⟩
  obtain rfl := oi H
  go_wp2
  go_ret
  exact ⟨er, bw HB⟩
 obtain rfl := oi H
 go_wp2
 go_ret
 exact ⟨er, bw HB⟩

mutual
def spec_InsRight.j0 : Nat → Int → Bool → List (S121) → Int → Int → Option (Bool)
 | 0, _, _, _, _, _ => none
 | k + 1, x1, x15, x222000, x223000, x223001 => if x15 = true then (some false) else (if x223000 = 1 then (some true) else (if x223000 = 2 then (spec_InsRight.j1 k x1 x223000 (x223000 == 2) x222000 x223000 x223001) else (spec_InsRight.j1 k x1 x223000 (x223000 == 3) x222000 x223000 x223001)))
def spec_InsRight.j1 : Nat → Int → Int → Bool → List (S121) → Int → Int → Option (Bool)
 | 0, _, _, _, _, _, _ => none
 | k + 1, x1, x17, x20, x222000, x223000, x223001 => if x20 = true then (if x223001 ≥ 0 then (if 0 ≤ x1 then (if x1 < (x222000.length : Int) then (some (decide (x223001 < ((rd_T121 x222000 x1).f1)))) else (none)) else (none)) else (some false)) else (if x17 = 30 then (spec_InsRight.j2 k x1 x17 (x17 == 30) x222000 x223000 x223001) else (spec_InsRight.j2 k x1 x17 (x17 == 31) x222000 x223000 x223001))
def spec_InsRight.j2 : Nat → Int → Int → Bool → List (S121) → Int → Int → Option (Bool)
 | 0, _, _, _, _, _, _ => none
 | k + 1, x1, x17, x37, x222000, x223000, x223001 => if x37 = true then (if x223001 ≥ 0 then (if 0 ≤ x1 then (if x1 < (x222000.length : Int) then (some (decide (x223001 < (((rd_T121 x222000 x1).f2).length : Int)))) else (none)) else (none)) else (some false)) else (if x17 = 32 then (if x223001 ≥ 0 then (some (decide (x223001 < (x222000.length : Int)))) else (some false)) else ((spec_OpName.f k x223000).bind fun t225 => (if t225.toList = ([] : List UInt8) then (some false) else (some (x223001 == 0)))))
end
def spec_InsRight.f (k : Nat) (l0_0 : List (S121)) (a1 : Int) (a2_0 : Int) (a2_1 : Int) : Option (Bool) := if a1 < 0 then (spec_InsRight.j0 k a1 true l0_0 a2_0 a2_1) else (spec_InsRight.j0 k a1 (decide (a1 ≥ (l0_0.length : Int))) l0_0 a2_0 a2_1)
theorem spec_InsRight.calls (k : Nat) (A0_0 : Option Addr) (c0_0 : Nat) (l0_0 : List (S121)) (a1 : Int) (a2_0 : Int) (a2_1 : Int) (r : Bool) (w : World) (hr0_0 : Kd.C k121 w A0_0 l0_0.length l0_0) (hc0_0 : l0_0.length ≤ c0_0) (h : spec_InsRight.f k l0_0 a1 a2_0 a2_1 = some r) :
  Calls Try.prog 161 #[.agg #[.slice A0_0 l0_0.length c0_0], .int .i64 a1, .agg #[.int .i64 a2_0, .int .i64 a2_1]] w fun e w' => e = .returned (.bool r) ∧ Below w.heap.size w w' := by
 have hu32 := Try.underlying32
 have hu153 := Try.underlying153
 have HR0_0 := am hr0_0
 have HC0_0 := am hc0_0
 clear hr0_0 hc0_0
 have HB := am (Below.refl w.heap.size w)
 have H : (if a1 < 0 then (spec_InsRight.j0 k a1 true l0_0 a2_0 a2_1) else (spec_InsRight.j0 k a1 (decide (a1 ≥ (l0_0.length : Int))) l0_0 a2_0 a2_1)) = some r := h
 clear h
 have HC4 := am H
 clear H
 go_enter Try.func161, Try.ntmps161
 go_upto_region 1 with (first | ((with_reducible refine gate_dst (N := 3) rfl ?_); (try (refine gate_guard (by rfl) ?_; dsimp only)); refine box_event ?hg (N := 3) ?hd (cs := #[.slice A0_0 l0_0.length c0_0]) (t := 32) ?hr ?_; (case hd => rfl); (case hg => rfl); (case hr => exact gs); intro gb221 hg w5 hbox hb; have BK221 := am (hbox); have GW221 := gw hg HB; replace HB := bs HB hb; clear hb hbox hg) | ((with_reducible refine gate_dst (N := 5) rfl ?_); (try (refine gate_guard (by rfl) ?_; dsimp only)); refine box_event ?hg (N := 5) ?hd (cs := #[.int .i64 a2_0, .int .i64 a2_1]) (t := 153) ?hr ?_; (case hd => rfl); (case hg => rfl); (case hr => exact gs); intro gb222 hg w6 hbox hb; have BK222 := am (hbox); have GW222 := gw hg HB; replace HB := bs HB hb; obtain ⟨NB221_222, NB222_221, BK221⟩ := b3 hg BK221 hb; clear hb hbox hg))
 repeat (go_quiet (first | ((with_reducible refine gate_dst (N := 3) rfl ?_); (try (refine gate_guard (by rfl) ?_; dsimp only)); refine box_event ?hg (N := 3) ?hd (cs := #[.slice A0_0 l0_0.length c0_0]) (t := 32) ?hr ?_; (case hd => rfl); (case hg => rfl); (case hr => exact gs); intro gb221 hg w5 hbox hb; have BK221 := am (hbox); have GW221 := gw hg HB; replace HB := bs HB hb; clear hb hbox hg) | ((with_reducible refine gate_dst (N := 5) rfl ?_); (try (refine gate_guard (by rfl) ?_; dsimp only)); refine box_event ?hg (N := 5) ?hd (cs := #[.int .i64 a2_0, .int .i64 a2_1]) (t := 153) ?hr ?_; (case hd => rfl); (case hg => rfl); (case hr => exact gs); intro gb222 hg w6 hbox hb; have BK222 := am (hbox); have GW222 := gw hg HB; replace HB := bs HB hb; obtain ⟨NB221_222, NB222_221, BK221⟩ := b3 hg BK221 hb; clear hb hbox hg)); go_upto_region 1 with (first | ((with_reducible refine gate_dst (N := 3) rfl ?_); (try (refine gate_guard (by rfl) ?_; dsimp only)); refine box_event ?hg (N := 3) ?hd (cs := #[.slice A0_0 l0_0.length c0_0]) (t := 32) ?hr ?_; (case hd => rfl); (case hg => rfl); (case hr => exact gs); intro gb221 hg w5 hbox hb; have BK221 := am (hbox); have GW221 := gw hg HB; replace HB := bs HB hb; clear hb hbox hg) | ((with_reducible refine gate_dst (N := 5) rfl ?_); (try (refine gate_guard (by rfl) ?_; dsimp only)); refine box_event ?hg (N := 5) ?hd (cs := #[.int .i64 a2_0, .int .i64 a2_1]) (t := 153) ?hr ?_; (case hd => rfl); (case hg => rfl); (case hr => exact gs); intro gb222 hg w6 hbox hb; have BK222 := am (hbox); have GW222 := gw hg HB; replace HB := bs HB hb; obtain ⟨NB221_222, NB222_221, BK221⟩ := b3 hg BK221 hb; clear hb hbox hg)))
 (try simp only [Act.put, sa, sz, ss])
 go_cut [15] (fun v15 wc => ∃ (kq : Nat) (x15_3 : Bool), v15 = .bool x15_3 ∧ Aside0 (spec_InsRight.j0 kq a1 x15_3 l0_0 a2_0 a2_1 = some r) ∧ Aside0 (kq ≤ k) ∧ Aside0 (wc.heap[gb221]? = some (.cells #[(.slice A0_0 l0_0.length c0_0)] 32 (0, 0))) ∧ Aside0 (wc.heap[gb222]? = some (.cells #[.int .i64 a2_0, .int .i64 a2_1] 153 (0, 0))) ∧ Aside0 (Below w.heap.size w wc))
 case first =>
  have H := HC4.out
  clear HC4
  refine qI H ?_ ?_ <;> clear H <;> intro c7b0 H
  ·(first | rw [c7b0] | (simp only [i64_w, i32_w]; rw [c7b0]) | skip)
   have H' := am H
   clear H
   go_wp2
   repeat (go_quiet (fail); try go_wp2)
   go_meet
   case rel => exact ⟨_, (true), dr, H', ⟨lk0⟩, ⟨bp BK221⟩, ⟨bp BK222⟩, ⟨bw HB⟩⟩
  (first | rw [c7b0] | (simp only [i64_w, i32_w]; rw [c7b0]) | skip)
  have H' := am H
  clear H
  have hnb8 := NB221_222.out
  have hnc8 := NB222_221.out
  have hcz9 := bK w6 BK221
  have hfz9 := bF BK221
  go_wp2
  repeat (go_quiet (fail); try go_wp2)
  go_meet
  case rel => exact ⟨_, (decide (a1 ≥ (l0_0.length : Int))), dr, H', ⟨lk0⟩, ⟨bp BK221⟩, ⟨bp BK222⟩, ⟨bw HB⟩⟩
 clear HC4
 obtain ⟨kq, x15_3, rfl, HA, HJ3, BK221, BK222, HB⟩ := hcut
 rcases kq with _ | kj3
 ·exact absurd HA.out (by simp [spec_InsRight.j0])
 have H := HA.out
 clear HA
 simp only [spec_InsRight.j0] at H
 refine qT H ?_ ?_ <;> clear H <;> intro c10 H <;> subst c10
 ·obtain rfl := oi H
  go_wp2
  repeat (go_quiet (fail); try go_wp2)
  go_ret
  exact ⟨er, bw HB⟩
 refine qE H ?_ ?_ <;> clear H
 ·intro c11b0 c11b1 H
  obtain rfl := oi H
  have hnb12 := NB222_221.out
  have hnc12 := NB221_222.out
  have hcz13 := bK wc BK222
  have hfz13 := bF BK222
  go_wp2
  repeat (go_quiet (fail); try go_wp2)
  go_ret
  exact ⟨er, bw HB⟩
 intro c11 c11b0 c11b1 H
 have HC14 := am H
 clear H
 have hnb15 := NB222_221.out
 have hnc15 := NB221_222.out
 have hcz16 := bK wc BK222
 have hfz16 := bF BK222
 go_upto_if 20 with (fail)
 repeat (go_quiet (fail); go_upto_if 20 with (fail))
 go_cut [20] (fun v20 wc => ∃ (kq : Nat) (x20_13 : Bool), v20 = .bool x20_13 ∧ Aside0 (spec_InsRight.j1 kq a1 a2_0 x20_13 l0_0 a2_0 a2_1 = some r) ∧ Aside0 (kq ≤ kj3) ∧ Aside0 (wc.heap[gb221]? = some (.cells #[(.slice A0_0 l0_0.length c0_0)] 32 (0, 0))) ∧ Aside0 (wc.heap[gb222]? = some (.cells #[.int .i64 a2_0, .int .i64 a2_1] 153 (0, 0))) ∧ Aside0 (Below w.heap.size w wc))
 case first =>
  have H := HC14.out
  clear HC14
  refine qE H ?_ ?_ <;> clear H
  ·intro c17b0 c17b1 H
   (first | rw [c17b0] | (simp only [i64_w, i32_w]; rw [c17b0]) | skip)
   have H' := am H
   clear H
   go_wp2
   repeat (go_quiet (fail); try go_wp2)
   go_meet
   case rel => exact ⟨_, ((a2_0 == 2)), dr, H', ⟨lk1 HJ3⟩, ⟨bp BK221⟩, ⟨bp BK222⟩, ⟨bw HB⟩⟩
  intro c17 c17b0 c17b1 H
  (first | rw [c17b0] | (simp only [i64_w, i32_w]; rw [c17b0]) | skip)
  have H' := am H
  clear H
  go_wp2
  repeat (go_quiet (fail); try go_wp2)
  go_meet
  case rel => exact ⟨_, ((a2_0 == 3)), dr, H', ⟨lk1 HJ3⟩, ⟨bp BK221⟩, ⟨bp BK222⟩, ⟨bw HB⟩⟩
 clear HC14
 obtain ⟨kq, x20_13, rfl, HA, HJ13, BK221, BK222, HB⟩ := hcut
 rcases kq with _ | kj13
 ·exact absurd HA.out (by simp [spec_InsRight.j1])
 have H := HA.out
 clear HA
 simp only [spec_InsRight.j1] at H
 refine qT H ?_ ?_ <;> clear H <;> intro c18 H <;> subst c18
 ·refine qL H ?_ ?_ <;> clear H <;> intro c19b0 H
  ·refine iM H ?_; clear H; intro c20b0 H
   refine iM H ?_; clear H; intro c21b0 H
   obtain rfl := oi H
   have hnb22 := NB222_221.out
   have hnc22 := NB221_222.out
   have hcz23 := bK wc BK222
   have hfz23 := bF BK222
   have hcz24 := bK wc BK221
   have hfz24 := bF BK221
   have p223 : 0 ≤ (a1 : Int) := dt
   have q223 : a1 < (l0_0.length : Int) := dt
   obtain ⟨ad223, A223_2, c223_2, e223, hx223_0, hx223_1, hx223_2, hl223_2, hi223_2⟩ := at_T121 HR0_0.out a1 p223 q223
   cases e223
   replace hx223_0 := cl HB hx223_0
   replace hx223_1 := cl HB hx223_1
   replace hx223_2 := cl HB hx223_2
   have HR223_2 := am hi223_2
   have HC223_2 := am hl223_2
   clear hi223_2 hl223_2
   replace p223 := eq_true p223
   replace q223 := eq_true q223
   go_wp2
   repeat (go_quiet (fail); try go_wp2)
   go_ret
   exact ⟨er, bw HB⟩
  obtain rfl := oi H
  have hnb25 := NB222_221.out
  have hnc25 := NB221_222.out
  have hcz26 := bK wc BK222
  have hfz26 := bF BK222
  go_wp2
  repeat (go_quiet (fail); try go_wp2)
  go_ret
  exact ⟨er, bw HB⟩
 have HC27 := am H
 clear H
 go_upto_if 37 with (fail)
 repeat (go_quiet (fail); go_upto_if 37 with (fail))
 go_cut [37] (fun v37 wc => ∃ (kq : Nat) (x37_26 : Bool), v37 = .bool x37_26 ∧ Aside0 (spec_InsRight.j2 kq a1 a2_0 x37_26 l0_0 a2_0 a2_1 = some r) ∧ Aside0 (kq ≤ kj13) ∧ Aside0 (wc.heap[gb221]? = some (.cells #[(.slice A0_0 l0_0.length c0_0)] 32 (0, 0))) ∧ Aside0 (wc.heap[gb222]? = some (.cells #[.int .i64 a2_0, .int .i64 a2_1] 153 (0, 0))) ∧ Aside0 (Below w.heap.size w wc))
 case first =>
  have H := HC27.out
  clear HC27
  refine qE H ?_ ?_ <;> clear H
  ·intro c28b0 c28b1 H
   (first | rw [c28b0] | (simp only [i64_w, i32_w]; rw [c28b0]) | skip)
   have H' := am H
   clear H
   go_wp2
   repeat (go_quiet (fail); try go_wp2)
   go_meet
   case rel => exact ⟨_, ((a2_0 == 30)), dr, H', ⟨lk2 HJ3 HJ13⟩, ⟨bp BK221⟩, ⟨bp BK222⟩, ⟨bw HB⟩⟩
  intro c28 c28b0 c28b1 H
  (first | rw [c28b0] | (simp only [i64_w, i32_w]; rw [c28b0]) | skip)
  have H' := am H
  clear H
  go_wp2
  repeat (go_quiet (fail); try go_wp2)
  go_meet
  case rel => exact ⟨_, ((a2_0 == 31)), dr, H', ⟨lk2 HJ3 HJ13⟩, ⟨bp BK221⟩, ⟨bp BK222⟩, ⟨bw HB⟩⟩
 clear HC27
 obtain ⟨kq, x37_26, rfl, HA, HJ26, BK221, BK222, HB⟩ := hcut
 rcases kq with _ | kj26
 ·exact absurd HA.out (by simp [spec_InsRight.j2])
 have H := HA.out
 clear HA
 simp only [spec_InsRight.j2] at H
 refine qT H ?_ ?_ <;> clear H <;> intro c29 H <;> subst c29
 ·refine qL H ?_ ?_ <;> clear H <;> intro c30b0 H
  ·refine iM H ?_; clear H; intro c31b0 H
   refine iM H ?_; clear H; intro c32b0 H
   obtain rfl := oi H
   have hnb33 := NB222_221.out
   have hnc33 := NB221_222.out
   have hcz34 := bK wc BK222
   have hfz34 := bF BK222
   have hcz35 := bK wc BK221
   have hfz35 := bF BK221
   have p224 : 0 ≤ (a1 : Int) := dt
   have q224 : a1 < (l0_0.length : Int) := dt
   obtain ⟨ad224, A224_2, c224_2, e224, hx224_0, hx224_1, hx224_2, hl224_2, hi224_2⟩ := at_T121 HR0_0.out a1 p224 q224
   cases e224
   replace hx224_0 := cl HB hx224_0
   replace hx224_1 := cl HB hx224_1
   replace hx224_2 := cl HB hx224_2
   have HR224_2 := am hi224_2
   have HC224_2 := am hl224_2
   clear hi224_2 hl224_2
   replace p224 := eq_true p224
   replace q224 := eq_true q224
   go_wp2
   repeat (go_quiet (fail); try go_wp2)
   go_ret
   exact ⟨er, bw HB⟩
  obtain rfl := oi H
  have hnb36 := NB222_221.out
  have hnc36 := NB221_222.out
  have hcz37 := bK wc BK222
  have hfz37 := bF BK222
  go_wp2
  repeat (go_quiet (fail); try go_wp2)
  go_ret
  exact ⟨er, bw HB⟩
 refine qE H ?_ ?_ <;> clear H
 ·intro c38b0 c38b1 H
  refine qL H ?_ ?_ <;> clear H <;> intro c39b0 H
  ·obtain rfl := oi H
   have hnb40 := NB222_221.out
   have hnc40 := NB221_222.out
   have hcz41 := bK wc BK222
   have hfz41 := bF BK222
   have hcz42 := bK wc BK221
   have hfz42 := bF BK221
   go_wp2
   repeat (go_quiet (fail); try go_wp2)
   go_ret
   exact ⟨er, bw HB⟩
  obtain rfl := oi H
  have hnb43 := NB222_221.out
  have hnc43 := NB221_222.out
  have hcz44 := bK wc BK222
  have hfz44 := bF BK222
  go_wp2
  repeat (go_quiet (fail); try go_wp2)
  go_ret
  exact ⟨er, bw HB⟩
 intro c38 c38b0 c38b1 H
 refine be H ?_; clear H; intro t225 A45 H
 by_cases c46 : t225.toList = ([] : List UInt8)
 ·rw [if_pos c46] at H
  have c46b0 : (t225.toList == ([] : List UInt8)) = true := beq_iff_eq.mpr c46
  have c46b1 : (t225.toList != ([] : List UInt8)) = false := bne_eq_false_iff_eq.mpr c46
  clear c46
  obtain rfl := oi H
  have hnb47 := NB222_221.out
  have hnc47 := NB221_222.out
  have hcz48 := bK wc BK222
  have hfz48 := bF BK222
  go_wp2_with (first | (go_at_call 164; (with_reducible refine (spec_OpName.calls kj26 a2_0 t225 _ A45.out).mono ?_); rintro e w49 ⟨rfl, hb⟩; replace BK221 := bb BK221 hb; replace BK222 := bb BK222 hb; replace HB := bs HB hb; clear hb))
  repeat (go_quiet (first | (go_at_call 164; (with_reducible refine (spec_OpName.calls kj26 a2_0 t225 _ A45.out).mono ?_); rintro e w49 ⟨rfl, hb⟩; replace BK221 := bb BK221 hb; replace BK222 := bb BK222 hb; replace HB := bs HB hb; clear hb)); try go_wp2_with (first | (go_at_call 164; (with_reducible refine (spec_OpName.calls kj26 a2_0 t225 _ A45.out).mono ?_); rintro e w49 ⟨rfl, hb⟩; replace BK221 := bb BK221 hb; replace BK222 := bb BK222 hb; replace HB := bs HB hb; clear hb)))
  go_ret
  exact ⟨er, bw HB⟩
 rw [if_neg c46] at H
 have c46b0 : (t225.toList == ([] : List UInt8)) = false := beq_eq_false_iff_ne.mpr c46
 have c46b1 : (t225.toList != ([] : List UInt8)) = true := bne_iff_ne.mpr c46
 obtain rfl := oi H
 have hnb50 := NB222_221.out
 have hnc50 := NB221_222.out
 have hcz51 := bK wc BK222
 have hfz51 := bF BK222
 go_wp2_with (first | (go_at_call 164; (with_reducible refine (spec_OpName.calls kj26 a2_0 t225 _ A45.out).mono ?_); rintro e w52 ⟨rfl, hb⟩; replace BK221 := bb BK221 hb; replace BK222 := bb BK222 hb; replace HB := bs HB hb; clear hb; have hcz53 := bK w52 BK222; have hfz53 := bF BK222))
 repeat (go_quiet (first | (go_at_call 164; (with_reducible refine (spec_OpName.calls kj26 a2_0 t225 _ A45.out).mono ?_); rintro e w52 ⟨rfl, hb⟩; replace BK221 := bb BK221 hb; replace BK222 := bb BK222 hb; replace HB := bs HB hb; clear hb; have hcz53 := bK w52 BK222; have hfz53 := bF BK222)); try go_wp2_with (first | (go_at_call 164; (with_reducible refine (spec_OpName.calls kj26 a2_0 t225 _ A45.out).mono ?_); rintro e w52 ⟨rfl, hb⟩; replace BK221 := bb BK221 hb; replace BK222 := bb BK222 hb; replace HB := bs HB hb; clear hb; have hcz53 := bK w52 BK222; have hfz53 := bF BK222)))
 go_ret
 exact ⟨er, bw HB⟩

end Go.Proofs.Ytkhpiicijkhpkaa.QFnExactAsmBytes
