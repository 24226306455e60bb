/- The row of FnExactAsmBytes: for every input the law returns true, and its arguments read as they did. No condition. -/
import Derived.Test.YtkhpiicijkhpkaaRows
import Derived.Test.YtkhpiicijkhpkaaCFnExactAsmBytesx
import Derived.Test.YtkhpiicijkhpkaaCFnExactAsmByteso
import Derived.Test.YtkhpiicijkhpkaaCFnExactAsmBytesw
import Derived.Test.YtkhpiicijkhpkaaCFnExactAsmBytess
import Derived.Test.YtkhpiicijkhpkaaCFnExactAsmBytesp
import Derived.WalkKit
import Derived.ProofKit
import Derived.OpenShut
import Derived.ShutString
import Derived.ChangeOld
import Derived.Below
import Derived.SizedLaws
namespace Go.Proofs.Ytkhpiicijkhpkaa.fnExactAsmBytes
open Go.ChangeShapes Go.WideShapes Go.ChangeAt Go.RowKit Go.Proofs.Ytkhpiicijkhpkaa.QFnExactAsmBytes Go.Proofs.YtkhpiicijkhpkaaW.PrintWords
open Go.ChangeMaps (open_string shut_string)
set_option linter.unusedVariables false
theorem own : ownKnob Try.prog.godebug = none := by kernel_rfl
theorem laidOut : laidOutB Try.prog = true := by kernel_rfl
set_option maxRecDepth 100000 in
theorem lifted (os : Os) (started : os.Started) (H : Type) (enc : TypeId × Value → H) :
    ReturnsInHanded {} Try.checked os 4 .any (Rows.fnExactAsmBytesSpec.pre6 enc Try.prog Try.f4 Rows.fnExactAsmBytesRow.domain false) (Rows.fnExactAsmBytesSpec.post enc Try.prog Try.f4 false true false false) := by
  refine returnsInHanded_of_change_sized (C := Try.checked) own started (by kernel_rfl) Try.func4
    (ChangeSpec.witness6 (enc := enc) (C := Try.checked) false ⟨#[], #[.agg #[.slice none 0 0], .agg #[.int .i64 0, .slice none 0 0, .slice none 0 0]], []⟩ 8 (by kernel_rfl) (by kernel_rfl) (by kernel_rfl) (by kernel_rfl)) ?_
  intro W base args ds gs before hval0 hW hcnd hsz0 _
  have hsz : (DataW.weightsEach Try.prog (Try.f4.params.toList ++ Rows.fnExactAsmBytesSpec.plain.varTypes Try.prog) (ds ++ gs)).all (· ≤ reachBytes) = true := hsz0
  have hval : ∀ (j : Nat) t v, Try.f4.params[j]? = some t → args[j]? = some v → Value.okWide Try.prog W .any base t v := hval0
  have hW' := hW
  obtain ⟨p, q, hA0, hV, rfl, hfz, hnd⟩ := hW
  have hA : DataW.TrodAll enc Try.prog W 0 (fun _ => true) true Try.f4.params.toList args.toList ds p := hA0
  rw [Try.params4] at hA hval hsz
  obtain ⟨v0, vs0, d0, ds0, p0, q0, hargs, rfl, rfl, h0, r0⟩ := trodAll_cons hA
  obtain ⟨v1, vs1, d1, ds1, p1, q1, rfl, rfl, rfl, h1, r1⟩ := trodAll_cons r0
  obtain ⟨rfl, rfl, rfl⟩ := trodAll_nil r1
  obtain rfl : args = #[v0, v1] := by cases args; simp_all
  obtain ⟨rfl, rfl⟩ := trodVars_none hV
  have k0 := h0
  have lt0 : ∀ x ∈ p0, x.block < W.heap.size := by obtain ⟨m, hm⟩ := k0; exact DataW.trod_lt m _ _ _ hm
  obtain ⟨y0, cs0, rfl, K0, w0⟩ := Opn.open_arg Try.underlying24 opens24_ (hval 0 24 v0 rfl rfl) h0
  obtain ⟨A0_0, c0_0, rfl, hc0_0, hr0_0⟩ := k24_parts K0
  have k1 := h1
  have lt1 : ∀ x ∈ p1, x.block < W.heap.size := by obtain ⟨m, hm⟩ := k1; exact DataW.trod_lt m _ _ _ hm
  obtain ⟨y1, cs1, rfl, K1, w1⟩ := Opn.open_arg Try.underlying43 opens43_ (hval 1 43 v1 rfl rfl) h1
  obtain ⟨A1_1, c1_1, A1_2, c1_2, rfl, hc1_1, hr1_1, hc1_2, hr1_2⟩ := k43_parts K1
  clear hA0 hval0 hsz0 hsz
  obtain ⟨k, hk⟩ := Pure.FnExactAsmBytes y0 w0 y1 w1
  refine (laws_FnExactAsmBytes.calls k A0_0 c0_0 y0.f0 y1.f0 A1_1 c1_1 y1.f1 A1_2 c1_2 y1.f2 true W hr0_0 hc0_0 hr1_1 hc1_1 hr1_2 hc1_2 hk).mono fun e W' hpost => ?_
  obtain ⟨he, bel0⟩ := hpost
  have bel : Below W.heap.size W W' := bel0
  subst he
  exact ⟨_, rfl, _, _, _, [], _, [], hW', trodAll_mk1 (shut_bool Try.underlying4 _), (trodAll_cons_mk (Below.trod laidOut (by kernel_rfl) (of_decide_eq_true (by kernel_rfl)) k0 bel lt0) (trodAll_cons_mk (Below.trod laidOut (by kernel_rfl) (of_decide_eq_true (by kernel_rfl)) k1 bel lt1) trodAll_mk0)), rfl, bel.frame _, fun h => by cases h⟩
theorem over : Rows.fnExactAsmBytesRow.holds Try.pinned (OpenSpec.ofChange Rows.fnExactAsmBytesSpec) :=
  OpenClaim.holds_of_wide 4 Try.f4 rfl rfl rfl rfl rfl rfl rfl ⟨rfl, rfl, rfl, rfl, rfl⟩ rfl rfl rfl rfl rfl (by kernel_rfl) Try.func4 (by kernel_rfl)
    (of_decide_eq_true (by kernel_rfl)) (by unfold Func.isWrapper; first | (rw [if_pos (by decide +kernel)]; kernel_rfl) | (rw [if_neg (by decide +kernel)]; exact ⟨rfl, rfl⟩))
    (fun os started H enc _ => lifted os started H enc)
theorem proved : Rows.FnExactAsmBytesSaid := over
#print axioms proved
end Go.Proofs.Ytkhpiicijkhpkaa.fnExactAsmBytes
namespace Go.Proofs.Ytkhpiicijkhpkaa
/-- The row, under a short name, for the claim. -/
theorem fnExactAsmBytes_holds : Rows.FnExactAsmBytesSaid := fnExactAsmBytes.proved
end Go.Proofs.Ytkhpiicijkhpkaa
