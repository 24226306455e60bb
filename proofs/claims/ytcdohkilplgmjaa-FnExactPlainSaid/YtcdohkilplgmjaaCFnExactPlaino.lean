/- What reads as data lies as the kinds of the printed words tell it: whole numbers, bools, strings, rows, structs, one in another. No condition beyond what each theorem names. -/
import Derived.Test.YtcdohkilplgmjaaCFnExactPlainw
import Derived.Test.YtcdohkilplgmjaaCFnExactPlains
import Derived.ChangeArms
import Derived.ChangeSlices
import Derived.ChangeShapes
import Derived.WideShapes
import Derived.OpenShut
import Derived.ChangeOld
import Derived.Below
import Derived.DataElems
import Derived.DataReads
namespace Go.Proofs.Ytcdohkilplgmjaa.Opn
open Go.RowKit Go.Proofs.YtcdohkilplgmjaaW.PrintWords Go.ChangeShapes Go.WideShapes
set_option linter.unusedVariables false

/-- Cells that read as data of type t are those of a value of kind d, in memory as it stands. -/
def Opens {α : Type} (P : Program) (t : TypeId) (d : Kd α) (wf : α → Prop) : Prop :=
  ∀ (H : Type) (enc : TypeId × Value → H) (W : World) (base : Nat) (spare : Nat → Bool) (held : Bool) (fuel : Nat) (cs : List Value) (x : DataW H × List MemPlace),
    DataW.trod enc P W base spare held fuel t cs = some x → ∃ y, d.K W y cs ∧ wf y

theorem opens_int {P : Program} {t : TypeId} {k : IntKind} (ht : P.underlying t = some (.int k)) : Opens P t (Kd.int k) (fun n => (Lit.int k n).wf = true) := by
  intro H enc W base spare held fuel cs x h
  obtain ⟨n, rfl, rfl, hw⟩ := DataW.trod_int ht h
  exact ⟨n, rfl, hw⟩

theorem opens_bool {P : Program} {t : TypeId} (ht : P.underlying t = some .bool) : Opens P t Kd.bool (fun _ => True) := by
  intro H enc W base spare held fuel cs x h
  obtain ⟨n, rfl, rfl⟩ := DataW.trod_bool ht h
  exact ⟨n, rfl, trivial⟩

/-- A list out of what each place tells. -/
theorem list_of {α : Type} {Q : Nat → α → Prop} : ∀ (n : Nat), (∀ i, i < n → ∃ y, Q i y) → ∃ ys : List α, ys.length = n ∧ ∀ j y, ys[j]? = some y → Q j y
  | 0, _ => ⟨[], rfl, fun j y h => by simp at h⟩
  | n + 1, h => by
    obtain ⟨ys, hl, hq⟩ := list_of n (fun i hi => h i (by omega))
    obtain ⟨y, hy⟩ := h n (by omega)
    refine ⟨ys ++ [y], by simp [hl], fun j z hz => ?_⟩
    by_cases hj : j < ys.length
    · rw [List.getElem?_append_left hj] at hz
      exact hq j z hz
    · have hlt := (List.getElem?_eq_some_iff.1 hz).1
      simp at hlt
      have hjn : j = ys.length := by omega
      subst hjn
      simp at hz
      subst hz
      rw [hl]
      exact hy

theorem opens_slice {P : Program} {t e : TypeId} {α : Type} {d : Kd α} {wf : α → Prop} (ht : P.underlying t = some (.slice e)) (hsz : P.cellsOf e = d.sz) (he : Opens P e d wf) :
    Opens P t (Kd.slice e d) (fun ys => ys.length ≤ 9223372036854775807 ∧ ∀ y ∈ ys, wf y) := by
  intro H enc W base spare held fuel cs x h
  rcases DataW.trod_slice ht h with ⟨rfl, rfl⟩ | ⟨a, len, cap, elems, rest, n, _, rfl, rfl, hb, hl, hm, hlen, hel, hsp, hns⟩
  · exact ⟨[], ⟨none, 0, rfl, Nat.le_refl _, rfl, by simp, fun h0 => absurd h0 (by simp)⟩, by simp, by simp⟩
  · have each : ∀ i, i < len → ∃ y, (∃ c, c.length = d.sz ∧ d.K W y c ∧ ∀ j u, c[j]? = some u → W.cell? (a.add (i * d.sz + j)) = some u) ∧ wf y := by
      intro i hi
      have h1 := hel i hi
      rw [List.getElem?_eq_getElem (by omega), Option.bind_eq_some_iff] at h1
      obtain ⟨c, hc, hd⟩ := h1
      obtain ⟨y, hK, hw⟩ := he H enc W base spare held n c _ hd
      refine ⟨y, ⟨c, d.K_len hK, hK, fun j u hj => ?_⟩, hw⟩
      obtain ⟨_, hcl, hce⟩ := World.cells?_some hc
      have hjl := (List.getElem?_eq_some_iff.1 hj).1
      have := hce j (by omega)
      rw [hj, Addr.add_add, hsz] at this
      exact this
    obtain ⟨ys, hyl, hq⟩ := list_of len each
    have hmx : maxLen ≤ 9223372036854775807 := by unfold maxLen; omega
    refine ⟨ys, ⟨some a, cap, by rw [hyl], by omega, rfl, by omega, fun _ => ⟨a, rfl, fun j p hj => (hq j p hj).1⟩⟩, by omega, fun y hy => ?_⟩
    obtain ⟨j, hj⟩ := List.getElem?_of_mem hy
    exact (hq j y hj).2

/-- Fields from one on: what the cells from there on say. -/
def OpensFs {α : Type} (P : Program) (fs : List Field) (off n : Nat) (d : Kd α) (wf : α → Prop) : Prop :=
  ∀ (H : Type) (enc : TypeId × Value → H) (W : World) (base : Nat) (spare : Nat → Bool) (held : Bool) (fuel : Nat) (cs : List Value), cs.length = n →
    (∀ (i : Nat) (f : Field), fs[i]? = some f → ∃ x, DataW.trod enc P W base spare held fuel f.type ((cs.drop f.offset).take (P.cellsOf f.type)) = some x) → ∃ y, d.K W y (cs.drop off) ∧ wf y

theorem opens_last {P : Program} {f : Field} {α : Type} {d : Kd α} {wf : α → Prop} {n : Nat} (hn : f.offset + P.cellsOf f.type = n) (hf : Opens P f.type d wf) : OpensFs P [f] f.offset n d wf := by
  intro H enc W base spare held fuel cs hl h
  obtain ⟨x, hx⟩ := h 0 f rfl
  have e : (cs.drop f.offset).take (P.cellsOf f.type) = cs.drop f.offset := List.take_of_length_le (by rw [List.length_drop]; omega)
  rw [e] at hx
  exact hf H enc W base spare held fuel _ _ hx

theorem opens_more {P : Program} {f : Field} {fs : List Field} {α β : Type} {d : Kd α} {d' : Kd β} {wf : α → Prop} {wf' : β → Prop} {n : Nat} (hf : Opens P f.type d wf) (hfs : OpensFs P fs (f.offset + P.cellsOf f.type) n d' wf') :
    OpensFs P (f :: fs) f.offset n (Kd.pair d d') (fun y => wf y.1 ∧ wf' y.2) := by
  intro H enc W base spare held fuel cs hl h
  obtain ⟨x, hx⟩ := h 0 f rfl
  obtain ⟨y, hK, hw⟩ := hf H enc W base spare held fuel _ _ hx
  obtain ⟨y', hK', hw'⟩ := hfs H enc W base spare held fuel cs hl (fun i g hg => h (i + 1) g hg)
  refine ⟨(y, y'), ⟨_, _, ?_, hK, hK'⟩, hw, hw'⟩
  rw [← List.drop_drop, List.take_append_drop]

theorem opens_struct {P : Program} {t : TypeId} {fs : Array Field} {α β : Type} {d : Kd α} {wf : α → Prop} (ht : P.underlying t = some (.struct fs)) (hfs : OpensFs P fs.toList 0 (P.cellsOf t) d wf) (f : β → α) (g : α → β) (hfg : ∀ x, f (g x) = x) :
    Opens P t (Kd.iso d f) (fun y => wf (f y)) := by
  intro H enc W base spare held fuel cs x h
  obtain ⟨xs, n, rfl, rfl, hl, hxl, hx⟩ := DataW.trod_struct ht h
  obtain ⟨y, hK, hw⟩ := hfs H enc W base spare held n cs hl (fun i q hq => by
    have hq' : fs[i]? = some q := by rw [← Array.getElem?_toList]; exact hq
    have := hx i q hq'
    have hi : i < xs.length := by rw [hxl]; exact (Array.getElem?_eq_some_iff.1 hq').1
    rw [List.getElem?_eq_getElem hi] at this
    exact ⟨_, this⟩)
  refine ⟨g y, ?_, ?_⟩
  · show d.K W (f (g y)) cs
    rw [hfg]; simpa using hK
  · show wf (f (g y))
    rw [hfg]; exact hw

/-- A parameter of a struct's type. -/
theorem open_arg {P : Program} {t : TypeId} {fs : Array Field} {α : Type} {d : Kd α} {wf : α → Prop} {W : World} {r : Reach} {base : Nat} {H : Type} {enc : TypeId × Value → H} {b : Nat} {spare : Nat → Bool} {held : Bool} {v : Value} {x : DataW H} {ps : List MemPlace}
    (ht : P.underlying t = some (.struct fs)) (ho : Opens P t d wf) (hv : Value.okWide P W r base t v) (h : DataW.Trod enc P W b spare held t v x ps) : ∃ y cs, v = .agg cs.toArray ∧ d.K W y cs ∧ wf y := by
  obtain ⟨fuel, hf⟩ := h
  obtain ⟨y, hK, hw⟩ := ho H enc W b spare held fuel _ _ hf
  unfold Value.okWide at hv
  rw [ht] at hv
  obtain ⟨cs, rfl, _, _⟩ := hv
  refine ⟨y, cs.toList, by simp, by simpa [Value.cells] using hK, hw⟩

/-- A parameter of a slice's type. -/
theorem open_arg_slice {P : Program} {t e : TypeId} {α : Type} {d : Kd α} {wf : List α → Prop} {W : World} {r : Reach} {base : Nat} {H : Type} {enc : TypeId × Value → H} {b : Nat} {spare : Nat → Bool} {held : Bool} {v : Value} {x : DataW H} {ps : List MemPlace}
    (ht : P.underlying t = some (.slice e)) (ho : Opens P t (Kd.slice e d) wf) (hv : Value.okWide P W r base t v) (h : DataW.Trod enc P W b spare held t v x ps) : ∃ (ys : List α) (A : Option Addr) (c : Nat), v = .slice A ys.length c ∧ ys.length ≤ c ∧ d.C W A ys.length ys ∧ wf ys := by
  obtain ⟨a, len, cap, rfl⟩ := okWide_slice ht hv
  obtain ⟨fuel, hf⟩ := h
  obtain ⟨y, ⟨A, c, he, hl, hc⟩, hw⟩ := ho H enc W b spare held fuel _ _ hf
  refine ⟨y, A, c, ?_, hl, hc, hw⟩
  simpa [Value.cells] using he
end Go.Proofs.Ytcdohkilplgmjaa.Opn
