/- Parts of the drawn program's maker, by what they leave. No condition. -/
import Derived.Test.YtopaefhfjioecaaCFnFileCutx8
import Derived.StillTailTactics
import Derived.Deep.RegionWith
namespace Go.Proofs.Ytopaefhfjioecaa.QFnFileCut
open Go.RowKit Go.Proofs.YtopaefhfjioecaaW.PrintWords Go.Proofs.YtopaefhfjioecaaW.PrintLast Go.Proofs.YtopaefhfjioecaaW.PrintMore
attribute [local go_sem] max2_int min2_int max_two min_two max_three min_three max_four min_four
set_option linter.unusedVariables false
set_option linter.unusedSimpArgs false
/-! plain words: rounds, wraps, lists -/
theorem Ev.succ {α : Type} {g : Nat → Option α} {r : α} (h : Ev (fun k => g (k + 1)) r) : Ev g r := Ev.step (fun _ => rfl) h
theorem Ev.yes {α : Type} {c : Prop} [Decidable c] {g f : Nat → Option α} {r : α} (hc : c) (h : Ev g r) : Ev (fun k => if c then g k else f k) r := Ev.congr (fun _ => if_pos hc) h
theorem Ev.no {α : Type} {c : Prop} [Decidable c] {g f : Nat → Option α} {r : α} (hc : ¬ c) (h : Ev f r) : Ev (fun k => if c then g k else f k) r := Ev.congr (fun _ => if_neg hc) h
theorem Ev.cases {α : Type} {c : Prop} [Decidable c] {g f : Nat → Option α} {r : α} (h1 : c → Ev g r) (h2 : ¬ c → Ev f r) : Ev (fun k => if c then g k else f k) r := by
  by_cases hc : c
  · exact Ev.yes hc (h1 hc)
  · exact Ev.no hc (h2 hc)
/-- A call that needs no rounds. -/
theorem Ev.flat {α β : Type} {g : Option α} {f : Nat → α → Option β} {a : α} {r : β} (h : g = some a) (k : Ev (fun n => f n a) r) : Ev (fun n => g.bind (f n)) r := Ev.bind (g := fun _ => g) ⟨0, fun _ _ => h⟩ k
theorem wrap_in {n : Int} (h0 : -9223372036854775808 ≤ n) (h1 : n ≤ 9223372036854775807) : wrap64 n = n := by unfold wrap64; omega
theorem wrap_lo (n : Int) : -9223372036854775808 ≤ wrap64 n := by unfold wrap64; omega
theorem wrap_hi (n : Int) : wrap64 n ≤ 9223372036854775807 := by unfold wrap64; omega
theorem wf64 {n : Int} (h : (Lit.int .i64 n).wf = true) : -9223372036854775808 ≤ n ∧ n ≤ 9223372036854775807 := by
  simp only [Lit.wf, IntKind.min, IntKind.max, IntKind.signed, IntKind.bits, Bool.and_eq_true, decide_eq_true_eq, if_true] at h
  omega
theorem drop_at {α : Type} (x : List α) (z : α) (i : Nat) (h : i < x.length) : x.drop i = x.getD i z :: x.drop (i + 1) := by
  rw [List.drop_eq_getElem_cons h, List.getD_eq_getElem?_getD, List.getElem?_eq_getElem h]; rfl
/-- Two lists, place by place. -/
def sameL {α : Type} (s : α → α → Bool) : List α → List α → Bool
  | [], [] => true
  | a :: x, b :: y => s a b && sameL s x y
  | _, _ => false
theorem sameL_refl {α : Type} {s : α → α → Bool} (hs : ∀ a, s a a = true) : ∀ x : List α, sameL s x x = true
  | [] => rfl
  | a :: x => by simp [sameL, hs a, sameL_refl hs x]
theorem sameL_len {α : Type} {s : α → α → Bool} : ∀ x y : List α, x.length ≠ y.length → sameL s x y = false
  | [], [], h => absurd rfl h
  | [], _ :: _, _ => rfl
  | _ :: _, [], _ => rfl
  | a :: x, b :: y, h => by simp [sameL, sameL_len x y (fun e => h (by simp [e]))]
theorem nand {a b : Bool} (h : (a && b) = false) : (!a || !b) = true := by cases a <;> cases b <;> simp_all
theorem beq_no {a b : Int} (h : ¬ a = b) : (a == b) = false := beq_eq_false_iff_ne.2 h
theorem Ev.uniq {α : Type} {g : Nat → Option α} {r r' : α} (h : Ev g r) (h' : Ev g r') : r = r' := by
  obtain ⟨a, ha⟩ := h
  obtain ⟨b, hb⟩ := h'
  have h1 := ha (max a b) (Nat.le_max_left _ _)
  rw [hb (max a b) (Nat.le_max_right _ _)] at h1
  exact (Option.some.inj h1).symm
/-! numbers that are drawn -/
theorem u64_lo (x : Int) : 0 ≤ IntKind.u64.wrap x := by show 0 ≤ x % _; exact Int.emod_nonneg _ (by decide)
theorem u64_in {x : Int} (h0 : 0 ≤ x) (h1 : x < 18446744073709551616) : IntKind.u64.wrap x = x := Int.emod_eq_of_lt h0 h1
theorem drawn_v {X most : Int} (hX : 0 ≤ X) (h0 : 1 < most) (h1 : most ≤ 9223372036854775807) : ∃ v, wrap64 (Int.tmod X (IntKind.u64.wrap most)) = v ∧ 0 ≤ v ∧ v < most := by
  rw [u64_in (x := most) (by omega) (by omega)]
  have a := Int.tmod_nonneg most hX
  have b := Int.tmod_lt_of_pos X (show 0 < most by omega)
  exact ⟨_, wrap_in (by omega) (by omega), a, b⟩
theorem n_some (b : List Int) (at_ mix size : Int) (ha : 0 ≤ at_ ∧ at_ ≤ b.length) (hb : b.length ≤ 1048576) (most : Int) (h1 : 1 ≤ most) (h2 : most ≤ 9223372036854775807) : ∃ v at1 mix1, spec_l01Src_n.f b at_ mix size most = some (v, at1, mix1, size) ∧ 0 ≤ v ∧ v < most ∧ 0 ≤ at1 ∧ at1 ≤ b.length := by
  unfold spec_l01Src_n.f
  by_cases hm : most ≤ 1
  · rw [if_pos hm]; exact ⟨0, _, _, rfl, by omega, by omega, ha.1, ha.2⟩
  rw [if_neg hm]
  have hne : ¬ IntKind.u64.wrap most = 0 := by rw [u64_in (by omega) (by omega)]; omega
  by_cases hc : at_ < (b.length : Int)
  · rw [if_pos hc, if_pos ha.1, if_neg hne]
    obtain ⟨v, e, p, q⟩ := drawn_v (X := IntKind.u64.wrap _) (u64_lo _) (show 1 < most by omega) h2
    refine ⟨v, _, _, by rw [e], p, q, ?_, ?_⟩ <;> rw [wrap_in (by omega) (by omega)] <;> omega
  · rw [if_neg hc, if_neg hne]
    obtain ⟨v, e, p, q⟩ := drawn_v (X := IntKind.u64.wrap _) (u64_lo _) (show 1 < most by omega) h2
    exact ⟨v, _, _, by rw [e], p, q, ha.1, ha.2⟩
theorem source_ev (l : List Int) (h : l.length ≤ 1048576) : ∃ mix size, Ev (fun k => spec_l01Source.f k l) (l, 0, mix, size) ∧ 0 ≤ size ∧ size ≤ 12 := by
  have fin : ∃ size, (if wrap64 ((l.length : Int) / 20) > 12 then 12 else wrap64 ((l.length : Int) / 20)) = size ∧ 0 ≤ size ∧ size ≤ 12 := by
    have : wrap64 ((l.length : Int) / 20) = (l.length : Int) / 20 := wrap_in (by omega) (by omega)
    rw [this]
    by_cases q : (l.length : Int) / 20 > 12
    · rw [if_pos q]; exact ⟨12, rfl, by omega, by omega⟩
    · rw [if_neg q]; exact ⟨_, rfl, by omega, by omega⟩
  obtain ⟨size, he, h0, h1⟩ := fin
  have last : ∀ mix : Int, Ev (fun k => spec_l01Source.j1 k l l 0 mix 0) (l, 0, mix, size) := by
    intro mix
    refine Ev.succ ?_
    simp only [spec_l01Source.j1]
    by_cases q : wrap64 ((l.length : Int) / 20) > 12
    · rw [if_pos q] at he; subst he; exact Ev.yes q (Ev.now _)
    · rw [if_neg q] at he; subst he; exact Ev.no q (Ev.now _)
  have key : ∀ (d i : Nat), i + d = 64 → ∀ mix : Int, ∃ mix', Ev (fun k => spec_l01Source.l0 k l (i : Int) l 0 mix 0) (l, 0, mix', size) := by
    intro d
    induction d with
    | zero =>
      intro i hi mix
      refine ⟨mix, Ev.succ ?_⟩
      simp only [spec_l01Source.l0]
      by_cases hc : (i : Int) < (l.length : Int)
      · exact Ev.yes hc (Ev.no (by omega) (last mix))
      · exact Ev.no hc (last mix)
    | succ d ih =>
      intro i hi mix
      by_cases hc : (i : Int) < (l.length : Int)
      · obtain ⟨m', e⟩ := ih (i + 1) (by omega) (IntKind.u64.wrap ((Go.bits .xor .u64 mix (IntKind.u64.wrap (rd l i))) * 1099511628211))
        refine ⟨m', Ev.succ ?_⟩
        simp only [spec_l01Source.l0]
        refine Ev.yes hc (Ev.yes (by omega) (Ev.yes (by omega) ?_))
        rw [wrap_in (n := (i : Int) + 1) (by omega) (by omega)]
        exact e
      · refine ⟨mix, Ev.succ ?_⟩
        simp only [spec_l01Source.l0]
        exact Ev.no hc (last mix)
  obtain ⟨mix, e⟩ := key 64 0 (by omega) 88172645463325252
  exact ⟨mix, size, by unfold spec_l01Source.f; exact e, h0, h1⟩
theorem one_some (b : List Int) (at_ mix size : Int) (ha : 0 ≤ at_ ∧ at_ ≤ b.length) (hb : b.length ≤ 1048576) (most : Int) (h1 : 1 ≤ most) (h2 : most ≤ 9223372036854775807) : ∃ t at1 mix1, spec_l01Src_one.f b at_ mix size most = some (t, at1, mix1, size) ∧ 0 ≤ at1 ∧ at1 ≤ b.length := by
  obtain ⟨v, a1, m1, e, _, _, q⟩ := n_some b at_ mix size ha hb most h1 h2
  exact ⟨v == 0, a1, m1, by unfold spec_l01Src_one.f; rw [e]; rfl, q⟩
theorem rd_mem {L : List Int} {v : Int} (h0 : 0 ≤ v) (h1 : v < L.length) : rd L v ∈ L := by
  show L.getD v.toNat 0 ∈ L
  rw [List.getD_eq_getElem?_getD, List.getElem?_eq_getElem (show v.toNat < L.length by omega)]
  exact List.getElem_mem _
def in64 (a : Int) : Prop := -9223372036854775808 ≤ a ∧ a ≤ 9223372036854775807
theorem rd_in64 {L : List Int} (hL : ∀ x ∈ L, -9223372036854775808 ≤ x ∧ x ≤ 9223372036854775807) {v : Int} (h0 : 0 ≤ v) (h1 : v < L.length) : in64 (rd L v) := hL _ (rd_mem h0 h1)
theorem edge_some (b : List Int) (at_ mix size : Int) (ha : 0 ≤ at_ ∧ at_ ≤ b.length) (hb : b.length ≤ 1048576) : ∃ a at1 mix1, spec_l01Src_edge.f b at_ mix size = some (a, at1, mix1, size) ∧ in64 a ∧ 0 ≤ at1 ∧ at1 ≤ b.length := by
  obtain ⟨v, a1, m1, e, v0, v1, q⟩ := n_some b at_ mix size ha hb 14 (by omega) (by omega)
  unfold spec_l01Src_edge.f
  rw [e]
  simp only [Option.bind_some]
  rw [if_pos v0, if_pos (by simp; omega)]
  exact ⟨_, _, _, rfl, rd_in64 (by decide) v0 (by simp; omega), q⟩
theorem num_some (b : List Int) (at_ mix size : Int) (ha : 0 ≤ at_ ∧ at_ ≤ b.length) (hb : b.length ≤ 1048576) : ∃ a at1 mix1, spec_l01Src_l02Num.f b at_ mix size = some (a, at1, mix1, size) ∧ in64 a ∧ 0 ≤ at1 ∧ at1 ≤ b.length := by
  obtain ⟨v, a1, m1, e, v0, v1, q⟩ := n_some b at_ mix size ha hb 5 (by omega) (by omega)
  unfold spec_l01Src_l02Num.f
  rw [e]
  simp only [Option.bind_some]
  by_cases c0 : v = 0
  · rw [if_pos c0]
    obtain ⟨x, a2, m2, e2, hx, q2⟩ := edge_some b a1 m1 size q hb
    rw [e2]
    exact ⟨x, a2, m2, rfl, hx, q2⟩
  rw [if_neg c0]
  by_cases c1 : v = 1
  · rw [if_pos c1]
    obtain ⟨x, a2, m2, e2, x0, x1, q2⟩ := n_some b a1 m1 size q hb 9 (by omega) (by omega)
    rw [e2]
    exact ⟨_, a2, m2, rfl, ⟨wrap_lo _, wrap_hi _⟩, q2⟩
  rw [if_neg c1]
  by_cases c2 : v = 2
  · rw [if_pos c2]
    obtain ⟨x, a2, m2, e2, x0, x1, q2⟩ := n_some b a1 m1 size q hb 10 (by omega) (by omega)
    rw [e2]
    simp only [Option.bind_some]
    rw [if_pos x0, if_pos (by simp; omega)]
    exact ⟨_, a2, m2, rfl, rd_in64 (by decide) x0 (by simp; omega), q2⟩
  rw [if_neg c2]
  obtain ⟨x, a2, m2, e2, x0, x1, q2⟩ := n_some b a1 m1 size q hb 1099511627776 (by omega) (by omega)
  rw [e2]
  exact ⟨_, a2, m2, rfl, ⟨wrap_lo _, wrap_hi _⟩, q2⟩
/-- A source of draws at block gs, of size z. -/
def SrcZ (w0 W : World) (gs : Nat) (size : Int) : Prop := ∃ (l : List Int) (at_ mix : Int), IsS106 w0 W gs l at_ mix size ∧ (0 ≤ at_ ∧ at_ ≤ l.length) ∧ l.length ≤ 1048576 ∧ 0 ≤ size ∧ size ≤ 12
def Src (w0 W : World) (gs : Nat) : Prop := ∃ size, SrcZ w0 W gs size
/-- What lies below base stays, but for the source's block. -/
def FrB (w W : World) (base gs : Nat) : Prop := w.heap.size ≤ W.heap.size ∧ ∀ i, i < base → i ≠ gs → W.heap[i]? = w.heap[i]?
theorem FrB.refl (w : World) (base gs : Nat) : FrB w w base gs := ⟨Nat.le_refl _, fun _ _ _ => rfl⟩
theorem FrB.trans {w W V : World} {base gs : Nat} (h : FrB w W base gs) (k : FrB W V base gs) : FrB w V base gs := ⟨Nat.le_trans h.1 k.1, fun i a b => (k.2 i a b).trans (h.2 i a b)⟩
theorem FrB.keep {w W : World} {base gs : Nat} (h : KeepBut w W gs none) (hb : base ≤ w.heap.size) : FrB w W base gs := ⟨h.1, fun i a b => h.2 i (by omega) b (by simp)⟩
theorem SrcZ.same {w0 w W : World} {gs : Nat} {s : Int} (h : SrcZ w0 w gs s) (e : W.heap[gs]? = w.heap[gs]?) : SrcZ w0 W gs s := by
 obtain ⟨l, a, x, ⟨A0, c0, h1, h2, h3⟩, r⟩ := h
 exact ⟨l, a, x, ⟨A0, c0, e.trans h1, h2, h3⟩, r⟩
theorem SrcZ.c3 {w0 w : World} {gs : Nat} {s : Int} (h : SrcZ w0 w gs s) : w.cell? ⟨gs, 3, none⟩ = some (.int .i64 s) := by
 obtain ⟨l, a, x, ⟨A0, c0, h1, h2, h3⟩, r⟩ := h
 exact (blk_cell h1 3).trans rfl
theorem SrcZ.sz {w0 w : World} {gs : Nat} {s : Int} (h : SrcZ w0 w gs s) : 0 ≤ s ∧ s ≤ 12 := by
 obtain ⟨l, a, x, _, _, _, r⟩ := h
 exact r
theorem Src.same {w0 w W : World} {gs : Nat} (h : Src w0 w gs) (e : W.heap[gs]? = w.heap[gs]?) : Src w0 W gs := by
 obtain ⟨s, h⟩ := h
 exact ⟨s, h.same e⟩
theorem Src.lt {w0 w : World} {gs : Nat} (h : Src w0 w gs) : gs < w.heap.size := by
 obtain ⟨s, l, a, x, h1, r⟩ := h
 exact h1.lt
theorem Src.ge {w0 w : World} {gs : Nat} (h : Src w0 w gs) : w0.heap.size ≤ gs := by
 obtain ⟨s, l, a, x, h1, r⟩ := h
 exact h1.ge
theorem n_any (b : List Int) (at_ mix size : Int) (ha : 0 ≤ at_ ∧ at_ ≤ b.length) (hb : b.length ≤ 1048576) (most : Int) (h2 : most ≤ 9223372036854775807) : ∃ v at1 mix1, spec_l01Src_n.f b at_ mix size most = some (v, at1, mix1, size) ∧ (0 ≤ v ∧ (v < most ∨ v = 0)) ∧ 0 ≤ at1 ∧ at1 ≤ b.length := by
 by_cases h : 1 ≤ most
 · obtain ⟨v, a1, x1, e, p, q, r⟩ := n_some b at_ mix size ha hb most h h2
   exact ⟨v, a1, x1, e, ⟨p, .inl q⟩, r⟩
 · exact ⟨0, at_, mix, by unfold spec_l01Src_n.f; rw [if_pos (by omega)], ⟨Int.le_refl _, .inr rfl⟩, ha⟩
theorem n_rel {w0 w : World} {gs : Nat} (h : Src w0 w gs) (hB : Below w0.heap.size w0 w) (m : Int) (h2 : m ≤ 9223372036854775807) :
  Calls Try.prog 56 #[.pointer (some ⟨gs, 0, none⟩), .int .i64 m] w fun e w' => ∃ v : Int, e = .returned (.int .i64 v) ∧ (0 ≤ v ∧ (v < m ∨ v = 0)) ∧ Src w0 w' gs ∧ Below w0.heap.size w0 w' ∧ KeepBut w w' gs none := by
 obtain ⟨s, l, a, x, hI, ha, hl, hs⟩ := h
 obtain ⟨v, a1, x1, e, p, r⟩ := n_any l a x s ha hl m h2
 refine (spec_l01Src_n.calls gs l a x s m v a1 x1 s w0 w hI hB e).mono ?_
 rintro e w' ⟨rfl, hi, hb, hk⟩
 exact ⟨v, rfl, p, ⟨s, l, a1, x1, hi, r, hl, hs⟩, hb, hk⟩
theorem n_relZ {w0 w : World} {gs : Nat} {s : Int} (h : SrcZ w0 w gs s) (hB : Below w0.heap.size w0 w) (m : Int) (h2 : m ≤ 9223372036854775807) :
  Calls Try.prog 56 #[.pointer (some ⟨gs, 0, none⟩), .int .i64 m] w fun e w' => ∃ v : Int, e = .returned (.int .i64 v) ∧ (0 ≤ v ∧ (v < m ∨ v = 0)) ∧ SrcZ w0 w' gs s ∧ Below w0.heap.size w0 w' ∧ KeepBut w w' gs none := by
 obtain ⟨l, a, x, hI, ha, hl, hs⟩ := h
 obtain ⟨v, a1, x1, e, p, r⟩ := n_any l a x s ha hl m h2
 refine (spec_l01Src_n.calls gs l a x s m v a1 x1 s w0 w hI hB e).mono ?_
 rintro e w' ⟨rfl, hi, hb, hk⟩
 exact ⟨v, rfl, p, ⟨l, a1, x1, hi, r, hl, hs⟩, hb, hk⟩
theorem one_rel {w0 w : World} {gs : Nat} (h : Src w0 w gs) (hB : Below w0.heap.size w0 w) (m : Int) (h1 : 1 ≤ m) (h2 : m ≤ 9223372036854775807) :
  Calls Try.prog 69 #[.pointer (some ⟨gs, 0, none⟩), .int .i64 m] w fun e w' => ∃ v : Bool, e = .returned (.bool v) ∧ Src w0 w' gs ∧ Below w0.heap.size w0 w' ∧ KeepBut w w' gs none := by
 obtain ⟨s, l, a, x, hI, ha, hl, hs⟩ := h
 obtain ⟨v, a1, x1, e, r⟩ := one_some l a x s ha hl m h1 h2
 refine (spec_l01Src_one.calls gs l a x s m v a1 x1 s w0 w hI hB e).mono ?_
 rintro e w' ⟨rfl, hi, hb, hk⟩
 exact ⟨v, rfl, ⟨s, l, a1, x1, hi, r, hl, hs⟩, hb, hk⟩
theorem num_rel {w0 w : World} {gs : Nat} (h : Src w0 w gs) (hB : Below w0.heap.size w0 w) :
  Calls Try.prog 107 #[.pointer (some ⟨gs, 0, none⟩)] w fun e w' => ∃ v : Int, e = .returned (.int .i64 v) ∧ in64 v ∧ Src w0 w' gs ∧ Below w0.heap.size w0 w' ∧ KeepBut w w' gs none := by
 obtain ⟨s, l, a, x, hI, ha, hl, hs⟩ := h
 obtain ⟨v, a1, x1, e, p, r⟩ := num_some l a x s ha hl
 refine (spec_l01Src_l02Num.calls gs l a x s v a1 x1 s w0 w hI hB e).mono ?_
 rintro e w' ⟨rfl, hi, hb, hk⟩
 exact ⟨v, rfl, p, ⟨s, l, a1, x1, hi, r, hl, hs⟩, hb, hk⟩
/-- What does not turn of a generator: its block gg, its source's gs, its code's blocks are from base on. -/
structure GP where
 base : Nat
 gg : Nat
 gs : Nat
 ga : Nat
 ca : Nat
 args : List Int
 locals : Int
 most : Int
@[reducible] def GP.va (p : GP) : Value := .slice (some ⟨p.ga, 0, none⟩) p.args.length p.ca
/-- A generator, n instructions long. -/
def GenB (w0 W : World) (p : GP) (n : Nat) : Prop := ∃ (v : Value) (xs : List S38),
  W.heap[p.gg]? = some (.cells #[.pointer (some ⟨p.gs, 0, none⟩), p.va, .int .i64 p.locals, v, .int .i64 p.most] 109 (0, 0)) ∧ (p.base ≤ p.gg ∧ w0.heap.size ≤ p.base ∧ p.gs < p.base ∧ p.base ≤ W.heap.size) ∧ Src w0 W p.gs ∧
  (Kd.R (Kd.int .i64) 2 W w0.heap.size (fun k => k < p.base ∧ k ≠ p.gs) p.va p.args ∧ 0 < p.args.length ∧ p.args.length ≤ 3 ∧ (∀ x ∈ p.args, 0 ≤ x ∧ x ≤ 2) ∧ 0 ≤ p.locals ∧ p.locals ≤ 8) ∧
  Kd.R k38 38 W p.base (fun _ => True) v xs ∧ xs.length = n ∧ ∀ x ∈ xs, in64 x.f0 ∧ in64 x.f1
section
variable {w0 w W : World} {p : GP} {n : Nat}
theorem GenB.src (h : GenB w0 w p n) (hs : Src w0 W p.gs) (hk : KeepBut w W p.gs none) : GenB w0 W p n := by
 obtain ⟨v, xs, h1, ⟨h2, h3, h4, h5⟩, _, ⟨h7, h8⟩, h10, h11⟩ := h
 refine ⟨v, xs, (hk.2 p.gg (blk_lt h1) (by omega) (by simp)).trans h1, ⟨h2, h3, h4, Nat.le_trans h5 hk.1⟩, hs, ⟨Kd.R_step h7 (fun k a b => hk.2 k b a.2 (by simp)), h8⟩, ?_, h11⟩
 exact Kd.R_mono (Kd.R_step (Kd.R_bound h10) (fun k a b => hk.2 k b (by have := a.2.1; omega) (by simp))) (fun _ _ => trivial)
theorem GenB.next {v : Value} {xs : List S38} (h : GenB w0 w p n)
  (hg : W.heap[p.gg]? = some (.cells #[.pointer (some ⟨p.gs, 0, none⟩), p.va, .int .i64 p.locals, v, .int .i64 p.most] 109 (0, 0))) (hs : W.heap[p.gs]? = w.heap[p.gs]?) (hf : FrB w W p.base p.gs) (hc : Kd.R k38 38 W p.base (fun _ => True) v xs) (hx : ∀ x ∈ xs, in64 x.f0 ∧ in64 x.f1) : GenB w0 W p xs.length := by
 obtain ⟨_, _, _, ⟨h2, h3, h4, h5⟩, h6, ⟨h7, h8⟩, _⟩ := h
 exact ⟨v, xs, hg, ⟨h2, h3, h4, Nat.le_trans h5 hf.1⟩, h6.same hs, ⟨Kd.R_step h7 (fun k a b => hf.2 k a.1 a.2), h8⟩, hc, rfl, hx⟩
theorem fr_put {w w1 : World} {base gg gs : Nat} {v : Value} {j : Nat} (hb : Below base w w1) (h : base ≤ gg) : FrB w (w1.setCell ⟨gg, j, none⟩ v) base gs :=
 ⟨by simpa [World.setCell] using hb.size, fun i a b => (Below.heap_setCell w1 ⟨gg, j, none⟩ v i (by show i ≠ gg; omega)).trans (hb.block i a)⟩
theorem GenB.so (h : GenB w0 w p n) : Src w0 w p.gs := by obtain ⟨v, xs, h1, h2, h3, r⟩ := h; exact h3
theorem GenB.le (h : GenB w0 w p n) : p.base ≤ w.heap.size := by obtain ⟨v, xs, h1, ⟨_, _, _, h2⟩, r⟩ := h; exact h2
theorem GenB.ge (h : GenB w0 w p n) : w0.heap.size ≤ p.base := by obtain ⟨v, xs, h1, ⟨_, h2, _⟩, r⟩ := h; exact h2
theorem GenB.al (h : GenB w0 w p n) : 0 < p.args.length ∧ p.args.length ≤ 3 := by obtain ⟨v, xs, h1, h2, h3, ⟨_, a, b, _⟩, r⟩ := h; exact ⟨a, b⟩
theorem GenB.loc (h : GenB w0 w p n) : 0 ≤ p.locals ∧ p.locals ≤ 8 := by obtain ⟨v, xs, h1, h2, h3, ⟨_, _, _, _, h4⟩, r⟩ := h; exact h4
theorem GenB.drewN (h : GenB w0 w p n) (m : Nat) : GenB w0 (w.drewN m) p n := h.src (h.so.same rfl) ⟨Nat.le_refl _, fun _ _ _ _ => rfl⟩
theorem GenB.drew (h : GenB w0 w p n) : GenB w0 w.drew p n := h.src (h.so.same rfl) ⟨Nat.le_refl _, fun _ _ _ _ => rfl⟩
theorem GenB.c0 (h : GenB w0 w p n) : w.cell? ⟨p.gg, 0, none⟩ = some (.pointer (some ⟨p.gs, 0, none⟩)) := by obtain ⟨v, xs, h1, r⟩ := h; exact (blk_cell h1 0).trans rfl
theorem GenB.c1 (h : GenB w0 w p n) : w.cell? ⟨p.gg, 1, none⟩ = some p.va := by obtain ⟨v, xs, h1, r⟩ := h; exact (blk_cell h1 1).trans rfl
theorem GenB.c2 (h : GenB w0 w p n) : w.cell? ⟨p.gg, 2, none⟩ = some (.int .i64 p.locals) := by obtain ⟨v, xs, h1, r⟩ := h; exact (blk_cell h1 2).trans rfl
theorem GenB.c4 (h : GenB w0 w p n) : w.cell? ⟨p.gg, 4, none⟩ = some (.int .i64 p.most) := by obtain ⟨v, xs, h1, r⟩ := h; exact (blk_cell h1 4).trans rfl
theorem GenB.arg (h : GenB w0 w p n) (i : Int) (h0 : 0 ≤ i) (h1 : i < (p.args.length : Int)) : w.cell? ⟨p.ga, i.toNat, none⟩ = some (.int .i64 (rd p.args i)) ∧ 0 ≤ rd p.args i ∧ rd p.args i ≤ 2 := by
 obtain ⟨v, xs, h1_, h2, h3, ⟨hR, _, _, h4, _⟩, r⟩ := h
 obtain ⟨ad, ea, hx⟩ := Kd.at_int (Kd.R_reads' hR).2.2 i h0 h1
 injection ea with ea
 subst ea
 refine ⟨?_, h4 _ (rd_mem h0 h1)⟩
 rw [add_at, Nat.zero_add] at hx
 exact hx
theorem FrB.drewN {w W : World} {base gs : Nat} (h : FrB w W base gs) (m : Nat) : FrB w (W.drewN m) base gs := h
theorem FrB.drew {w W : World} {base gs : Nat} (h : FrB w W base gs) : FrB w W.drew base gs := h
theorem gl {Q : Prop} (h : Q := by (try simp only [List.map_toArray, List.map_cons, List.map_nil]); first | done | rfl | (simp only [List.length_drop, List.length_take]; rfl)) : Q := h
end
theorem info38_ : (Try.prog.info? 38).map (fun i => (i.zero, i.size, i.bytes)) = some (some (.agg #[.int .i64 0, .int .i64 0]), 2, 16) := by kernel_rfl
section
variable {w0 w : World} {p : GP} {n : Nat}
set_option maxHeartbeats 8000000 in
set_option maxRecDepth 100000 in
theorem put_rel (h : GenB w0 w p n) (hB : Below w0.heap.size w0 w) (op a : Int) (ho : in64 op) (ha : in64 a) (hn : n < 1048576) :
  Calls Try.prog 82 #[.pointer (some ⟨p.gg, 0, none⟩), .int .i64 op, .int .i64 a] w fun e w' => e = .returned (.int .i64 n) ∧ GenB w0 w' p (n + 1) ∧ Below w0.heap.size w0 w' ∧ FrB w w' p.base p.gs := by
 have HH := Aside0.mk h
 obtain ⟨v, xs, h1, ⟨h2, h3, h4, h5⟩, h6, h7, h10, h11, h12⟩ := h
 subst h11
 have HB := Aside0.mk hB
 have H1 := Aside0.mk h1
 have H10 := Aside0.mk h10
 have hc3 : w.cell? ⟨p.gg, 3, none⟩ = some v := (blk_cell h1 3).trans rfl
 clear h1 hB h6 h7 h10
 go_enter Try.func82, Try.ntmps82
 go_wp2_with (first | ((with_reducible refine gate_builtin (b := .append) (xs := #[.tmp 11, .tmp 15]) rfl ?_); at_builtin; refine Kd.R_append k38 (w0 := w) p.base rfl (.tmp 11) (.tmp 15) 33 38 _ 16 rfl Try.underlying33 info38_ rfl (by decide) (by omega) v xs ⟨op, a⟩ [.int .i64 op, .int .i64 a] (fun _ => True) (fun _ => False) rfl rfl (k38_mkM _ _ _ _) (fun _ hk => hk.elim) (fun _ _ => trivial) H10.out (Below.refl _ _) h5 (by omega) ?_; intro v1 w1 ho1 hb1 hg1 hat1; have hz := blk_grown H1.out hg1 (Kd.R_ne H10.out H1.out (by decide)); have HO := Aside0.mk ho1; have HZ := Aside0.mk hz; have HG := Aside0.mk hg1; have HB1 := Aside0.mk hb1; have hc3_ : w1.cell? ⟨p.gg, 3, none⟩ = some v := (blk_cell hz 3).trans rfl; have hf3_ : w1.frozen? ⟨p.gg, 3, none⟩ = false := blk_frozen hz 3; obtain ⟨A1, c1, e1⟩ := Kd.R_slice ho1; subst e1; clear hc3 ho1 hb1 hg1 hz))
 go_ret
 have hfr := fr_put (gs := p.gs) (v := .slice A1 (xs.length + 1) c1) (j := 3) HB1.out h2
 refine ⟨rfl, ?_, below_set (below_weaken HB.out h3 HB1.out) (by omega), hfr⟩
 have := GenB.next (xs := xs ++ [⟨op, a⟩]) HH.out (blk_put HZ.out 3 (.slice A1 (xs.length + 1) c1) rfl) ((Below.heap_setCell w1 _ _ p.gs (by show p.gs ≠ p.gg; omega)).trans (HB1.out.block p.gs h4)) hfr ?_ ?_
 · rw [List.length_append] at this; exact this
 · have hh := HO.out; rw [List.length_append] at hh; exact Kd.R_set hh HZ.out (by decide) 3 _
 · intro x hx; rcases List.mem_append.1 hx with hx | hx
   · exact h12 x hx
   · rw [List.mem_singleton] at hx; subst hx; exact ⟨ho, ha⟩
set_option maxHeartbeats 8000000 in
set_option maxRecDepth 100000 in
theorem full_rel (h : GenB w0 w p n) (hB : Below w0.heap.size w0 w) :
  Calls Try.prog 104 #[.pointer (some ⟨p.gg, 0, none⟩)] w fun e w' => ∃ b : Bool, e = .returned (.bool b) ∧ GenB w0 w' p n ∧ Below w0.heap.size w0 w' ∧ FrB w w' p.base p.gs := by
 have HH := Aside0.mk h
 have HB := Aside0.mk hB
 have hc4 := h.c4
 obtain ⟨v, xs, h1, h2, h6, h7, h10, h11, h12⟩ := h
 obtain ⟨A, c, e⟩ := Kd.R_slice h10
 subst e
 have hc3 : w.cell? ⟨p.gg, 3, none⟩ = some (.slice A xs.length c) := (blk_cell h1 3).trans rfl
 clear h1 h2 h6 h7 h10 hB
 go_enter Try.func104, Try.ntmps104
 go_wp2
 go_quiet (fail)
 go_wp2
 go_ret
 exact ⟨_, rfl, HH.out.drewN _, pw_below_drewN HB.out _, (FrB.refl _ _ _).drewN _⟩
set_option maxHeartbeats 8000000 in
set_option maxRecDepth 100000 in
theorem local_rel (h : GenB w0 w p n) (hB : Below w0.heap.size w0 w) :
  Calls Try.prog 106 #[.pointer (some ⟨p.gg, 0, none⟩)] w fun e w' => ∃ v : Int, e = .returned (.int .i64 v) ∧ in64 v ∧ GenB w0 w' p n ∧ Below w0.heap.size w0 w' ∧ FrB w w' p.base p.gs := by
 have HH := Aside0.mk h
 have HB := Aside0.mk hB
 have hc0 := h.c0
 have hc2 := h.c2
 have HL := Aside0.mk h.loc
 clear h hB
 go_enter Try.func106, Try.ntmps106
 go_wp2
 go_still_tail 8, (by kernel_rfl)
 change wpList _ _ _ _ _ w.drew
 have HD := Aside0.mk HH.out.drew
 have HBD := Aside0.mk (below_drew1 HB.out)
 have HF := Aside0.mk ((FrB.refl w p.base p.gs).drew)
 clear HH HB hc0 hc2
 generalize w.drew = w2 at HD HBD HF ⊢
 go_wp2_with (first | ((with_reducible refine gate_callee (f := 56) rfl ?_); refine goesL_ (some 11) rfl rfl Try.func56 (by kernel_rfl) rfl #[.pointer (some ⟨p.gs, 0, none⟩), .int .i64 p.locals] rfl gl ?_; refine (n_rel HD.out.so HBD.out p.locals (by have := HL.out; omega)).mono ?_; rintro e w3 ⟨v1, rfl, hv, hs, hb, hk⟩; refine ⟨_, rfl, ?_⟩; have n0_ := Aside0.mk (HD.out.src hs hk); have n1_ := Aside0.mk hb; have n2_ := Aside0.mk (HF.out.trans (FrB.keep hk HD.out.le)); have HV := Aside0.mk hv; clear HD HBD HF hs hb hk hv; have HD := n0_; have HBD := n1_; have HF := n2_; clear n0_ n1_ n2_))
 go_ret
 exact ⟨_, rfl, (by have := HV.out; have := HL.out; unfold in64; omega), HD.out, HBD.out, HF.out⟩
end
set_option maxHeartbeats 8000000 in
set_option maxRecDepth 100000 in
theorem here_rel {w0 w : World} {p : GP} {n : Nat} (h : GenB w0 w p n) (hB : Below w0.heap.size w0 w) (at_ : Nat) (hat : at_ < n) (hn : n < 1048576) :
  Calls Try.prog 105 #[.pointer (some ⟨p.gg, 0, none⟩), .int .i64 at_] w fun e w' => e = .returned (.tuple #[]) ∧ GenB w0 w' p n ∧ Below w0.heap.size w0 w' ∧ FrB w w' p.base p.gs := by
 have HB := Aside0.mk hB
 have HH := Aside0.mk h
 obtain ⟨v, xs, h1, ⟨h2, h3, h4, h5⟩, h6, h7, h10, h11, h12⟩ := h
 subst h11
 have H1 := Aside0.mk h1
 obtain ⟨A, c, e⟩ := Kd.R_slice h10
 subst e
 have hp0 : (0 : Int) ≤ (at_ : Int) := by omega
 have hp1 : (at_ : Int) < (xs.length : Int) := by omega
 obtain ⟨ad, c1, ea, _⟩ := Kd.C_get (Kd.R_reads' h10).2.2 z38 (at_ : Int) hp0 (by omega)
 subst ea
 obtain ⟨g', ea⟩ := Kd.R_head h10
 subst ea
 obtain ⟨c, hcl, hM, hcc, hfz⟩ := Kd.R_elem h10 z38 (at_ : Int) hp0 (by omega)
 obtain rfl := k38_openM hM
 have H10 := Aside0.mk h10
 have hc3 : w.cell? ⟨p.gg, 3, none⟩ = some (.slice (some ⟨g', 0, none⟩) xs.length _) := (blk_cell h1 3).trans rfl
 have hc1 := hcc 1 _ rfl
 have hf1 := hfz 1
 have HCC := Aside0.mk hcc
 clear h1 h6 h7 h10 hB hcc hfz hM
 simp only [Int.toNat_natCast] at hc1 hf1
 go_enter Try.func105, Try.ntmps105
 go_wp2
 go_still_tail 12, (by kernel_rfl)
 change wpList _ _ _ _ _ w.drew
 have hc1_ : w.drew.cell? ⟨g', at_ * 2 + 1, none⟩ = some (.int .i64 (xs.getD at_ z38).f1) := hc1
 have hf1_ : w.drew.frozen? ⟨g', at_ * 2 + 1, none⟩ = false := hf1
 have K := Aside0.mk (Kd.R_seg (seg := [.int .i64 (xs.length : Int)]) (j := 1) (okp := fun _ => False) (x' := ⟨(xs.getD at_ z38).f0, (xs.length : Int)⟩) (Kd.R_drew H10.out) (at_ : Int) hp0 (by omega) hcl HCC.out (by show 2 ≤ 2; omega) (k38_mkM _ _ _ _) (fun _ hk => hk.elim))
 have H1_ := Aside0.mk (blk_drew H1.out)
 have HB_ := Aside0.mk (below_drew1 HB.out)
 have HG := Aside0.mk (Kd.R_base H10.out g' (by simp [Value.ownBlock]))
 have HN := Aside0.mk (show p.gg ≠ g' from fun e => Kd.R_ne H10.out H1.out (by decide) (by simp [Value.ownBlock, e]))
 have HD := Aside0.mk HH.out.drew
 have HF := Aside0.mk ((FrB.refl w p.base p.gs).drew)
 clear hc1 hf1 hc3 H1 H10 HCC HB HH
 generalize w.drew = w2 at hc1_ hf1_ K H1_ HB_ HD HF ⊢
 go_wp2
 go_end0
 have e1 : w2.setCells g' ((at_ : Int).toNat * k38.sz + 1) [.int .i64 (xs.length : Int)] = w2.setCell ⟨g', at_ * 2 + 1, none⟩ (.int .i64 (xs.length : Int)) := rfl
 rw [e1] at K
 have hfr : FrB w2 (w2.setCell ⟨g', at_ * 2 + 1, none⟩ (.int .i64 (xs.length : Int))) p.base p.gs := fr_put (Below.refl _ _) HG.out
 refine ⟨rfl, ?_, below_set HB_.out (by have := HG.out; omega), HF.out.trans hfr⟩
 have := GenB.next (xs := xs.set at_ ⟨(xs.getD at_ z38).f0, (xs.length : Int)⟩) HD.out (blk_far H1_.out HN.out _) (Below.heap_setCell w2 _ _ p.gs (by have := HG.out; show p.gs ≠ g'; omega)) hfr K.out.1 ?_
 · rw [List.length_set] at this; exact this
 · intro x hx
   rcases List.mem_or_eq_of_mem_set hx with hx | hx
   · exact h12 x hx
   · subst hx
     have hm : xs.getD at_ z38 ∈ xs := by rw [List.getD_eq_getElem?_getD, List.getElem?_eq_getElem hat]; exact List.getElem_mem _
     exact ⟨(h12 _ hm).1, show -9223372036854775808 ≤ (xs.length : Int) by omega, show (xs.length : Int) ≤ 9223372036854775807 by omega⟩
def E : Nat → Nat
 | 0 => 2
 | n + 1 => 3 * E n + 4
theorem E_pos : ∀ n, 2 ≤ E n
 | 0 => by simp [E]
 | n + 1 => by have := E_pos n; show 2 ≤ 3 * E n + 4; omega
theorem in64_ {x : Int} (h : -9223372036854775808 ≤ x) (k : x ≤ 9223372036854775807) : in64 x := ⟨h, k⟩
theorem sideI {x : Int} (h : in64 x := by first | assumption | (unfold in64; omega) | (unfold in64 at *; omega)) : in64 x := h
set_option maxHeartbeats 8000000 in
set_option maxRecDepth 100000 in
theorem leaf_rel {w0 : World} {p : GP} {w : World} {n : Nat} (deep : Int) (hdd : deep ≤ 0) (h : GenB w0 w p n) (hB : Below w0.heap.size w0 w) (hn : n + 2 < 1048576) :
  Calls Try.prog 81 #[.pointer (some ⟨p.gg, 0, none⟩), .int .i64 deep] w fun e w' => e = .returned (.tuple #[]) ∧ ∃ n', n ≤ n' ∧ n' ≤ n + 2 ∧ GenB w0 w' p n' ∧ Below w0.heap.size w0 w' ∧ FrB w w' p.base p.gs := by
 have HN := Aside0.mk hn
 clear hn
 have HD := Aside0.mk h
 have HB := Aside0.mk hB
 have HF := Aside0.mk (FrB.refl w p.base p.gs)
 have hc0 := h.c0
 have hc1 := h.c1
 have hc2 := h.c2
 clear h hB
 go_enter Try.func81, Try.ntmps81
 go_wp2_with (first | ((with_reducible refine gate_callee (f := 104) rfl ?_); refine goesL_ _ rfl rfl Try.func104 (by kernel_rfl) rfl #[.pointer (some ⟨p.gg, 0, none⟩)] rfl gl ?_; refine (full_rel HD.out HB.out).mono ?_; rintro e w3 ⟨b1, rfl, hG, hb, hf⟩; refine ⟨_, rfl, ?_⟩; have n0_ := Aside0.mk hG; have n1_ := Aside0.mk hb; have n2_ := Aside0.mk (HF.out.trans hf); have n3_ := hG.c0; have n4_ := hG.c1; have n5_ := hG.c2; clear HD HB HF hc0 hc1 hc2 hG hb hf; have HD := n0_; have HB := n1_; have HF := n2_; have hc0 := n3_; have hc1 := n4_; have hc2 := n5_; clear n0_ n1_ n2_ n3_ n4_ n5_; rcases b1 with _ | _) | ((with_reducible refine gate_callee (f := 69) rfl ?_); refine goesL_ _ rfl rfl Try.func69 (by kernel_rfl) rfl #[.pointer (some ⟨p.gs, 0, none⟩), .int .i64 _] rfl gl ?_; refine (one_rel HD.out.so HB.out _ (by have := HN.out; omega) (by have := HN.out; omega)).mono ?_; rintro e w3 ⟨b1, rfl, hs, hb, hk⟩; refine ⟨_, rfl, ?_⟩; have hG := HD.out.src hs hk; have hf := FrB.keep hk HD.out.le; clear hs hk; have n0_ := Aside0.mk hG; have n1_ := Aside0.mk hb; have n2_ := Aside0.mk (HF.out.trans hf); have n3_ := hG.c0; have n4_ := hG.c1; have n5_ := hG.c2; clear HD HB HF hc0 hc1 hc2 hG hb hf; have HD := n0_; have HB := n1_; have HF := n2_; have hc0 := n3_; have hc1 := n4_; have hc2 := n5_; clear n0_ n1_ n2_ n3_ n4_ n5_; rcases b1 with _ | _) | ((refine gate_guard (by rfl) ?_); (with_reducible refine gate_callee (f := 104) rfl ?_); refine goesL_ _ rfl rfl Try.func104 (by kernel_rfl) rfl #[.pointer (some ⟨p.gg, 0, none⟩)] rfl gl ?_; refine (full_rel HD.out HB.out).mono ?_; rintro e w3 ⟨b1, rfl, hG, hb, hf⟩; refine ⟨_, rfl, ?_⟩; have n0_ := Aside0.mk hG; have n1_ := Aside0.mk hb; have n2_ := Aside0.mk (HF.out.trans hf); have n3_ := hG.c0; have n4_ := hG.c1; have n5_ := hG.c2; clear HD HB HF hc0 hc1 hc2 hG hb hf; have HD := n0_; have HB := n1_; have HF := n2_; have hc0 := n3_; have hc1 := n4_; have hc2 := n5_; clear n0_ n1_ n2_ n3_ n4_ n5_; rcases b1 with _ | _) | ((refine gate_guard (by rfl) ?_); (with_reducible refine gate_callee (f := 69) rfl ?_); refine goesL_ _ rfl rfl Try.func69 (by kernel_rfl) rfl #[.pointer (some ⟨p.gs, 0, none⟩), .int .i64 _] rfl gl ?_; refine (one_rel HD.out.so HB.out _ (by have := HN.out; omega) (by have := HN.out; omega)).mono ?_; rintro e w3 ⟨b1, rfl, hs, hb, hk⟩; refine ⟨_, rfl, ?_⟩; have hG := HD.out.src hs hk; have hf := FrB.keep hk HD.out.le; clear hs hk; have n0_ := Aside0.mk hG; have n1_ := Aside0.mk hb; have n2_ := Aside0.mk (HF.out.trans hf); have n3_ := hG.c0; have n4_ := hG.c1; have n5_ := hG.c2; clear HD HB HF hc0 hc1 hc2 hG hb hf; have HD := n0_; have HB := n1_; have HF := n2_; have hc0 := n3_; have hc1 := n4_; have hc2 := n5_; clear n0_ n1_ n2_ n3_ n4_ n5_; rcases b1 with _ | _) | ((with_reducible refine gate_callee (f := 56) rfl ?_); refine goesL_ _ rfl rfl Try.func56 (by kernel_rfl) rfl #[.pointer (some ⟨p.gs, 0, none⟩), .int .i64 _] rfl gl ?_; refine (n_rel HD.out.so HB.out _ (by have := HN.out; omega)).mono ?_; rintro e w3 ⟨v1, rfl, hv, hs, hb, hk⟩; refine ⟨_, rfl, ?_⟩; have hG := HD.out.src hs hk; have hf := FrB.keep hk HD.out.le; clear hs hk; have n0_ := Aside0.mk hG; have n1_ := Aside0.mk hb; have n2_ := Aside0.mk (HF.out.trans hf); have n3_ := hG.c0; have n4_ := hG.c1; have n5_ := hG.c2; clear HD HB HF hc0 hc1 hc2 hG hb hf; have HD := n0_; have HB := n1_; have HF := n2_; have hc0 := n3_; have hc1 := n4_; have hc2 := n5_; clear n0_ n1_ n2_ n3_ n4_ n5_) | ((with_reducible refine gate_callee (f := 107) rfl ?_); refine goesL_ _ rfl rfl Try.func107 (by kernel_rfl) rfl #[.pointer (some ⟨p.gs, 0, none⟩)] rfl gl ?_; refine (num_rel HD.out.so HB.out).mono ?_; rintro e w3 ⟨v1, rfl, hv, hs, hb, hk⟩; refine ⟨_, rfl, ?_⟩; have hG := HD.out.src hs hk; have hf := FrB.keep hk HD.out.le; clear hs hk; have n0_ := Aside0.mk hG; have n1_ := Aside0.mk hb; have n2_ := Aside0.mk (HF.out.trans hf); have n3_ := hG.c0; have n4_ := hG.c1; have n5_ := hG.c2; clear HD HB HF hc0 hc1 hc2 hG hb hf; have HD := n0_; have HB := n1_; have HF := n2_; have hc0 := n3_; have hc1 := n4_; have hc2 := n5_; clear n0_ n1_ n2_ n3_ n4_ n5_) | ((with_reducible refine gate_callee (f := 106) rfl ?_); refine goesL_ _ rfl rfl Try.func106 (by kernel_rfl) rfl #[.pointer (some ⟨p.gg, 0, none⟩)] rfl gl ?_; refine (local_rel HD.out HB.out).mono ?_; rintro e w3 ⟨v1, rfl, hv, hG, hb, hf⟩; refine ⟨_, rfl, ?_⟩; have n0_ := Aside0.mk hG; have n1_ := Aside0.mk hb; have n2_ := Aside0.mk (HF.out.trans hf); have n3_ := hG.c0; have n4_ := hG.c1; have n5_ := hG.c2; clear HD HB HF hc0 hc1 hc2 hG hb hf; have HD := n0_; have HB := n1_; have HF := n2_; have hc0 := n3_; have hc1 := n4_; have hc2 := n5_; clear n0_ n1_ n2_ n3_ n4_ n5_) | ((with_reducible refine gate_callee (f := 82) rfl ?_); refine goesL_ _ rfl rfl Try.func82 (by kernel_rfl) rfl #[.pointer (some ⟨p.gg, 0, none⟩), .int .i64 _, .int .i64 _] rfl gl ?_; refine (put_rel HD.out HB.out _ _ (by have hN_ := HN.out; first | assumption | (unfold in64; omega) | (unfold in64 at *; omega)) (by have hN_ := HN.out; first | assumption | (unfold in64; omega) | (unfold in64 at *; omega)) (by have := HN.out; omega)).mono ?_; rintro e w3 ⟨rfl, hG, hb, hf⟩; refine ⟨_, rfl, ?_⟩; have n0_ := Aside0.mk hG; have n1_ := Aside0.mk hb; have n2_ := Aside0.mk (HF.out.trans hf); have n3_ := hG.c0; have n4_ := hG.c1; have n5_ := hG.c2; clear HD HB HF hc0 hc1 hc2 hG hb hf; have HD := n0_; have HB := n1_; have HF := n2_; have hc0 := n3_; have hc1 := n4_; have hc2 := n5_; clear n0_ n1_ n2_ n3_ n4_ n5_))
 all_goals try ((first | go_end0 | (refine bodyPost_ret (results_none rfl _ _ _) rfl ?_)); exact ⟨rfl, _, by omega, by have := HN.out; omega, HD.out, HB.out, HF.out⟩)
set_option maxHeartbeats 8000000 in
set_option maxRecDepth 100000 in
theorem expr_rel {w0 : World} {p : GP} (m : Nat) : m ≤ 100 → ∀ {w : World} {n : Nat} (deep : Int), -4 ≤ deep → deep ≤ m → GenB w0 w p n → Below w0.heap.size w0 w → n + E m < 1048576 →
  Calls Try.prog 81 #[.pointer (some ⟨p.gg, 0, none⟩), .int .i64 deep] w fun e w' => e = .returned (.tuple #[]) ∧ ∃ n', n ≤ n' ∧ n' ≤ n + E m ∧ GenB w0 w' p n' ∧ Below w0.heap.size w0 w' ∧ FrB w w' p.base p.gs := by
 induction m with
 | zero => exact fun _ _ _ deep h0 h1 h hB hn => leaf_rel deep (by omega) h hB hn
 | succ m ih =>
  intro hm w n deep hd0 hd1 h hB hn
  replace ih := @ih (by omega)
  have hE : E (m + 1) = 3 * E m + 4 := rfl
  rw [hE] at hn ⊢
  have hE2 := E_pos m
  generalize E m = Em at hE hn hE2 ih ⊢
  clear hE
  by_cases hdd : deep ≤ 0
  · refine (leaf_rel deep hdd h hB (by omega)).mono ?_
    rintro e w' ⟨e1, n', h1, h2, h3⟩
    exact ⟨e1, n', h1, by omega, h3⟩
  have hdq : decide (deep ≤ 0) = false := decide_eq_false hdd
  have HN := Aside0.mk (And.intro hn hE2)
  clear hn hE2
  have HD := Aside0.mk h
  have HB := Aside0.mk hB
  have HF := Aside0.mk (FrB.refl w p.base p.gs)
  obtain ⟨hap, hal⟩ := h.al
  have hlo := h.loc
  have hc0 := h.c0
  have hc1 := h.c1
  have hc2 := h.c2
  clear h hB
  go_enter Try.func81, Try.ntmps81
  go_wp2_with (first | ((with_reducible refine gate_dst (N := 105) rfl ?_); refine goesL_ _ rfl rfl Try.func56 (by kernel_rfl) rfl #[.pointer (some ⟨p.gs, 0, none⟩), .int .i64 (p.args.length : Int)] rfl gl ?_; refine (n_rel HD.out.so HB.out _ (by have := HN.out; omega)).mono ?_; rintro e w3 ⟨v1, rfl, hv, hs, hb, hk⟩; refine ⟨_, rfl, ?_⟩; have hG := HD.out.src hs hk; have hf := FrB.keep hk HD.out.le; clear hs hk; have n0_ := Aside0.mk hG; have n1_ := Aside0.mk hb; have n2_ := Aside0.mk (HF.out.trans hf); have n3_ := hG.c0; have n4_ := hG.c1; have n5_ := hG.c2; clear HD HB HF hc0 hc1 hc2 hG hb hf; have HD := n0_; have HB := n1_; have HF := n2_; have hc0 := n3_; have hc1 := n4_; have hc2 := n5_; clear n0_ n1_ n2_ n3_ n4_ n5_; have hv1 : v1 < (p.args.length : Int) := (by have := HN.out; omega); have hv0 := hv.1; have hv0_ := eq_true hv0; have hv1_ := eq_true hv1; obtain ⟨ha1, ha2, ha3⟩ := HD.out.arg v1 hv0 hv1; generalize rd p.args v1 = a1 at ha1 ha2 ha3) | ((with_reducible refine gate_callee (f := 104) rfl ?_); refine goesL_ _ rfl rfl Try.func104 (by kernel_rfl) rfl #[.pointer (some ⟨p.gg, 0, none⟩)] rfl gl ?_; refine (full_rel HD.out HB.out).mono ?_; rintro e w3 ⟨b1, rfl, hG, hb, hf⟩; refine ⟨_, rfl, ?_⟩; have n0_ := Aside0.mk hG; have n1_ := Aside0.mk hb; have n2_ := Aside0.mk (HF.out.trans hf); have n3_ := hG.c0; have n4_ := hG.c1; have n5_ := hG.c2; clear HD HB HF hc0 hc1 hc2 hG hb hf; have HD := n0_; have HB := n1_; have HF := n2_; have hc0 := n3_; have hc1 := n4_; have hc2 := n5_; clear n0_ n1_ n2_ n3_ n4_ n5_; rcases b1 with _ | _) | ((with_reducible refine gate_callee (f := 69) rfl ?_); refine goesL_ _ rfl rfl Try.func69 (by kernel_rfl) rfl #[.pointer (some ⟨p.gs, 0, none⟩), .int .i64 _] rfl gl ?_; refine (one_rel HD.out.so HB.out _ (by have := HN.out; omega) (by have := HN.out; omega)).mono ?_; rintro e w3 ⟨b1, rfl, hs, hb, hk⟩; refine ⟨_, rfl, ?_⟩; have hG := HD.out.src hs hk; have hf := FrB.keep hk HD.out.le; clear hs hk; have n0_ := Aside0.mk hG; have n1_ := Aside0.mk hb; have n2_ := Aside0.mk (HF.out.trans hf); have n3_ := hG.c0; have n4_ := hG.c1; have n5_ := hG.c2; clear HD HB HF hc0 hc1 hc2 hG hb hf; have HD := n0_; have HB := n1_; have HF := n2_; have hc0 := n3_; have hc1 := n4_; have hc2 := n5_; clear n0_ n1_ n2_ n3_ n4_ n5_; rcases b1 with _ | _) | ((refine gate_guard (by rfl) ?_); (with_reducible refine gate_callee (f := 104) rfl ?_); refine goesL_ _ rfl rfl Try.func104 (by kernel_rfl) rfl #[.pointer (some ⟨p.gg, 0, none⟩)] rfl gl ?_; refine (full_rel HD.out HB.out).mono ?_; rintro e w3 ⟨b1, rfl, hG, hb, hf⟩; refine ⟨_, rfl, ?_⟩; have n0_ := Aside0.mk hG; have n1_ := Aside0.mk hb; have n2_ := Aside0.mk (HF.out.trans hf); have n3_ := hG.c0; have n4_ := hG.c1; have n5_ := hG.c2; clear HD HB HF hc0 hc1 hc2 hG hb hf; have HD := n0_; have HB := n1_; have HF := n2_; have hc0 := n3_; have hc1 := n4_; have hc2 := n5_; clear n0_ n1_ n2_ n3_ n4_ n5_; rcases b1 with _ | _) | ((refine gate_guard (by rfl) ?_); (with_reducible refine gate_callee (f := 69) rfl ?_); refine goesL_ _ rfl rfl Try.func69 (by kernel_rfl) rfl #[.pointer (some ⟨p.gs, 0, none⟩), .int .i64 _] rfl gl ?_; refine (one_rel HD.out.so HB.out _ (by have := HN.out; omega) (by have := HN.out; omega)).mono ?_; rintro e w3 ⟨b1, rfl, hs, hb, hk⟩; refine ⟨_, rfl, ?_⟩; have hG := HD.out.src hs hk; have hf := FrB.keep hk HD.out.le; clear hs hk; have n0_ := Aside0.mk hG; have n1_ := Aside0.mk hb; have n2_ := Aside0.mk (HF.out.trans hf); have n3_ := hG.c0; have n4_ := hG.c1; have n5_ := hG.c2; clear HD HB HF hc0 hc1 hc2 hG hb hf; have HD := n0_; have HB := n1_; have HF := n2_; have hc0 := n3_; have hc1 := n4_; have hc2 := n5_; clear n0_ n1_ n2_ n3_ n4_ n5_; rcases b1 with _ | _) | ((with_reducible refine gate_callee (f := 56) rfl ?_); refine goesL_ _ rfl rfl Try.func56 (by kernel_rfl) rfl #[.pointer (some ⟨p.gs, 0, none⟩), .int .i64 _] rfl gl ?_; refine (n_rel HD.out.so HB.out _ (by have := HN.out; omega)).mono ?_; rintro e w3 ⟨v1, rfl, hv, hs, hb, hk⟩; refine ⟨_, rfl, ?_⟩; have hG := HD.out.src hs hk; have hf := FrB.keep hk HD.out.le; clear hs hk; have n0_ := Aside0.mk hG; have n1_ := Aside0.mk hb; have n2_ := Aside0.mk (HF.out.trans hf); have n3_ := hG.c0; have n4_ := hG.c1; have n5_ := hG.c2; clear HD HB HF hc0 hc1 hc2 hG hb hf; have HD := n0_; have HB := n1_; have HF := n2_; have hc0 := n3_; have hc1 := n4_; have hc2 := n5_; clear n0_ n1_ n2_ n3_ n4_ n5_) | ((with_reducible refine gate_callee (f := 107) rfl ?_); refine goesL_ _ rfl rfl Try.func107 (by kernel_rfl) rfl #[.pointer (some ⟨p.gs, 0, none⟩)] rfl gl ?_; refine (num_rel HD.out.so HB.out).mono ?_; rintro e w3 ⟨v1, rfl, hv, hs, hb, hk⟩; refine ⟨_, rfl, ?_⟩; have hG := HD.out.src hs hk; have hf := FrB.keep hk HD.out.le; clear hs hk; have n0_ := Aside0.mk hG; have n1_ := Aside0.mk hb; have n2_ := Aside0.mk (HF.out.trans hf); have n3_ := hG.c0; have n4_ := hG.c1; have n5_ := hG.c2; clear HD HB HF hc0 hc1 hc2 hG hb hf; have HD := n0_; have HB := n1_; have HF := n2_; have hc0 := n3_; have hc1 := n4_; have hc2 := n5_; clear n0_ n1_ n2_ n3_ n4_ n5_) | ((with_reducible refine gate_callee (f := 106) rfl ?_); refine goesL_ _ rfl rfl Try.func106 (by kernel_rfl) rfl #[.pointer (some ⟨p.gg, 0, none⟩)] rfl gl ?_; refine (local_rel HD.out HB.out).mono ?_; rintro e w3 ⟨v1, rfl, hv, hG, hb, hf⟩; refine ⟨_, rfl, ?_⟩; have n0_ := Aside0.mk hG; have n1_ := Aside0.mk hb; have n2_ := Aside0.mk (HF.out.trans hf); have n3_ := hG.c0; have n4_ := hG.c1; have n5_ := hG.c2; clear HD HB HF hc0 hc1 hc2 hG hb hf; have HD := n0_; have HB := n1_; have HF := n2_; have hc0 := n3_; have hc1 := n4_; have hc2 := n5_; clear n0_ n1_ n2_ n3_ n4_ n5_) | ((with_reducible refine gate_callee (f := 82) rfl ?_); refine goesL_ _ rfl rfl Try.func82 (by kernel_rfl) rfl #[.pointer (some ⟨p.gg, 0, none⟩), .int .i64 _, .int .i64 _] rfl gl ?_; refine (put_rel HD.out HB.out _ _ (by have hN_ := HN.out; first | assumption | (unfold in64; omega) | (unfold in64 at *; omega)) (by have hN_ := HN.out; first | assumption | (unfold in64; omega) | (unfold in64 at *; omega)) (by have := HN.out; omega)).mono ?_; rintro e w3 ⟨rfl, hG, hb, hf⟩; refine ⟨_, rfl, ?_⟩; have n0_ := Aside0.mk hG; have n1_ := Aside0.mk hb; have n2_ := Aside0.mk (HF.out.trans hf); have n3_ := hG.c0; have n4_ := hG.c1; have n5_ := hG.c2; clear HD HB HF hc0 hc1 hc2 hG hb hf; have HD := n0_; have HB := n1_; have HF := n2_; have hc0 := n3_; have hc1 := n4_; have hc2 := n5_; clear n0_ n1_ n2_ n3_ n4_ n5_) | ((with_reducible refine gate_callee (f := 81) rfl ?_); refine goesL_ _ rfl rfl Try.func81 (by kernel_rfl) rfl #[.pointer (some ⟨p.gg, 0, none⟩), .int .i64 _] rfl gl ?_; refine (ih _ (by have := HN.out; omega) (by have := HN.out; omega) HD.out HB.out (by have := HN.out; omega)).mono ?_; rintro e w3 ⟨rfl, n1, hl1, hl2, hG, hb, hf⟩; refine ⟨_, rfl, ?_⟩; have n0_ := Aside0.mk hG; have n1_ := Aside0.mk hb; have n2_ := Aside0.mk (HF.out.trans hf); have n3_ := hG.c0; have n4_ := hG.c1; have n5_ := hG.c2; clear HD HB HF hc0 hc1 hc2 hG hb hf; have HD := n0_; have HB := n1_; have HF := n2_; have hc0 := n3_; have hc1 := n4_; have hc2 := n5_; clear n0_ n1_ n2_ n3_ n4_ n5_))
  all_goals try ((first | go_end0 | (refine bodyPost_ret (results_none rfl _ _ _) rfl ?_)); exact ⟨rfl, _, by omega, by have := HN.out; omega, HD.out, HB.out, HF.out⟩)
  go_loopg [7] 2 (fun kq v7 w' => ∃ (nn : Nat) (x : Int), v7 = .int .i64 x ∧ Aside0 (x ≤ kq) ∧ Aside0 (kq ≤ 2 ∧ n ≤ nn ∧ (kq = 2 → nn ≤ n) ∧ (kq = 1 → nn ≤ n + Em) ∧ (kq = 0 → nn ≤ n + (Em + Em))) ∧ Aside0 (GenB w0 w' p nn) ∧ Aside0 (Below w0.heap.size w0 w') ∧ Aside0 (FrB w w' p.base p.gs))
  case atStart => exact ⟨n, a1, rfl, ⟨by omega⟩, ⟨by omega⟩, HD, HB, HF⟩
  case round =>
   clear HD HB HF hc0 hc1 hc2
   obtain ⟨nn, x, rfl, HX, HM, HD, HB, HF⟩ := hrel
   have hc0 := HD.out.c0
   have hc1 := HD.out.c1
   have hc2 := HD.out.c2
   by_cases hx : 0 < x
   · have hxd : decide (0 < x) = true := decide_eq_true hx
     cases gk with
     | zero => exact absurd HX.out (by omega)
     | succ k1 =>
      have hnn := HM.out
      go_wp2_with (first | ((with_reducible refine gate_callee (f := 81) rfl ?_); refine goesL_ _ rfl rfl Try.func81 (by kernel_rfl) rfl #[.pointer (some ⟨p.gg, 0, none⟩), .int .i64 _] rfl gl ?_; refine (ih _ (by have := HN.out; omega) (by have := HN.out; omega) HD.out HB.out (by have := HN.out; omega)).mono ?_; rintro e w3 ⟨rfl, n1, hl1, hl2, hG, hb, hf⟩; refine ⟨_, rfl, ?_⟩; have n0_ := Aside0.mk hG; have n1_ := Aside0.mk hb; have n2_ := Aside0.mk (HF.out.trans hf); have n3_ := hG.c0; have n4_ := hG.c1; have n5_ := hG.c2; clear HD HB HF hc0 hc1 hc2 hG hb hf; have HD := n0_; have HB := n1_; have HF := n2_; have hc0 := n3_; have hc1 := n4_; have hc2 := n5_; clear n0_ n1_ n2_ n3_ n4_ n5_))
      go_roundg k1
      case measure => omega
      case rel => exact ⟨n1, x - 1, by have := HX.out; first | rfl | (simp [wrap_in (n := x - 1) (by omega) (by omega)]; done), ⟨by have := HX.out; omega⟩, ⟨by omega⟩, HD, HB, HF⟩
   · have hxd : decide (0 < x) = false := decide_eq_false hx
     have hnn := HM.out
     have hx2 := HX.out
     clear HM HX
     go_wp2_with (first | ((with_reducible refine gate_callee (f := 104) rfl ?_); refine goesL_ _ rfl rfl Try.func104 (by kernel_rfl) rfl #[.pointer (some ⟨p.gg, 0, none⟩)] rfl gl ?_; refine (full_rel HD.out HB.out).mono ?_; rintro e w3 ⟨b1, rfl, hG, hb, hf⟩; refine ⟨_, rfl, ?_⟩; have n0_ := Aside0.mk hG; have n1_ := Aside0.mk hb; have n2_ := Aside0.mk (HF.out.trans hf); have n3_ := hG.c0; have n4_ := hG.c1; have n5_ := hG.c2; clear HD HB HF hc0 hc1 hc2 hG hb hf; have HD := n0_; have HB := n1_; have HF := n2_; have hc0 := n3_; have hc1 := n4_; have hc2 := n5_; clear n0_ n1_ n2_ n3_ n4_ n5_; rcases b1 with _ | _) | ((with_reducible refine gate_callee (f := 69) rfl ?_); refine goesL_ _ rfl rfl Try.func69 (by kernel_rfl) rfl #[.pointer (some ⟨p.gs, 0, none⟩), .int .i64 _] rfl gl ?_; refine (one_rel HD.out.so HB.out _ (by have := HN.out; omega) (by have := HN.out; omega)).mono ?_; rintro e w3 ⟨b1, rfl, hs, hb, hk⟩; refine ⟨_, rfl, ?_⟩; have hG := HD.out.src hs hk; have hf := FrB.keep hk HD.out.le; clear hs hk; have n0_ := Aside0.mk hG; have n1_ := Aside0.mk hb; have n2_ := Aside0.mk (HF.out.trans hf); have n3_ := hG.c0; have n4_ := hG.c1; have n5_ := hG.c2; clear HD HB HF hc0 hc1 hc2 hG hb hf; have HD := n0_; have HB := n1_; have HF := n2_; have hc0 := n3_; have hc1 := n4_; have hc2 := n5_; clear n0_ n1_ n2_ n3_ n4_ n5_; rcases b1 with _ | _) | ((refine gate_guard (by rfl) ?_); (with_reducible refine gate_callee (f := 104) rfl ?_); refine goesL_ _ rfl rfl Try.func104 (by kernel_rfl) rfl #[.pointer (some ⟨p.gg, 0, none⟩)] rfl gl ?_; refine (full_rel HD.out HB.out).mono ?_; rintro e w3 ⟨b1, rfl, hG, hb, hf⟩; refine ⟨_, rfl, ?_⟩; have n0_ := Aside0.mk hG; have n1_ := Aside0.mk hb; have n2_ := Aside0.mk (HF.out.trans hf); have n3_ := hG.c0; have n4_ := hG.c1; have n5_ := hG.c2; clear HD HB HF hc0 hc1 hc2 hG hb hf; have HD := n0_; have HB := n1_; have HF := n2_; have hc0 := n3_; have hc1 := n4_; have hc2 := n5_; clear n0_ n1_ n2_ n3_ n4_ n5_; rcases b1 with _ | _) | ((refine gate_guard (by rfl) ?_); (with_reducible refine gate_callee (f := 69) rfl ?_); refine goesL_ _ rfl rfl Try.func69 (by kernel_rfl) rfl #[.pointer (some ⟨p.gs, 0, none⟩), .int .i64 _] rfl gl ?_; refine (one_rel HD.out.so HB.out _ (by have := HN.out; omega) (by have := HN.out; omega)).mono ?_; rintro e w3 ⟨b1, rfl, hs, hb, hk⟩; refine ⟨_, rfl, ?_⟩; have hG := HD.out.src hs hk; have hf := FrB.keep hk HD.out.le; clear hs hk; have n0_ := Aside0.mk hG; have n1_ := Aside0.mk hb; have n2_ := Aside0.mk (HF.out.trans hf); have n3_ := hG.c0; have n4_ := hG.c1; have n5_ := hG.c2; clear HD HB HF hc0 hc1 hc2 hG hb hf; have HD := n0_; have HB := n1_; have HF := n2_; have hc0 := n3_; have hc1 := n4_; have hc2 := n5_; clear n0_ n1_ n2_ n3_ n4_ n5_; rcases b1 with _ | _) | ((with_reducible refine gate_callee (f := 56) rfl ?_); refine goesL_ _ rfl rfl Try.func56 (by kernel_rfl) rfl #[.pointer (some ⟨p.gs, 0, none⟩), .int .i64 _] rfl gl ?_; refine (n_rel HD.out.so HB.out _ (by have := HN.out; omega)).mono ?_; rintro e w3 ⟨v1, rfl, hv, hs, hb, hk⟩; refine ⟨_, rfl, ?_⟩; have hG := HD.out.src hs hk; have hf := FrB.keep hk HD.out.le; clear hs hk; have n0_ := Aside0.mk hG; have n1_ := Aside0.mk hb; have n2_ := Aside0.mk (HF.out.trans hf); have n3_ := hG.c0; have n4_ := hG.c1; have n5_ := hG.c2; clear HD HB HF hc0 hc1 hc2 hG hb hf; have HD := n0_; have HB := n1_; have HF := n2_; have hc0 := n3_; have hc1 := n4_; have hc2 := n5_; clear n0_ n1_ n2_ n3_ n4_ n5_) | ((with_reducible refine gate_callee (f := 107) rfl ?_); refine goesL_ _ rfl rfl Try.func107 (by kernel_rfl) rfl #[.pointer (some ⟨p.gs, 0, none⟩)] rfl gl ?_; refine (num_rel HD.out.so HB.out).mono ?_; rintro e w3 ⟨v1, rfl, hv, hs, hb, hk⟩; refine ⟨_, rfl, ?_⟩; have hG := HD.out.src hs hk; have hf := FrB.keep hk HD.out.le; clear hs hk; have n0_ := Aside0.mk hG; have n1_ := Aside0.mk hb; have n2_ := Aside0.mk (HF.out.trans hf); have n3_ := hG.c0; have n4_ := hG.c1; have n5_ := hG.c2; clear HD HB HF hc0 hc1 hc2 hG hb hf; have HD := n0_; have HB := n1_; have HF := n2_; have hc0 := n3_; have hc1 := n4_; have hc2 := n5_; clear n0_ n1_ n2_ n3_ n4_ n5_) | ((with_reducible refine gate_callee (f := 106) rfl ?_); refine goesL_ _ rfl rfl Try.func106 (by kernel_rfl) rfl #[.pointer (some ⟨p.gg, 0, none⟩)] rfl gl ?_; refine (local_rel HD.out HB.out).mono ?_; rintro e w3 ⟨v1, rfl, hv, hG, hb, hf⟩; refine ⟨_, rfl, ?_⟩; have n0_ := Aside0.mk hG; have n1_ := Aside0.mk hb; have n2_ := Aside0.mk (HF.out.trans hf); have n3_ := hG.c0; have n4_ := hG.c1; have n5_ := hG.c2; clear HD HB HF hc0 hc1 hc2 hG hb hf; have HD := n0_; have HB := n1_; have HF := n2_; have hc0 := n3_; have hc1 := n4_; have hc2 := n5_; clear n0_ n1_ n2_ n3_ n4_ n5_) | ((with_reducible refine gate_callee (f := 82) rfl ?_); refine goesL_ _ rfl rfl Try.func82 (by kernel_rfl) rfl #[.pointer (some ⟨p.gg, 0, none⟩), .int .i64 _, .int .i64 _] rfl gl ?_; refine (put_rel HD.out HB.out _ _ (by have hN_ := HN.out; first | assumption | (unfold in64; omega) | (unfold in64 at *; omega)) (by have hN_ := HN.out; first | assumption | (unfold in64; omega) | (unfold in64 at *; omega)) (by have := HN.out; omega)).mono ?_; rintro e w3 ⟨rfl, hG, hb, hf⟩; refine ⟨_, rfl, ?_⟩; have n0_ := Aside0.mk hG; have n1_ := Aside0.mk hb; have n2_ := Aside0.mk (HF.out.trans hf); have n3_ := hG.c0; have n4_ := hG.c1; have n5_ := hG.c2; clear HD HB HF hc0 hc1 hc2 hG hb hf; have HD := n0_; have HB := n1_; have HF := n2_; have hc0 := n3_; have hc1 := n4_; have hc2 := n5_; clear n0_ n1_ n2_ n3_ n4_ n5_))
     all_goals try ((first | go_end0 | (refine bodyPost_ret (results_none rfl _ _ _) rfl ?_)); exact ⟨rfl, _, by omega, by have := HN.out; omega, HD.out, HB.out, HF.out⟩)
end Go.Proofs.Ytopaefhfjioecaa.QFnFileCut
