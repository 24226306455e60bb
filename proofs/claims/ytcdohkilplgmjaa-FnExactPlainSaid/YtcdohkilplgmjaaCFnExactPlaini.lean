/- Rows whose numbers are written over: what stays. No condition. -/
import Derived.Test.YtcdohkilplgmjaaCFnExactPlainw
namespace Go.Proofs.YtcdohkilplgmjaaW.PrintIsh
open Go.RowKit Go.Proofs.YtcdohkilplgmjaaW.PrintWords Go.Proofs.YtcdohkilplgmjaaW.PrintLast
set_option linter.unusedVariables false
/-- A value in another one's place: the same, or a plain one of the same kind. -/
def twin (u v : Value) : Prop := u = v ∨ (∃ k a b, u = .int k a ∧ v = .int k b) ∨ (∃ a b, u = .bool a ∧ v = .bool b) ∨ (∃ a b, u = .string a ∧ v = .string b)
theorem twin.refl (u : Value) : twin u u := .inl rfl
theorem twin.ofInt (k : IntKind) (a b : Int) : twin (.int k a) (.int k b) := .inr (.inl ⟨k, a, b, rfl, rfl⟩)
theorem twin.ofBool (a b : Bool) : twin (.bool a) (.bool b) := .inr (.inr (.inl ⟨a, b, rfl, rfl⟩))
theorem twin.ofString (a b : ByteArray) : twin (.string a) (.string b) := .inr (.inr (.inr ⟨a, b, rfl, rfl⟩))
theorem twin.trans {u v x : Value} (h : twin u v) (k : twin v x) : twin u x := by
 rcases h with rfl | ⟨q, a, b, rfl, rfl⟩ | ⟨a, b, rfl, rfl⟩ | ⟨a, b, rfl, rfl⟩
 ·exact k
 ·rcases k with rfl | ⟨q', a', b', e, rfl⟩ | ⟨a', b', e, _⟩ | ⟨a', b', e, _⟩
  ·exact twin.ofInt q a b
  ·injection e with e1 e2; subst e1; exact twin.ofInt _ a b'
  ·cases e
  ·cases e
 ·rcases k with rfl | ⟨q', a', b', e, _⟩ | ⟨a', b', e, rfl⟩ | ⟨a', b', e, _⟩
  ·exact twin.ofBool a b
  ·cases e
  ·exact twin.ofBool a b'
  ·cases e
 ·rcases k with rfl | ⟨q', a', b', e, _⟩ | ⟨a', b', e, _⟩ | ⟨a', b', e, rfl⟩
  ·exact twin.ofString a b
  ·cases e
  ·cases e
  ·exact twin.ofString a b'
theorem twin.slice {A : Option Addr} {n c : Nat} {v : Value} (h : twin (.slice A n c) v) : v = .slice A n c := by
 rcases h with h | ⟨_, _, _, h, _⟩ | ⟨_, _, h, _⟩ | ⟨_, _, h, _⟩
 ·exact h.symm
 all_goals cases h
theorem twin.int {k : IntKind} {a : Int} {v : Value} (h : twin (.int k a) v) : ∃ b, v = .int k b := by
 rcases h with rfl | ⟨_, _, b, h, rfl⟩ | ⟨_, _, h, _⟩ | ⟨_, _, h, _⟩
 ·exact ⟨a, rfl⟩
 ·injection h with h1 _; subst h1; exact ⟨b, rfl⟩
 all_goals cases h
theorem twin.bool {a : Bool} {v : Value} (h : twin (.bool a) v) : ∃ b, v = .bool b := by
 rcases h with rfl | ⟨_, _, _, h, _⟩ | ⟨_, b, h, rfl⟩ | ⟨_, _, h, _⟩
 ·exact ⟨a, rfl⟩
 ·cases h
 ·exact ⟨b, rfl⟩
 ·cases h
theorem twin.string {a : ByteArray} {v : Value} (h : twin (.string a) v) : ∃ b, v = .string b := by
 rcases h with rfl | ⟨_, _, _, h, _⟩ | ⟨_, _, h, _⟩ | ⟨_, b, h, rfl⟩
 ·exact ⟨a, rfl⟩
 ·cases h
 ·cases h
 ·exact ⟨b, rfl⟩
/-- Cells, place by place. -/
def Al (cs cs' : List Value) : Prop := cs'.length = cs.length ∧ ∀ (i : Nat) (u : Value), cs[i]? = some u → ∃ v, cs'[i]? = some v ∧ twin u v
theorem Al.take {cs cs' : List Value} (h : Al cs cs') (n : Nat) : Al (cs.take n) (cs'.take n) := by
 refine ⟨by simp [h.1], fun i u hu => ?_⟩
 rw [List.getElem?_take] at hu ⊢
 split at hu
 ·rename_i hi; rw [if_pos hi]; exact h.2 i u hu
 ·cases hu
theorem Al.drop {cs cs' : List Value} (h : Al cs cs') (n : Nat) : Al (cs.drop n) (cs'.drop n) := by
 refine ⟨by simp [h.1], fun i u hu => ?_⟩
 rw [List.getElem?_drop] at hu ⊢
 exact h.2 _ u hu
theorem Al.append {a b cs' : List Value} (h : Al (a ++ b) cs') : ∃ a' b', cs' = a' ++ b' ∧ Al a a' ∧ Al b b' := by
 refine ⟨cs'.take a.length, cs'.drop a.length, (List.take_append_drop _ _).symm, ?_, ?_⟩
 ·have := h.take a.length
  simpa using this
 ·have := h.drop a.length
  simpa using this
/-- A later world, in which plain cells of the blocks of P may have been written over. -/
structure Ish (w W : World) (P : Nat → Prop) : Prop where
 size : w.heap.size ≤ W.heap.size
 far : ∀ b, b < w.heap.size → ¬ P b → W.heap[b]? = w.heap[b]?
 near : ∀ (b : Nat) (c : Array Value) (q : TypeId) (fz : Nat × Nat), w.heap[b]? = some (.cells c q fz) → ∃ c' : Array Value, W.heap[b]? = some (.cells c' q fz) ∧ Al c.toList c'.toList
theorem Ish.refl (w : World) (P : Nat → Prop) : Ish w w P := ⟨Nat.le_refl _, fun _ _ _ => rfl, fun b c q fz h => ⟨c, h, rfl, fun i u hu => ⟨u, hu, twin.refl u⟩⟩⟩
theorem Ish.trans {w W W' : World} {P P' : Nat → Prop} (h : Ish w W P) (k : Ish W W' P') (hp : ∀ b, b < w.heap.size → P' b → P b) : Ish w W' P := by
 refine ⟨Nat.le_trans h.size k.size, fun b hb hn => ?_, fun b c q fz hc => ?_⟩
 ·exact (k.far b (Nat.lt_of_lt_of_le hb h.size) (fun hq => hn (hp b hb hq))).trans (h.far b hb hn)
 ·obtain ⟨c', h1, h2⟩ := h.near b c q fz hc
  obtain ⟨c'', h3, h4⟩ := k.near b c' q fz h1
  refine ⟨c'', h3, h4.1.trans h2.1, fun i u hu => ?_⟩
  obtain ⟨v, hv, t1⟩ := h2.2 i u hu
  obtain ⟨x, hx, t2⟩ := h4.2 i v hv
  exact ⟨x, hx, t1.trans t2⟩
theorem Ish.below {w W W' : World} {P : Nat → Prop} (h : Ish w W P) (hb : Below W.heap.size W W') : Ish w W' P :=
 h.trans (P' := fun _ => False) ⟨hb.size, fun b hlt _ => hb.block b hlt, fun b c q fz hc => by
  have hlt : b < W.heap.size := by
   rcases Nat.lt_or_ge b W.heap.size with q | q
   ·exact q
   ·rw [Array.getElem?_eq_none q] at hc; cases hc
  exact ⟨c, (hb.block b hlt).trans hc, rfl, fun i u hu => ⟨u, hu, twin.refl u⟩⟩⟩ (fun _ _ hf => hf.elim)
theorem Ish.alloc {w W : World} {P : Nat → Prop} (h : Ish w W P) (o : Obj) : Ish w (W.alloc o) P := h.below (below_alloc (Below.refl _ _) o)
theorem Ish.drew {w W : World} {P : Nat → Prop} (h : Ish w W P) : Ish w W.drew P := ⟨h.size, h.far, h.near⟩
theorem Ish.drewN {w W : World} {P : Nat → Prop} (h : Ish w W P) (m : Nat) : Ish w (W.drewN m) P := ⟨h.size, h.far, h.near⟩
theorem iw {P Q : Prop} (h : Aside0 P) (k : Aside0 P → Q := by intro h_; repeat (first | (with_reducible first | exact h_.out | apply Ish.alloc | apply Ish.drewN | apply Ish.drew) | exact h_.out)) : Q := k h
theorem Ish.kept {w W : World} {P : Nat → Prop} (h : Ish w W P) : Kept w W P := ⟨h.size, h.far⟩
theorem Ish.set {w W : World} {P : Nat → Prop} (h : Ish w W P) {g j : Nat} {u v : Value} (hc : W.cell? ⟨g, j, none⟩ = some u) (ht : twin u v) (hp : g < w.heap.size → P g) : Ish w (W.setCell ⟨g, j, none⟩ v) P := by
 refine h.trans (P' := fun b => b = g) ⟨by simp [World.setCell], fun b hb hn => ?_, fun b c q fz hb => ?_⟩ (fun b hb e => by subst e; exact hp hb)
 ·simp only [World.setCell, Array.getElem?_modify]
  rw [if_neg (fun e => hn e.symm)]
 ·simp only [World.setCell, Array.getElem?_modify]
  by_cases e : g = b
  ·subst e
   rw [if_pos rfl, hb]
   refine ⟨_, rfl, by simp, fun i x hx => ?_⟩
   simp only [World.cell?, hb, Option.isSome_none, Bool.false_eq_true, if_false] at hc
   simp only [Option.isSome_none, Bool.false_eq_true, if_false, Array.toList_setIfInBounds]
   rw [List.getElem?_set]
   by_cases ei : j = i
   ·subst ei
    rw [if_pos rfl]
    have hlt : j < c.toList.length := by
     rcases Nat.lt_or_ge j c.toList.length with q | q
     ·exact q
     ·rw [List.getElem?_eq_none q] at hx; cases hx
    rw [if_pos hlt]
    refine ⟨v, rfl, ?_⟩
    have hx' : c[j]? = some x := by simpa using hx
    rw [hx'] at hc
    injection hc with hc; subst hc; exact ht
   ·rw [if_neg ei]; exact ⟨x, hx, twin.refl x⟩
  ·rw [if_neg e]; exact ⟨c, hb, rfl, fun i u hu => ⟨u, hu, twin.refl u⟩⟩
def All2 {α : Type} (sh : α → α → Prop) (xs ys : List α) : Prop := ys.length = xs.length ∧ ∀ (j : Nat) (x y : α), xs[j]? = some x → ys[j]? = some y → sh x y
structure Twn {α : Type} (d : Kd α) (sh : α → α → Prop) : Prop where
 M : ∀ {w W : World} {P : Nat → Prop} {base : Nat} {ok : Nat → Prop} {x : α} {cs cs' : List Value}, Ish w W P → Al cs cs' → d.M w base ok x cs → ∃ x', sh x x' ∧ d.M W base ok x' cs'
theorem list_of {β : Type} {Q : Nat → β → Prop} : ∀ n, (∀ j, j < n → ∃ y, Q j y) → ∃ ys : List β, ys.length = n ∧ ∀ j y, ys[j]? = some y → Q j y
 | 0, _ => ⟨[], rfl, fun j y h => by simp at h⟩
 | n + 1, h => by
  obtain ⟨ys, h1, h2⟩ := list_of n (fun j hj => h j (by omega))
  obtain ⟨y, hy⟩ := h n (by omega)
  refine ⟨ys ++ [y], by simp [h1], fun j z hz => ?_⟩
  rcases Nat.lt_or_ge j n with q | q
  ·rw [List.getElem?_append_left (by omega)] at hz; exact h2 j z hz
  ·rw [List.getElem?_append_right (by omega)] at hz
   have hj : j = n := by
    rcases Nat.lt_or_ge (j - ys.length) 1 with q2 | q2
    ·omega
    ·rw [List.getElem?_eq_none (by simpa using q2)] at hz; cases hz
   subst hj
   rw [h1, Nat.sub_self] at hz
   simp at hz; subst hz; exact hy
theorem R_twn {α : Type} {d : Kd α} {sh : α → α → Prop} (T : Twn d sh) {e : Nat} {w W : World} {P : Nat → Prop} {base : Nat} {ok : Nat → Prop} {v : Value} {xs : List α} (hi : Ish w W P) (h : Kd.R d e w base ok v xs) : ∃ xs', All2 sh xs xs' ∧ Kd.R d e W base ok v xs' := by
 obtain ⟨h0, inner, ⟨ho, hr⟩, hl, hm⟩ := h
 rcases hr with ⟨rfl, hn⟩ | ⟨g, cap, cur, rfl, hg, hh, r1, r2, r3, r4⟩
 ·have : xs = [] := by simpa using hn
  subst this
  exact ⟨[], ⟨rfl, fun j x y hx => by simp at hx⟩, Kd.R_nil d e W base ok⟩
 ·obtain ⟨c', hc', ha⟩ := hi.near g cur e (0, 0) hh
  have hin : Al inner (c'.toList.take (xs.length * d.sz)) := by rw [← r4]; exact ha.take _
  have ex : ∀ j, j < xs.length → ∃ y, (∀ x, xs[j]? = some x → sh x y) ∧ d.M W base (fun k => ok k ∧ some k ≠ (Value.slice (some ⟨g, 0, none⟩) xs.length cap).ownBlock) y (((c'.toList.take (xs.length * d.sz)).drop (j * d.sz)).take d.sz) := by
   intro j hj
   obtain ⟨y, hs, hM⟩ := T.M hi ((hin.drop (j * d.sz)).take d.sz) (hm j _ (List.getElem?_eq_getElem hj))
   exact ⟨y, fun x hx => by rw [List.getElem?_eq_getElem hj] at hx; injection hx with hx; subst hx; exact hs, hM⟩
  obtain ⟨ys, hyl, hys⟩ := list_of xs.length ex
  refine ⟨ys, ⟨hyl, fun j x y hx hy => (hys j y hy).1 x hx⟩, h0, c'.toList.take (xs.length * d.sz), ⟨?_, ?_⟩, ?_, fun j y hy => ?_⟩
  ·rw [hin.1, hl, hyl]
  ·refine .inr ⟨g, cap, c', by rw [hyl], hg, hc', by rw [hyl]; exact r1, r2, ?_, by rw [hyl]⟩
   have := ha.1
   simp only [Array.length_toList] at this
   rw [this]; exact r3
  ·rw [hin.1, hl, hyl]
  ·exact (hys j y hy).2
theorem twn_int (k : IntKind) : Twn (Kd.int k) (fun _ _ => True) := ⟨by
 intro w W P base ok x cs cs' hi ha hM
 have e : cs = [.int k x] := hM
 subst e
 obtain ⟨v, hv, ht⟩ := ha.2 0 _ rfl
 obtain ⟨b, rfl⟩ := ht.int
 have hl := ha.1
 match cs', hl, hv with
 | [z], _, hv => simp at hv; subst hv; exact ⟨b, trivial, rfl⟩⟩
theorem twn_bool : Twn Kd.bool (fun _ _ => True) := ⟨by
 intro w W P base ok x cs cs' hi ha hM
 have e : cs = [.bool x] := hM
 subst e
 obtain ⟨v, hv, ht⟩ := ha.2 0 _ rfl
 obtain ⟨b, rfl⟩ := ht.bool
 have hl := ha.1
 match cs', hl, hv with
 | [z], _, hv => simp at hv; subst hv; exact ⟨b, trivial, rfl⟩⟩
theorem twn_string : Twn Kd.string (fun _ _ => True) := ⟨by
 intro w W P base ok x cs cs' hi ha hM
 have e : cs = [.string x] := hM
 subst e
 obtain ⟨v, hv, ht⟩ := ha.2 0 _ rfl
 obtain ⟨b, rfl⟩ := ht.string
 have hl := ha.1
 match cs', hl, hv with
 | [z], _, hv => simp at hv; subst hv; exact ⟨b, trivial, rfl⟩⟩
theorem twn_slice {α : Type} {d : Kd α} {sh : α → α → Prop} (T : Twn d sh) (e : Nat) : Twn (Kd.slice e d) (All2 sh) := ⟨by
 intro w W P base ok x cs cs' hi ha hM
 obtain ⟨v, rfl, hR⟩ : ∃ v, cs = [v] ∧ Kd.R d e w base ok v x := hM
 obtain ⟨A, c, rfl⟩ := Kd.R_slice hR
 obtain ⟨v', hv, ht⟩ := ha.2 0 _ rfl
 have := ht.slice; subst this
 have hl := ha.1
 obtain ⟨xs', hs, hR'⟩ := R_twn T hi hR
 match cs', hl, hv with
 | [z], _, hv => simp at hv; subst hv; exact ⟨xs', hs, _, rfl, hR'⟩⟩
theorem twn_pair {α β : Type} {a : Kd α} {b : Kd β} {sa : α → α → Prop} {sb : β → β → Prop} (Ta : Twn a sa) (Tb : Twn b sb) : Twn (Kd.pair a b) (fun x y => sa x.1 y.1 ∧ sb x.2 y.2) := ⟨by
 intro w W P base ok x cs cs' hi ha hM
 obtain ⟨c0, c1, rfl, h0, h1⟩ := hM
 obtain ⟨a', b', rfl, g0, g1⟩ := ha.append
 obtain ⟨y0, s0, m0⟩ := Ta.M hi g0 h0
 obtain ⟨y1, s1, m1⟩ := Tb.M hi g1 h1
 exact ⟨(y0, y1), ⟨s0, s1⟩, a', b', rfl, m0, m1⟩⟩
theorem twn_iso {α β : Type} {d : Kd α} {sh : α → α → Prop} (T : Twn d sh) (f : β → α) (g : α → β) (hfg : ∀ a, f (g a) = a) : Twn (Kd.iso d f) (fun x y => sh (f x) (f y)) := ⟨by
 intro w W P base ok x cs cs' hi ha hM
 obtain ⟨y, s, m⟩ := T.M hi ha (show d.M w base ok (f x) cs from hM)
 refine ⟨g y, by rw [hfg]; exact s, ?_⟩
 show d.M W base ok (f (g y)) cs'
 rw [hfg]; exact m⟩
theorem fold_sh {α : Type} {sh : α → α → Prop} {g : Int → α → Int} (h : ∀ (k : Int) (x y : α), sh x y → g k x = g k y) : ∀ (k : Int) {xs ys : List α}, All2 sh xs ys → xs.foldl g k = ys.foldl g k
 | k, [], [], _ => rfl
 | k, [], y :: ys, a => by have := a.1; simp at this
 | k, x :: xs, [], a => by have := a.1; simp at this
 | k, x :: xs, y :: ys, a => by
  simp only [List.foldl_cons]
  rw [h k x y (a.2 0 x y rfl rfl)]
  exact fold_sh h _ ⟨by have := a.1; simp at this; omega, fun j p q hp hq => a.2 (j + 1) p q (by simpa using hp) (by simpa using hq)⟩
theorem R_in {α : Type} {d : Kd α} {e : Nat} {w : World} {base : Nat} {ok : Nat → Prop} {v : Value} {xs : List α} (h : Kd.R d e w base ok v xs) : Kd.R d e w base (fun k => ok k ∧ k < w.heap.size) v xs := Kd.R_mono (Kd.R_bound h) (fun k h => ⟨h.1, h.2.2.1⟩)
/-- A block whose cells are of one of these types. -/
def tyIn (w : World) (es : List TypeId) (k : Nat) : Prop := ∃ q, q ∈ es ∧ ∃ cells, w.heap[k]? = some (.cells cells q (0, 0))
theorem R_typedIn {α : Type} {d : Kd α} {e : Nat} {w : World} {base : Nat} {ok : Nat → Prop} {v : Value} {xs : List α} (h : Kd.R d e w base ok v xs) : Kd.R d e w base (fun k => base ≤ k ∧ tyIn w (e :: Kd.E d) k) v xs := Kd.R_mono (Kd.R_bound h) (fun k h => ⟨h.2.1, h.2.2.2⟩)
theorem tyIn_no {w : World} {es es' : List TypeId} {k : Nat} (h : tyIn w es k) (h' : tyIn w es' k) (hd : ∀ q, q ∈ es → ∀ q', q' ∈ es' → q ≠ q') : False := by
 obtain ⟨q, hq, c, hc⟩ := h
 obtain ⟨q', hq', c', hc'⟩ := h'
 rw [hc] at hc'
 injection hc' with e
 injection e with _ e2
 exact hd q hq q' hq' e2
theorem tyIn_blk {w : World} {es : List TypeId} {k t : Nat} {c : Array Value} (h : tyIn w es k) (hb : w.heap[k]? = some (.cells c t (0, 0))) (hd : ∀ q, q ∈ es → q ≠ t) : False := tyIn_no h ⟨t, List.mem_singleton.2 rfl, c, hb⟩ (fun q hq q' hq' => by rw [List.mem_singleton.1 hq']; exact hd q hq)
/-- A block that lies outside stays as it was. -/
theorem Ish.box {w W : World} {P : Nat → Prop} {b : Nat} {c : Array Value} {q : TypeId} {fz : Nat × Nat} (h : Ish w W P) (hb : w.heap[b]? = some (.cells c q fz)) (hn : ¬ P b) : W.heap[b]? = some (.cells c q fz) := by
 have hlt : b < w.heap.size := by
  rcases Nat.lt_or_ge b w.heap.size with z | z
  ·exact z
  ·rw [Array.getElem?_eq_none z] at hb; cases hb
 exact (h.far b hlt hn).trans hb
theorem cell1 {W : World} {g i : Nat} {u : Value} (h : W.cell? ⟨g, i * 1 + 0, none⟩ = some u) : W.cell? ⟨g, i, none⟩ = some u := by
 rw [Nat.mul_one, Nat.add_zero] at h
 exact h
theorem froz1 {W : World} {g i : Nat} (h : W.frozen? ⟨g, i * 1 + 0, none⟩ = false) : W.frozen? ⟨g, i, none⟩ = false := by
 rw [Nat.mul_one, Nat.add_zero] at h
 exact h
end Go.Proofs.YtcdohkilplgmjaaW.PrintIsh
