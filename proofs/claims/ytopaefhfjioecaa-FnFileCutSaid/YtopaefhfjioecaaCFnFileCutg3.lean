/- Parts of the drawn program's maker, by what they leave. No condition. -/
import Derived.Test.YtopaefhfjioecaaCFnFileCutg2
namespace Go.Proofs.Ytopaefhfjioecaa.QFnFileCut
open Go.RowKit Go.Proofs.YtopaefhfjioecaaW.PrintWords Go.Proofs.YtopaefhfjioecaaW.PrintLast Go.Proofs.YtopaefhfjioecaaW.PrintMore
attribute [local go_sem] max2_int min2_int max_two min_two max_three min_three max_four min_four
set_option linter.unusedVariables false
set_option linter.unusedSimpArgs false
theorem info2_ : (Try.prog.info? 2).map (fun i => (i.zero, i.size, i.bytes)) = some (some (.int .i64 0), 1, 8) := by kernel_rfl
theorem info35_ : (Try.prog.info? 35).map (fun i => (i.zero, i.size, i.bytes)) = some (some (.agg #[.int .i64 0, .int .i64 0, .slice none 0 0]), 3, 40) := by kernel_rfl
/-- What is known of a drawn function. -/
def GoodF (x : S35) : Prop := (-1 ≤ x.f0 ∧ x.f0 ≤ 5) ∧ (-1 ≤ x.f1 ∧ x.f1 ≤ 9) ∧ x.f2.length ≤ 1048577 ∧ ∀ i ∈ x.f2, in64 i.f0 ∧ in64 i.f1
/-- The maker of a program at work: the numbers of arguments (va, la), the functions that are made (u, P). -/
def PB (w0 w : World) (gs : Nat) (z : Int) (W : World) (va : Value) (la : List Int) (u : Value) (P : List S35) : Prop :=
 SrcZ w0 W gs z ∧ Below w0.heap.size w0 W ∧ FrB w W w.heap.size gs ∧ W.heap[w.heap.size]? = some (.cells #[.slice none 0 0] 25 (0, 0)) ∧ W.heap[w.heap.size + 1]? = some (.cells #[u] 25 (0, 0)) ∧
 (Kd.R (Kd.int .i64) 2 W w.heap.size (fun _ => True) va la ∧ ∀ a ∈ la, 0 ≤ a ∧ a ≤ 2) ∧ (Kd.S k35 35 W w.heap.size (fun _ => True) u P ∧ ∀ x ∈ P, GoodF x ∧ 0 < x.f2.length ∧ x.f2.length ≤ 1048576) ∧ gs < w.heap.size ∧ w0.heap.size ≤ w.heap.size
theorem grownNo {w w1 : World} (h : w.grownBy w1 none) (row : Option Nat) : w.grownBy w1 row := ⟨h.os, h.tape, h.output, h.size, fun i hi _ => h.block i hi (by simp)⟩
theorem R_fr {α : Type} {d : Kd α} {e : Nat} {w W : World} {base : Nat} {gs : Nat} {v : Value} {xs : List α} (h : Kd.R d e w base (fun _ => True) v xs) (hk : FrB w W w.heap.size gs) (hg : gs < base) : Kd.R d e W base (fun _ => True) v xs :=
 Kd.R_mono (Kd.R_step (Kd.R_bound h) (fun k a b => hk.2 k b (by have := a.2.1; omega))) (fun _ _ => trivial)
theorem S_fr {α : Type} {d : Kd α} {e : Nat} {w W : World} {base : Nat} {gs : Nat} {v : Value} {xs : List α} (h : Kd.S d e w base (fun _ => True) v xs) (hk : FrB w W w.heap.size gs) (hg : gs < base) : Kd.S d e W base (fun k => k < w.heap.size) v xs :=
 Kd.S_mono (Kd.S_step (Kd.S_bound h) (fun k a b => hk.2 k b (by have := a.2.1; omega))) (fun _ a => a.2.2.1)
theorem PB.step {w0 w W W' : World} {gs : Nat} {z z' : Int} {va u : Value} {la : List Int} {P : List S35} (h : PB w0 w gs z W va la u P) (hs : SrcZ w0 W' gs z') (hb : Below w0.heap.size w0 W') (hk : FrB W W' W.heap.size gs) : PB w0 w gs z' W' va la u P := by
 obtain ⟨_, _, h3, h4, h5, ⟨h6, h6'⟩, ⟨h7, h7'⟩, h8, h9⟩ := h
 exact ⟨hs, hb, h3.trans ⟨hk.1, fun i a b => hk.2 i (Nat.lt_of_lt_of_le a h3.1) b⟩, (hk.2 _ (blk_lt h4) (by omega)).trans h4, (hk.2 _ (blk_lt h5) (by omega)).trans h5, ⟨R_fr h6 hk h8, h6'⟩, ⟨Kd.S_mono (S_fr h7 hk h8) (fun _ _ => trivial), h7'⟩, h8, h9⟩
theorem PB.src {w0 w W W' : World} {gs : Nat} {z : Int} {va u : Value} {la : List Int} {P : List S35} (h : PB w0 w gs z W va la u P) (hs : SrcZ w0 W' gs z) (hb : Below w0.heap.size w0 W') (hk : KeepBut W W' gs none) : PB w0 w gs z W' va la u P := h.step hs hb (FrB.keep hk (Nat.le_refl _))
theorem PB.drew {w0 w W : World} {gs : Nat} {z : Int} {va u : Value} {la : List Int} {P : List S35} (h : PB w0 w gs z W va la u P) : PB w0 w gs z W.drew va la u P := h.step (h.1.same rfl) (below_drew1 h.2.1) (FrB.refl _ _ _).drew
theorem PB.start {w0 w : World} {gs : Nat} {z : Int} (h : SrcZ w0 w gs z) (hB : Below w0.heap.size w0 w) : PB w0 w gs z ((w.alloc (.cells #[.slice none 0 0] 25)).alloc (.cells #[.slice none 0 0] 25)) (.slice none 0 0) [] (.slice none 0 0) [] := by
 have hlt := Src.lt ⟨z, h⟩
 have e1 : (w.alloc (.cells #[.slice none 0 0] 25)).heap.size = w.heap.size + 1 := by simp
 have e2 : ∀ i, i < w.heap.size → ((w.alloc (.cells #[.slice none 0 0] 25)).alloc (.cells #[.slice none 0 0] 25)).heap[i]? = w.heap[i]? := fun i hi => (Below.heap_alloc _ _ i (by omega)).trans (Below.heap_alloc _ _ i hi)
 refine ⟨h.same (e2 gs hlt), (hB.alloc hB.size _).alloc (by rw [e1]; have := hB.size; omega) _, ⟨by simp; omega, fun i a _ => e2 i a⟩, ?_, ?_, ⟨Kd.R_nil _ _ _ _ _, by simp⟩, ⟨Kd.S_nil _ _ _ _ _, by simp⟩, hlt, hB.size⟩
 · exact (Below.heap_alloc _ _ _ (by omega)).trans (by simpa using heap_alloc_new w _)
 · have := heap_alloc_new (w.alloc (.cells #[.slice none 0 0] 25)) (.cells #[.slice none 0 0] 25)
   rw [e1] at this
   simpa using this
theorem PB.args {w0 w W W' : World} {gs : Nat} {z : Int} {va va' u : Value} {la la' : List Int} {P : List S35} (h : PB w0 w gs z W va la u P) (hR : Kd.R (Kd.int .i64) 2 W' w.heap.size (fun _ => True) va' la') (hl : ∀ a ∈ la', 0 ≤ a ∧ a ≤ 2) (hb : Below w.heap.size W W') (hg : W.grownBy W' va.ownBlock) : PB w0 w gs z W' va' la' u P := by
 obtain ⟨h1, h2, h3, h4, h5, ⟨h6, h6'⟩, ⟨h7, h7'⟩, h8, h9⟩ := h
 exact ⟨h1.same (hb.block _ h8), below_weaken h2 h9 hb, h3.trans ⟨hb.size, fun i a _ => hb.block i a⟩, blk_grown h4 hg (Kd.R_ne h6 h4 (by decide)), blk_grown h5 hg (Kd.R_ne h6 h5 (by decide)), ⟨hR, hl⟩, ⟨Kd.S_over' h7 (Kd.R_typed h6) (by decide) hg, h7'⟩, h8, h9⟩
theorem min_rel (a b : Int) (w : World) : Calls Try.prog 79 #[.int .i64 a, .int .i64 b] w fun e w' => ∃ v : Int, e = .returned (.int .i64 v) ∧ v ≤ a ∧ (v = a ∨ v = b) ∧ ∃ nd, w' = w.drewN nd := by
 by_cases h : a < b
 · refine (spec_l01Min.calls a b a w (by unfold spec_l01Min.f; rw [if_pos h])).mono ?_
   rintro e w' ⟨rfl, nd, rfl⟩
   exact ⟨a, rfl, Int.le_refl _, .inl rfl, nd, rfl⟩
 · refine (spec_l01Min.calls a b b w (by unfold spec_l01Min.f; rw [if_neg h])).mono ?_
   rintro e w' ⟨rfl, nd, rfl⟩
   exact ⟨b, rfl, by omega, .inr rfl, nd, rfl⟩
theorem PB.argc {w0 w W : World} {gs ga ca : Nat} {z : Int} {u : Value} {la : List Int} {P : List S35} (h : PB w0 w gs z W (.slice (some ⟨ga, 0, none⟩) la.length ca) la u P) (f : Nat) (hf : f < la.length) : W.cell? ⟨ga, f, none⟩ = some (.int .i64 (rd la f)) ∧ 0 ≤ rd la f ∧ rd la f ≤ 2 := by
 obtain ⟨_, _, _, _, _, ⟨hR, h4⟩, _⟩ := h
 obtain ⟨ad, ea, hx⟩ := Kd.at_int (Kd.R_reads' hR).2.2 (f : Int) (by omega) (by omega)
 injection ea with ea
 subst ea
 refine ⟨?_, h4 _ (rd_mem (by omega) (by omega))⟩
 rw [add_at, Nat.zero_add] at hx
 exact hx
theorem frAlloc (nd : Nat) (w : World) (o : Obj) (gs : Nat) : FrB w ((w.drewN nd).alloc o) w.heap.size gs := ⟨by show w.heap.size ≤ ((w.drewN nd).alloc o).heap.size; simp, fun i a _ => Below.heap_alloc (w.drewN nd) o i a⟩
theorem PB.gen {w0 w W : World} {gs : Nat} {z : Int} {va u : Value} {la : List Int} {P : List S35} (nd : Nat) (h : PB w0 w gs z W va la u P) (o : Obj) : PB w0 w gs z ((W.drewN nd).alloc o) va la u P :=
 h.step (h.1.same (Below.heap_alloc (W.drewN nd) o gs (Src.lt ⟨z, h.1⟩))) (below_alloc (pw_below_drewN h.2.1 nd) o) (frAlloc nd W o gs)
theorem GenB.start {w0 w W : World} {gs ga ca : Nat} {z : Int} {u : Value} {la : List Int} {P : List S35} {m1 : Int} (nd : Nat) (h : PB w0 w gs z W (.slice (some ⟨ga, 0, none⟩) la.length ca) la u P) (hl : 0 < la.length ∧ la.length ≤ 3) (hm : 0 ≤ m1 ∧ m1 ≤ 8) (mo : Int) : GenB w0 ((W.drewN nd).alloc (.cells #[.pointer (some ⟨gs, 0, none⟩), .slice (some ⟨ga, 0, none⟩) la.length ca, .int .i64 m1, .slice none 0 0, .int .i64 mo] 109)) ⟨W.heap.size, W.heap.size, gs, ga, ca, la, m1, mo⟩ 0 := by
 have hP := h.gen nd (.cells #[.pointer (some ⟨gs, 0, none⟩), .slice (some ⟨ga, 0, none⟩) la.length ca, .int .i64 m1, .slice none 0 0, .int .i64 mo] 109)
 have hn := heap_alloc_new (W.drewN nd) (.cells #[.pointer (some ⟨gs, 0, none⟩), .slice (some ⟨ga, 0, none⟩) la.length ca, .int .i64 m1, .slice none 0 0, .int .i64 mo] 109)
 refine ⟨.slice none 0 0, [], hn, ⟨Nat.le_refl _, Nat.le_trans h.2.2.2.2.2.2.2.2 h.2.2.1.1, Src.lt ⟨z, h.1⟩, (frAlloc nd W _ gs).1⟩, ⟨z, hP.1⟩, ⟨?_, hl.1, hl.2, h.2.2.2.2.2.1.2, hm⟩, Kd.R_nil _ _ _ _ _, rfl, by simp⟩
 have hR := h.2.2.2.2.2.1.1
 have := Kd.R_lower (Kd.R_bound hR) h.2.2.2.2.2.2.2.2
 refine Kd.R_mono (Kd.R_step this (fun k a b => Below.heap_alloc (W.drewN nd) _ k b)) (fun k a => ⟨?_, ?_⟩)
 · have h1 := a.2.2.1; exact h1
 · have h1 := a.2.1; have h2 := h.2.2.2.2.2.2.2.1; show k ≠ gs; omega
theorem PB.push {w0 w W W' : World} {gs : Nat} {z : Int} {va u u' : Value} {la : List Int} {P P' : List S35} (h : PB w0 w gs z W va la u P) (hR : Kd.S k35 35 W' w.heap.size (fun _ => True) u' P') (hl : ∀ x ∈ P', GoodF x ∧ 0 < x.f2.length ∧ x.f2.length ≤ 1048576) (hb : Below w.heap.size W W') (hg : W.grownBy W' u.ownBlock) : PB w0 w gs z (W'.setCell ⟨w.heap.size + 1, 0, none⟩ u') va la u' P' := by
 obtain ⟨h1, h2, h3, h4, h5, ⟨h6, h6'⟩, ⟨h7, h7'⟩, h8, h9⟩ := h
 have hk5 := blk_grown h5 hg (Kd.R_ne (Kd.S_R h7) h5 (by decide))
 have far : ∀ i, i ≠ w.heap.size + 1 → (W'.setCell ⟨w.heap.size + 1, 0, none⟩ u').heap[i]? = W'.heap[i]? := fun i hi => Below.heap_setCell W' _ _ i hi
 have h6_ := Kd.R_apart' h6 (Kd.S_typed h7) (by decide)
 refine ⟨h1.same ((far gs (by omega)).trans (hb.block _ h8)), below_set (below_weaken h2 h9 hb) (by omega), h3.trans ⟨by show W.heap.size ≤ (W'.setCell _ _).heap.size; simpa [World.setCell] using hb.size, fun i a _ => (far i (by omega)).trans (hb.block i a)⟩, (far _ (by omega)).trans (blk_grown h4 hg (Kd.R_ne (Kd.S_R h7) h4 (by decide))), blk_put hk5 0 u' rfl, ⟨?_, h6'⟩, ⟨Kd.S_set hR hk5 (by decide) 0 u', hl⟩, h8, h9⟩
 exact Kd.R_mono (Kd.R_set (Kd.R_grown h6_ hg (fun k hk => hk.2)) hk5 (by decide) 0 u') (fun _ _ => trivial)
theorem PB.argg {w0 w W W' : World} {gs ga ca : Nat} {z : Int} {u : Value} {la : List Int} {P : List S35} (h : PB w0 w gs z W (.slice (some ⟨ga, 0, none⟩) la.length ca) la u P) (hg : W.grownBy W' u.ownBlock) (f : Nat) (hf : f < la.length) : W'.cell? ⟨ga, f, none⟩ = some (.int .i64 (rd la f)) := by
 have h6 := h.2.2.2.2.2.1.1
 have h7 := h.2.2.2.2.2.2.1.1
 have h8 := Kd.R_apart' h6 (Kd.S_typed h7) (by decide)
 have e := hg.block ga (Kd.R_lt h6 ga (by simp [Value.ownBlock])) ((h8.1 ga (by simp [Value.ownBlock])).2)
 exact (World.cell?_of_block (w := W) e).trans (h.argc f hf).1
theorem goodF {a b : Int} {xs : List S38} {n n1 : Nat} (ha : 0 ≤ a ∧ a ≤ 2) (hx : xs.length = n + 1 ∧ ∀ x ∈ xs, in64 x.f0 ∧ in64 x.f1) (hb : 0 ≤ b ∧ b ≤ 8) (hn : n1 + n + 1 < 1048576) : GoodF ⟨a, b, xs⟩ ∧ 0 < (⟨a, b, xs⟩ : S35).f2.length ∧ (⟨a, b, xs⟩ : S35).f2.length ≤ 1048576 :=
 ⟨⟨⟨by show -1 ≤ a; omega, by show a ≤ 5; omega⟩, ⟨by show -1 ≤ b; omega, by show b ≤ 9; omega⟩, by show xs.length ≤ 1048577; omega, hx.2⟩, by show 0 < xs.length; omega, by show xs.length ≤ 1048576; omega⟩
def GoodP (P : List S35) : Prop := 0 < P.length ∧ P.length ≤ 7 ∧ ∀ x ∈ P, GoodF x
/-- The program that is made, as it stands in its variable. -/
def PO (w0 w : World) (gs : Nat) (z : Int) (W : World) (u : Value) (P : List S35) : Prop :=
 SrcZ w0 W gs z ∧ Below w0.heap.size w0 W ∧ FrB w W w.heap.size gs ∧ W.heap[w.heap.size]? = some (.cells #[.slice none 0 0] 25 (0, 0)) ∧ W.heap[w.heap.size + 1]? = some (.cells #[u] 25 (0, 0)) ∧
 Kd.R k35 35 W w.heap.size (fun _ => True) u P ∧ GoodP P ∧ gs < w.heap.size ∧ w0.heap.size ≤ w.heap.size
theorem PB.po {w0 w W : World} {gs : Nat} {z : Int} {va u : Value} {la : List Int} {P : List S35} (h : PB w0 w gs z W va la u P) (hl : 0 < P.length ∧ P.length ≤ 3) : PO w0 w gs z W u P ∧ Kd.S k35 35 W w.heap.size (fun _ => True) u P ∧ (∀ x ∈ P, 0 < x.f2.length ∧ x.f2.length ≤ 1048576) ∧ P.length ≤ 3 := by
 obtain ⟨h1, h2, h3, h4, h5, _, ⟨h7, h7'⟩, h8, h9⟩ := h
 exact ⟨⟨h1, h2, h3, h4, h5, Kd.S_R h7, ⟨hl.1, by omega, fun x hx => (h7' x hx).1⟩, h8, h9⟩, h7, fun x hx => (h7' x hx).2, hl.2⟩
theorem PO.fin {w0 w W : World} {gs : Nat} {z : Int} {u : Value} {P : List S35} (h : PO w0 w gs z W u P) : ∃ (u' : Value) (P' : List S35), Ending.returned (.agg #[u]) = .returned (.agg #[u']) ∧ Src w0 (W.setCell ⟨w.heap.size, 0, none⟩ u) gs ∧ Below w0.heap.size w0 (W.setCell ⟨w.heap.size, 0, none⟩ u) ∧ KeepBut w (W.setCell ⟨w.heap.size, 0, none⟩ u) gs none ∧ Kd.R k35 35 (W.setCell ⟨w.heap.size, 0, none⟩ u) w.heap.size (fun _ => True) u' P' ∧ GoodP P' := by
 obtain ⟨h1, h2, h3, h4, h5, h6, h7, h8, h9⟩ := h
 refine ⟨u, P, rfl, ⟨z, h1.same (Below.heap_setCell W _ _ gs (by show gs ≠ w.heap.size; omega))⟩, below_set h2 h9, ⟨by simpa [World.setCell] using h3.1, fun i a b _ => (Below.heap_setCell W _ _ i (by show i ≠ w.heap.size; omega)).trans (h3.2 i a b)⟩, Kd.R_set h6 h4 (by decide) 0 u, h7⟩
theorem all_snoc {α : Type} {P : α → Prop} {l : List α} {a : α} (h : ∀ x ∈ l, P x) (k : P a) : ∀ x ∈ l ++ [a], P x := fun x hx => by
 rcases List.mem_append.1 hx with hx | hx
 · exact h x hx
 · rw [List.mem_singleton] at hx; subst hx; exact k
end Go.Proofs.Ytopaefhfjioecaa.QFnFileCut
