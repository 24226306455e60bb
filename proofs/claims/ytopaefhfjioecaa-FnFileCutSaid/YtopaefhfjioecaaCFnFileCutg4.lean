/- Parts of the drawn program's maker, by what they leave. No condition. -/
import Derived.Test.YtopaefhfjioecaaCFnFileCutg3
namespace Go.Proofs.Ytopaefhfjioecaa.QFnFileCut
open Go.RowKit Go.Proofs.YtopaefhfjioecaaW.PrintWords Go.Proofs.YtopaefhfjioecaaW.PrintLast Go.Proofs.YtopaefhfjioecaaW.PrintMore
attribute [local go_sem] max2_int min2_int max_two min_two max_three min_three max_four min_four
set_option linter.unusedVariables false
set_option linter.unusedSimpArgs false
/-- The program at work, with its function i lent: its own cells, its code's row. -/
def PH (w0 w : World) (gs : Nat) (z : Int) (W : World) (gu cu : Nat) (P : List S35) (i : Int) (oki : Nat → Prop) (f0 f1 : Int) (v2 : Value) (xs : List S38) : Prop :=
 SrcZ w0 W gs z ∧ Below w0.heap.size w0 W ∧ FrB w W w.heap.size gs ∧ W.heap[w.heap.size]? = some (.cells #[.slice none 0 0] 25 (0, 0)) ∧ W.heap[w.heap.size + 1]? = some (.cells #[.slice (some ⟨gu, 0, none⟩) P.length cu] 25 (0, 0)) ∧
 Kd.H k35 35 W w.heap.size (fun k => w.heap.size ≤ k) (.slice (some ⟨gu, 0, none⟩) P.length cu) P i oki [.int .i64 f0, .int .i64 f1, v2] ∧ Kd.R k38 38 W w.heap.size oki v2 xs ∧ (∀ k, oki k → w.heap.size ≤ k ∧ k ≠ gu) ∧ gs < w.heap.size ∧ w0.heap.size ≤ w.heap.size
section
variable {w0 w W W' : World} {gs gu cu : Nat} {z z' : Int} {P : List S35} {i : Int} {oki : Nat → Prop} {f0 f1 : Int} {v2 : Value} {xs : List S38}
theorem PH.lend (h : PO w0 w gs z W (.slice (some ⟨gu, 0, none⟩) P.length cu) P) (hS : Kd.S k35 35 W w.heap.size (fun _ => True) (.slice (some ⟨gu, 0, none⟩) P.length cu) P) (i : Int) (h0 : 0 ≤ i) (h1 : i < (P.length : Int)) : ∃ (oki : Nat → Prop) (v2 : Value), PH w0 w gs z W gu cu P i oki (rd_T35 P i).f0 (rd_T35 P i).f1 v2 (rd_T35 P i).f2 := by
 obtain ⟨a1, a2, a3, a4, a5, a6, a7, a8, a9⟩ := h
 have hS' := Kd.S_mono (Kd.S_bound hS) (ok' := fun k => w.heap.size ≤ k) (fun k a => a.2.1)
 obtain ⟨oki, c, hcl, hM, hcc, hok, hH⟩ := Kd.S_lend hS' z35 i h0 (by omega)
 obtain ⟨v2, rfl, hR⟩ := k35_openM hM
 exact ⟨oki, v2, a1, a2, a3, a4, a5, hH, hR, hok, a8, a9⟩
theorem PH.fr (h : PH w0 w gs z W gu cu P i oki f0 f1 v2 xs) (hs : SrcZ w0 W' gs z') (hb : Below w0.heap.size w0 W') (hk : FrB W W' W.heap.size gs) : PH w0 w gs z' W' gu cu P i oki f0 f1 v2 xs := by
 obtain ⟨_, _, a3, a4, a5, a6, a7, a8, a9, a10⟩ := h
 refine ⟨hs, hb, a3.trans ⟨hk.1, fun i a b => hk.2 i (Nat.lt_of_lt_of_le a a3.1) b⟩, (hk.2 _ (blk_lt a4) (by omega)).trans a4, (hk.2 _ (blk_lt a5) (by omega)).trans a5, Kd.H_step a6 (fun k a _ b => hk.2 k b (by omega)), Kd.R_step a7 (fun k a b => hk.2 k b (by have := (a8 k a).1; omega)), a8, a9, a10⟩
theorem PH.src (h : PH w0 w gs z W gu cu P i oki f0 f1 v2 xs) (hs : SrcZ w0 W' gs z') (hb : Below w0.heap.size w0 W') (hk : KeepBut W W' gs none) : PH w0 w gs z' W' gu cu P i oki f0 f1 v2 xs := h.fr hs hb (FrB.keep hk (Nat.le_refl _))
theorem PH.drew (h : PH w0 w gs z W gu cu P i oki f0 f1 v2 xs) : PH w0 w gs z W.drew gu cu P i oki f0 f1 v2 xs := h.fr (h.1.same rfl) (below_drew1 h.2.1) (FrB.refl _ _ _).drew
theorem PH.alloc (h : PH w0 w gs z W gu cu P i oki f0 f1 v2 xs) (o : Obj) : PH w0 w gs z (W.alloc o) gu cu P i oki f0 f1 v2 xs :=
 h.fr (h.1.same (Below.heap_alloc W o gs (Src.lt ⟨z, h.1⟩))) (below_alloc h.2.1 o) (frAlloc 0 W o gs)
/-- The lent function's cells. -/
theorem PH.cells (h : PH w0 w gs z W gu cu P i oki f0 f1 v2 xs) (h0 : 0 ≤ i) (h1 : i < (P.length : Int)) : (W.cell? ⟨gu, i.toNat * 3, none⟩ = some (.int .i64 f0) ∧ W.cell? ⟨gu, i.toNat * 3 + 1, none⟩ = some (.int .i64 f1) ∧ W.cell? ⟨gu, i.toNat * 3 + 2, none⟩ = some v2) ∧ W.frozen? ⟨gu, i.toNat * 3, none⟩ = false ∧ W.frozen? ⟨gu, i.toNat * 3 + 1, none⟩ = false ∧ W.frozen? ⟨gu, i.toNat * 3 + 2, none⟩ = false := by
 obtain ⟨hc, hf⟩ := Kd.H_at h.2.2.2.2.2.1 h0 (by omega)
 exact ⟨⟨hc 0 _ rfl, hc 1 _ rfl, hc 2 _ rfl⟩, hf 0, hf 1, hf 2⟩
/-- The code's row has been written. -/
theorem PH.inner {gc n c : Nat} {xs' : List S38} (h : PH w0 w gs z W gu cu P i oki f0 f1 (.slice (some ⟨gc, 0, none⟩) n c) xs) (hR : Kd.R k38 38 W' w.heap.size oki (.slice (some ⟨gc, 0, none⟩) n c) xs') (hg : W.grownBy W' (some gc)) : PH w0 w gs z W' gu cu P i oki f0 f1 (.slice (some ⟨gc, 0, none⟩) n c) xs' := by
 obtain ⟨a1, a2, a3, a4, a5, a6, a7, a8, a9, a10⟩ := h
 have hb := Kd.R_base a7 gc (by simp [Value.ownBlock])
 have ho := a7.1 gc (by simp [Value.ownBlock])
 have e : (some gc : Option Nat) = (Value.slice (some ⟨gc, 0, none⟩) n c).ownBlock := by simp [Value.ownBlock]
 have ne : ∀ g, g < w.heap.size → some g ≠ (some gc : Option Nat) := fun g hgl he => by injection he; omega
 refine ⟨a1.same (hg.block _ (Src.lt ⟨z, a1⟩) (ne gs a9)), a2.grown hg a2.size (fun k hk => by injection hk with hk; omega), a3.trans ⟨hg.size, fun j a b => hg.block j (Nat.lt_of_lt_of_le a a3.1) (ne j a)⟩, blk_grown a4 hg (by rw [e]; exact Kd.R_ne a7 a4 (by decide)), blk_grown a5 hg (by rw [e]; exact Kd.R_ne a7 a5 (by decide)), Kd.H_grown a6 hg (fun k hk => by injection hk with hk; rw [← hk]; exact ho), hR, a8, a9, a10⟩
theorem goodSet {x : S35} (hP : GoodP P) (hx : GoodF x) (i : Nat) : GoodP (P.set i x) := by
 obtain ⟨a, b, c⟩ := hP
 refine ⟨by rw [List.length_set]; exact a, by rw [List.length_set]; exact b, fun y hy => ?_⟩
 rcases List.mem_or_eq_of_mem_set hy with hy | rfl
 · exact c y hy
 · exact hx
/-- The function is given back. -/
theorem PH.back (h : PH w0 w gs z W gu cu P i oki f0 f1 v2 xs) (hP : GoodP P) (hx : GoodF ⟨f0, f1, xs⟩) : PO w0 w gs z W (.slice (some ⟨gu, 0, none⟩) P.length cu) (P.set i.toNat ⟨f0, f1, xs⟩) := by
 obtain ⟨a1, a2, a3, a4, a5, a6, a7, a8, a9, a10⟩ := h
 exact ⟨a1, a2, a3, a4, a5, Kd.R_mono (Kd.S_R (Kd.H_back a6 (k35_mkM _ _ _ ⟨f0, f1, xs⟩ a7) (fun _ hk => hk))) (fun _ _ => trivial), goodSet hP hx _, a9, a10⟩
theorem H_ne {ok : Nat → Prop} {n cap : Nat} {c : List Value} (h : Kd.H k35 35 W w.heap.size ok (.slice (some ⟨gu, 0, none⟩) n cap) P i oki c) {b : Nat} {cs : Array Value} (hb : W.heap[b]? = some (.cells cs 25 (0, 0))) : some b ≠ (some gu : Option Nat) := by
 obtain ⟨_, f, hR⟩ := h
 have := Kd.R_ne hR hb (by decide)
 simpa [Value.ownBlock] using this
/-- One of the function's own cells has been written. -/
theorem own_ {x : Value} {x' : S35} {oki' : Nat → Prop} {v3 : Value} (a1 : SrcZ w0 W gs z) (a2 : Below w0.heap.size w0 W) (a3 : FrB w W w.heap.size gs) (a4 : W.heap[w.heap.size]? = some (.cells #[.slice none 0 0] 25 (0, 0))) (a5 : W.heap[w.heap.size + 1]? = some (.cells #[.slice (some ⟨gu, 0, none⟩) P.length cu] 25 (0, 0)))
  (a6 : Kd.H k35 35 W w.heap.size (fun k => w.heap.size ≤ k) (.slice (some ⟨gu, 0, none⟩) P.length cu) P i oki' [.int .i64 f0, .int .i64 f1, v3]) (a9 : gs < w.heap.size) (a10 : w0.heap.size ≤ w.heap.size) (h0 : 0 ≤ i) (h1 : i < (P.length : Int)) (j : Nat) (hj : j < 3) (hP : GoodP P) (hx : GoodF x') (hM : k35.M W w.heap.size oki' x' ([Value.int .i64 f0, .int .i64 f1, v3].take j ++ [x] ++ [Value.int .i64 f0, .int .i64 f1, v3].drop (j + 1))) : PO w0 w gs z (W.setCell ⟨gu, i.toNat * 3 + j, none⟩ x) (.slice (some ⟨gu, 0, none⟩) P.length cu) (P.set i.toNat x') := by
 obtain ⟨hS, hg⟩ := Kd.S_seg0 a6 h0 (by omega) (seg := [x]) (j := j) (by show j + 1 ≤ 3; omega) hM (fun _ hk => hk)
 have e : W.setCells gu (i.toNat * k35.sz + j) [x] = W.setCell ⟨gu, i.toNat * 3 + j, none⟩ x := rfl
 rw [e] at hS hg
 have hb := Kd.S_base hS gu (by simp [Value.ownBlock])
 have ne : ∀ g, g < w.heap.size → some g ≠ (some gu : Option Nat) := fun g hgl he => by injection he; omega
 exact ⟨a1.same (hg.block _ (Src.lt ⟨z, a1⟩) (ne gs a9)), a2.grown hg a2.size (fun k hk => by injection hk with hk; omega), a3.trans ⟨hg.size, fun j a b => hg.block j (Nat.lt_of_lt_of_le a a3.1) (ne j a)⟩, blk_grown a4 hg (H_ne a6 a4), blk_grown a5 hg (H_ne a6 a5), Kd.R_mono (Kd.S_R hS) (fun _ _ => trivial), goodSet hP hx _, a9, a10⟩
theorem PH.own {x : Value} {x' : S35} (h : PH w0 w gs z W gu cu P i oki f0 f1 v2 xs) (h0 : 0 ≤ i) (h1 : i < (P.length : Int)) (j : Nat) (hj : j < 3) (hP : GoodP P) (hx : GoodF x') (hM : k35.M W w.heap.size oki x' ([Value.int .i64 f0, .int .i64 f1, v2].take j ++ [x] ++ [Value.int .i64 f0, .int .i64 f1, v2].drop (j + 1))) : PO w0 w gs z (W.setCell ⟨gu, i.toNat * 3 + j, none⟩ x) (.slice (some ⟨gu, 0, none⟩) P.length cu) (P.set i.toNat x') := by
 obtain ⟨a1, a2, a3, a4, a5, a6, a7, a8, a9, a10⟩ := h
 exact own_ a1 a2 a3 a4 a5 a6 a9 a10 h0 h1 j hj hP hx hM
/-- The code has grown. -/
theorem PH.grow {gc n c : Nat} {v1 : Value} {ys : List S38} (h : PH w0 w gs z W gu cu P i oki f0 f1 (.slice (some ⟨gc, 0, none⟩) n c) xs) (hR : Kd.R k38 38 W' w.heap.size (fun k => oki k ∨ w.heap.size ≤ k ∧ W.heap.size ≤ k) v1 ys) (hg : W.grownBy W' (some gc)) (h0 : 0 ≤ i) (h1 : i < (P.length : Int)) (hP : GoodP P) (hx : GoodF ⟨f0, f1, ys⟩) : (W'.cell? ⟨gu, i.toNat * 3 + 2, none⟩ = some (.slice (some ⟨gc, 0, none⟩) n c) ∧ W'.frozen? ⟨gu, i.toNat * 3 + 2, none⟩ = false) ∧ PO w0 w gs z (W'.setCell ⟨gu, i.toNat * 3 + 2, none⟩ v1) (.slice (some ⟨gu, 0, none⟩) P.length cu) (P.set i.toNat ⟨f0, f1, ys⟩) := by
 obtain ⟨a1, a2, a3, a4, a5, a6, a7, a8, a9, a10⟩ := h
 have hb := Kd.R_base a7 gc (by simp [Value.ownBlock])
 have ho := a7.1 gc (by simp [Value.ownBlock])
 have e : (some gc : Option Nat) = (Value.slice (some ⟨gc, 0, none⟩) n c).ownBlock := by simp [Value.ownBlock]
 have ne : ∀ g, g < w.heap.size → some g ≠ (some gc : Option Nat) := fun g hgl he => by injection he; omega
 have hH := Kd.H_grown (Kd.H_widen a6) hg (fun k hk => by injection hk with hk; rw [← hk]; exact .inl ho)
 obtain ⟨hc, hf⟩ := Kd.H_at hH h0 (by omega)
 refine ⟨⟨hc 2 _ rfl, hf 2⟩, ?_⟩
 exact own_ (a1.same (hg.block _ (Src.lt ⟨z, a1⟩) (ne gs a9))) (a2.grown hg a2.size (fun k hk => by injection hk with hk; omega)) (a3.trans ⟨hg.size, fun j a b => hg.block j (Nat.lt_of_lt_of_le a a3.1) (ne j a)⟩) (blk_grown a4 hg (by rw [e]; exact Kd.R_ne a7 a4 (by decide))) (blk_grown a5 hg (by rw [e]; exact Kd.R_ne a7 a5 (by decide))) hH a9 a10 h0 h1 2 (by omega) hP hx (k35_mkM _ _ _ ⟨f0, f1, ys⟩ hR)
end
theorem reps4 (w : World) (b : Nat) : Reps ((Kd.int .i64).M w b (fun _ => True)) (Kd.int .i64).sz ([-1, 0, 8, 9] : List Int) [.int .i64 (-1), .int .i64 0, .int .i64 8, .int .i64 9] := by
 refine ⟨rfl, fun j p hj => ?_⟩
 match j, hj with
 | 0, hj => injection hj with hj; subst hj; exact rfl
 | 1, hj => injection hj with hj; subst hj; exact rfl
 | 2, hj => injection hj with hj; subst hj; exact rfl
 | 3, hj => injection hj with hj; subst hj; exact rfl
 | j + 4, hj => simp at hj
theorem all_set {α : Type} {P : α → Prop} {l : List α} {a : α} (h : ∀ x ∈ l, P x) (k : P a) (i : Nat) : ∀ x ∈ l.set i a, P x := fun x hx => by
 rcases List.mem_or_eq_of_mem_set hx with hx | rfl
 · exact h x hx
 · exact k
theorem PO.push {w0 w W W' : World} {gs : Nat} {z : Int} {u u' : Value} {P P' : List S35} (h : PO w0 w gs z W u P) (hR : Kd.R k35 35 W' w.heap.size (fun _ => True) u' P') (hl : GoodP P') (hb : Below w.heap.size W W') (hg : W.grownBy W' u.ownBlock) : PO w0 w gs z (W'.setCell ⟨w.heap.size + 1, 0, none⟩ u') u' P' ∧ W'.heap[w.heap.size + 1]? = some (.cells #[u] 25 (0, 0)) := by
 obtain ⟨h1, h2, h3, h4, h5, h7, _, h8, h9⟩ := h
 have hk5 := blk_grown h5 hg (Kd.R_ne h7 h5 (by decide))
 have far : ∀ i, i ≠ w.heap.size + 1 → (W'.setCell ⟨w.heap.size + 1, 0, none⟩ u').heap[i]? = W'.heap[i]? := fun i hi => Below.heap_setCell W' _ _ i hi
 exact ⟨⟨h1.same ((far gs (by omega)).trans (hb.block _ h8)), below_set (below_weaken h2 h9 hb) (by omega), h3.trans ⟨by show W.heap.size ≤ (W'.setCell _ _).heap.size; simpa [World.setCell] using hb.size, fun i a _ => (far i (by omega)).trans (hb.block i a)⟩, (far _ (by omega)).trans (blk_grown h4 hg (Kd.R_ne h7 h4 (by decide))), blk_put hk5 0 u' rfl, Kd.R_set hR hk5 (by decide) 0 u', hl, h8, h9⟩, hk5⟩
theorem tab4 {n : Int} (h0 : 0 ≤ n) (h1 : n < 4) : -1 ≤ rd [-1, 0, 8, 9] n ∧ rd [-1, 0, 8, 9] n ≤ 9 := by
 rcases (show n = 0 ∨ n = 1 ∨ n = 2 ∨ n = 3 by omega) with rfl | rfl | rfl | rfl <;> decide
theorem PO.src {w0 w W W' : World} {gs : Nat} {z z' : Int} {u : Value} {P : List S35} (h : PO w0 w gs z W u P) (hs : SrcZ w0 W' gs z') (hb : Below w0.heap.size w0 W') (hk : KeepBut W W' gs none) : PO w0 w gs z' W' u P := by
 obtain ⟨_, _, h3, h4, h5, h6, h7, h8, h9⟩ := h
 have hk := FrB.keep hk (Nat.le_refl _)
 exact ⟨hs, hb, h3.trans ⟨hk.1, fun i a b => hk.2 i (Nat.lt_of_lt_of_le a h3.1) b⟩, (hk.2 _ (blk_lt h4) (by omega)).trans h4, (hk.2 _ (blk_lt h5) (by omega)).trans h5, R_fr h6 hk h8, h7, h8, h9⟩
theorem PO.drew {w0 w W : World} {gs : Nat} {z : Int} {u : Value} {P : List S35} (h : PO w0 w gs z W u P) : PO w0 w gs z W.drew u P := h.src (h.1.same rfl) (below_drew1 h.2.1) ⟨Nat.le_refl _, fun _ _ _ _ => rfl⟩
set_option maxHeartbeats 8000000 in
set_option maxRecDepth 100000 in
theorem spoil_rel {w0 w W : World} {gs : Nat} {z : Int} {u : Value} {P : List S35} (h : PO w0 w gs z W u P ∧ Kd.S k35 35 W w.heap.size (fun _ => True) u P ∧ (∀ x ∈ P, 0 < x.f2.length ∧ x.f2.length ≤ 1048576) ∧ P.length ≤ 3) :
  Calls Try.prog 83 #[.pointer (some ⟨gs, 0, none⟩), .pointer (some ⟨w.heap.size + 1, 0, none⟩)] W fun e w' => e = .returned (.tuple #[]) ∧ ∃ (z' : Int) (u' : Value) (P' : List S35), PO w0 w gs z' w' u' P' := by
 obtain ⟨hO, hS, hpos, hP3⟩ := h
 have HP := Aside0.mk hO.2.2.2.2.2.2.1
 have HL := Aside0.mk (And.intro HP.out.1 hP3)
 obtain ⟨Au, cu, eu⟩ := Kd.R_slice hO.2.2.2.2.2.1
 subst eu
 obtain ⟨ad, _, ea, _⟩ := Kd.C_get (Kd.R_reads' hO.2.2.2.2.2.1).2.2 z35 0 (by omega) (by have := HL.out; omega)
 subst ea
 obtain ⟨gu, ea⟩ := Kd.R_head hO.2.2.2.2.2.1
 subst ea
 have HO := Aside0.mk hO.drew
 have HS := Aside0.mk (Kd.S_drew hS)
 clear hO hS hP3
 go_enter Try.func83, Try.ntmps83
 go_wp2
 go_region_held3 (fun w' => w'.cell? ⟨w.heap.size + 1, 0, none⟩ = some (.slice (some ⟨gu, 0, none⟩) P.length cu)) (exact (blk_cell HO.out.2.2.2.2.1 0).trans rfl) (first | (go_at_call 56; refine (n_relZ HO.out.1 HO.out.2.1 _ (by have := HL.out; omega)).mono ?_; rintro e w4 ⟨i, rfl, hi, hs, hb, hk⟩; have n0_ := Aside0.mk (And.intro (HO.out.src hs hb hk) (Kd.S_mono (S_fr HS.out (FrB.keep hk (Nat.le_refl _)) HO.out.2.2.2.2.2.2.2.1) (fun _ _ => trivial))); clear HO HS hs hb hk; have HO := Aside0.mk n0_.out.1; have HS := Aside0.mk n0_.out.2; clear n0_; have hi0 := hi.1; have hi1 : i < (P.length : Int) := (by have := HL.out; omega); clear hi; have p0 := eq_true hi0; have p1 := eq_true hi1))
 obtain ⟨oki, v2, hH⟩ := PH.lend HO.out HS.out i hi0 hi1
 clear HO HS
 have hmem : rd_T35 P i ∈ P := by unfold rd_T35; rw [List.getD_eq_getElem?_getD, List.getElem?_eq_getElem (show i.toNat < P.length by omega)]; exact List.getElem_mem _
 have HG := Aside0.mk (And.intro (HP.out.2.2 _ hmem) (hpos _ hmem))
 clear hpos hmem
 generalize rd_T35 P i = x at hH HG
 obtain ⟨f0, f1, xs⟩ := x
 simp only at hH HG
 obtain ⟨A2, c2, e2⟩ := Kd.R_slice hH.2.2.2.2.2.2.1
 subst e2
 obtain ⟨ad, _, ea, _⟩ := Kd.C_get (Kd.R_reads' hH.2.2.2.2.2.2.1).2.2 z38 0 (by omega) (by have h9 : 0 < xs.length := HG.out.2.1; omega)
 subst ea
 obtain ⟨gc, ea⟩ := Kd.R_head hH.2.2.2.2.2.2.1
 subst ea
 have HX := Aside0.mk (show 0 < xs.length ∧ xs.length ≤ 1048576 ∧ xs.length ≤ c2 from ⟨HG.out.2.1, HG.out.2.2, (Kd.R_reads' hH.2.2.2.2.2.2.1).2.1⟩)
 have HH := Aside0.mk hH
 clear hH
 have hcs := HH.out.cells hi0 hi1
 have hc0 := hcs.1.1
 have hc1 := hcs.1.2.1
 have hc2 := hcs.1.2.2
 have hf0 := hcs.2.1
 have hf1 := hcs.2.2.1
 have hf2 := hcs.2.2.2
 clear hcs
 go_wp2_with (first | ((with_reducible refine gate_dst (N := 24) rfl ?_); refine goesL_ _ rfl rfl Try.func56 (by kernel_rfl) rfl #[.pointer (some ⟨gs, 0, none⟩), .int .i64 _] rfl gl ?_; refine (n_relZ HH.out.1 HH.out.2.1 _ (by first | omega | (have := HX.out; omega))).mono ?_; rintro e w5 ⟨k1, rfl, hk1, hs, hb, hk⟩; refine ⟨_, rfl, ?_⟩; have n0_ := Aside0.mk (HH.out.src hs hb hk); clear HH hs hb hk hc0 hc1 hc2 hf0 hf1 hf2; have HH := n0_; clear n0_; have hcs := HH.out.cells hi0 hi1; have hc0 := hcs.1.1; have hc1 := hcs.1.2.1; have hc2 := hcs.1.2.2; have hf0 := hcs.2.1; have hf1 := hcs.2.2.1; have hf2 := hcs.2.2.2; clear hcs; have hk10 := hk1.1; have hk11 : k1 < (xs.length : Int) := (by have := HX.out; omega); have hk12 : k1 ≤ (xs.length : Int) := (by omega); have hk13 : k1 ≤ (c2 : Int) := (by have := HX.out; omega); clear hk1; have q3 := eq_true hk13; have q0 := eq_true hk10; have q1 := eq_true hk11; have q2 := eq_true hk12) | ((with_reducible refine gate_dst (N := 26) rfl ?_); refine goesL_ _ rfl rfl Try.func56 (by kernel_rfl) rfl #[.pointer (some ⟨gs, 0, none⟩), .int .i64 _] rfl gl ?_; refine (n_relZ HH.out.1 HH.out.2.1 _ (by first | omega | (have := HX.out; omega))).mono ?_; rintro e w5 ⟨sw, rfl, hsw, hs, hb, hk⟩; refine ⟨_, rfl, ?_⟩; have n0_ := Aside0.mk (HH.out.src hs hb hk); clear HH hs hb hk hc0 hc1 hc2 hf0 hf1 hf2; have HH := n0_; clear n0_; have hcs := HH.out.cells hi0 hi1; have hc0 := hcs.1.1; have hc1 := hcs.1.2.1; have hc2 := hcs.1.2.2; have hf0 := hcs.2.1; have hf1 := hcs.2.2.1; have hf2 := hcs.2.2.2; clear hcs; rcases (show sw = 0 ∨ sw = 1 ∨ sw = 2 ∨ sw = 3 ∨ sw = 4 ∨ sw = 5 ∨ sw = 6 ∨ sw = 7 by omega) with rfl | rfl | rfl | rfl | rfl | rfl | rfl | rfl <;> clear hsw) | ((with_reducible refine gate_dst (N := 79) rfl ?_); refine goesL_ _ rfl rfl Try.func56 (by kernel_rfl) rfl #[.pointer (some ⟨gs, 0, none⟩), .int .i64 _] rfl gl ?_; refine (n_relZ HH.out.1 HH.out.2.1 _ (by first | omega | (have := HX.out; omega))).mono ?_; rintro e w5 ⟨n7, rfl, hn7, hs, hb, hk⟩; refine ⟨_, rfl, ?_⟩; have n0_ := Aside0.mk (HH.out.src hs hb hk); clear HH hs hb hk hc0 hc1 hc2 hf0 hf1 hf2; have HH := n0_; clear n0_; have hcs := HH.out.cells hi0 hi1; have hc0 := hcs.1.1; have hc1 := hcs.1.2.1; have hc2 := hcs.1.2.2; have hf0 := hcs.2.1; have hf1 := hcs.2.2.1; have hf2 := hcs.2.2.2; clear hcs) | ((with_reducible refine gate_dst (N := 86) rfl ?_); refine Kd.R_lit (Kd.int .i64) (w0 := w5) w.heap.size 2 rfl (N := 86) rfl (xs := ([-1, 0, 8, 9] : List Int)) (inner := [.int .i64 (-1), .int .i64 0, .int .i64 8, .int .i64 9]) (ok := fun _ => True) (okp := fun _ => True) ?hr ?hp (fun _ hk => hk) trivial (Below.refl _ _) HH.out.2.2.1.1 (by simp) ?_; (case hr => first | (go_simp; done) | (go_simp; rfl)); (case hp => exact reps4 _ _); intro v3 w6 ho hb hg hat; have n0_ := Aside0.mk (HH.out.fr (HH.out.1.same (hb.block _ HH.out.2.2.2.2.2.2.2.2.1)) (below_weaken HH.out.2.1 HH.out.2.2.2.2.2.2.2.2.2 hb) ⟨hb.size, fun k a b => hg.block k a (by simp)⟩); have HT := Aside0.mk ho; clear HH ho hb hg hat hc0 hc1 hc2 hf0 hf1 hf2; have HH := n0_; clear n0_; obtain ⟨A3, c3, e3⟩ := Kd.R_slice HT.out; subst e3; have hcs := HH.out.cells hi0 hi1; have hc0 := hcs.1.1; have hc1 := hcs.1.2.1; have hc2 := hcs.1.2.2; have hf0 := hcs.2.1; have hf1 := hcs.2.2.1; have hf2 := hcs.2.2.2; clear hcs) | ((with_reducible refine gate_dst (N := 88) rfl ?_); refine goesL_ _ rfl rfl Try.func56 (by kernel_rfl) rfl #[.pointer (some ⟨gs, 0, none⟩), .int .i64 4] rfl gl ?_; refine (n_relZ HH.out.1 HH.out.2.1 _ (by omega)).mono ?_; rintro e w7 ⟨n4, rfl, hn4, hs, hb, hk⟩; refine ⟨_, rfl, ?_⟩; have HT2 := Aside0.mk (R_fr HT.out (FrB.keep hk (Nat.le_refl _)) HH.out.2.2.2.2.2.2.2.2.1); clear HT; have n0_ := Aside0.mk (HH.out.src hs hb hk); clear HH hs hb hk hc0 hc1 hc2 hf0 hf1 hf2; have HH := n0_; clear n0_; have hcs := HH.out.cells hi0 hi1; have hc0 := hcs.1.1; have hc1 := hcs.1.2.1; have hc2 := hcs.1.2.2; have hf0 := hcs.2.1; have hf1 := hcs.2.2.1; have hf2 := hcs.2.2.2; clear hcs; have hn40 := hn4.1; have hn41 : n4 < 4 := (by omega); clear hn4; have r0 := eq_true hn40; have r1 := eq_true hn41; obtain ⟨ad4, ea4, hx4⟩ := Kd.at_int (Kd.R_reads' HT2.out).2.2 n4 hn40 (by show n4 < 4; exact hn41); subst ea4; obtain ⟨g4, ea4⟩ := Kd.R_head HT2.out; subst ea4; rw [add_at, Nat.zero_add] at hx4) | ((with_reducible refine gate_builtin (b := .append) (xs := #[.tmp 110, .tmp 112]) rfl ?_); at_builtin; refine Kd.R_append k38 (w0 := w5) w.heap.size rfl (.tmp 110) (.tmp 112) 33 38 _ 16 rfl Try.underlying33 info38_ rfl (by decide) (by omega) (.slice (some ⟨gc, 0, none⟩) xs.length c2) xs ⟨5, 0⟩ [.int .i64 5, .int .i64 0] (fun k => oki k ∨ w.heap.size ≤ k ∧ w5.heap.size ≤ k) (fun _ => False) rfl rfl (k38_mkM _ _ _ _) (fun _ hk => hk.elim) (fun k hk => .inr ⟨Nat.le_trans HH.out.2.2.1.1 hk, hk⟩) (Kd.R_mono HH.out.2.2.2.2.2.2.1 (fun _ hk => .inl hk)) (Below.refl _ _) HH.out.2.2.1.1 (by have := HX.out; omega) ?_; intro v3 w6 ho hb hg hat; have hgw := HH.out.grow ho (by simpa [Value.ownBlock] using hg) hi0 hi1 HP.out ⟨HG.out.1.1, HG.out.1.2.1, (by show (xs ++ [(⟨5, 0⟩ : S38)]).length ≤ 1048576 + 1; rw [List.length_append, List.length_singleton]; have := HX.out; omega), all_snoc HG.out.1.2.2.2 ⟨in64_ (by decide) (by decide), in64_ (by decide) (by decide)⟩⟩; obtain ⟨A3, c3, e3⟩ := Kd.R_slice ho; subst e3; have hc2_ := hgw.1.1; have hf2_ := hgw.1.2; have HW := Aside0.mk hgw.2; clear HH ho hb hg hat hgw hc0 hc1 hc2 hf0 hf1 hf2))
 · have n0_ := Aside0.mk HH.out.drew
   clear HH hc0 hc1 hc2 hf0 hf1 hf2
   have HH := n0_
   clear n0_
   refine start_ (n := 11) (S := fun w' => w'.cell? ⟨gu, i.toNat * 3 + 2, none⟩ = some (.slice (some ⟨gc, 0, none⟩) xs.length c2)) (ds := [10]) #[false, false, false, false, false, false, false, false, false, false, false] (by kernel_rfl) rfl rfl (HH.out.cells hi0 hi1).1.2.2 (fun hHeld => ?_)
   generalize w5.drew = w8 at HH hHeld ⊢
   refine pure_ (i := 0) (N := some 53) (v := ?_) (a' := ?_) #[true, false, false, false, false, false, false, false, false, false, false] rfl rfl (by kernel_rfl) (fun _ _ _ h => h) (Or.inl ⟨by rfl, ?_⟩) ?_ ?_
   rotate_left
   · intro w'
     go_simp
     with_reducible rfl
   rotate_left
   · simp only [Act.put, List.setIfInBounds_toArray, List.set_cons_zero, List.set_cons_succ, i64_w, i32_w]
     rfl
   refine pure_ (i := 1) (N := some 54) (v := ?_) (a' := ?_) #[true, true, false, false, false, false, false, false, false, false, false] rfl rfl (by kernel_rfl) (fun _ _ _ h => h) (Or.inl ⟨by rfl, ?_⟩) ?_ ?_
   rotate_left
   · intro w'
     go_simp
     with_reducible rfl
   rotate_left
   · simp only [Act.put, List.setIfInBounds_toArray, List.set_cons_zero, List.set_cons_succ, i64_w, i32_w]
     rfl
   refine pure_ (i := 2) (N := some 55) (v := ?_) (a' := ?_) #[true, true, true, false, false, false, false, false, false, false, false] rfl rfl (by kernel_rfl) (fun _ _ _ h => h) (Or.inl ⟨by rfl, ?_⟩) ?_ ?_
   rotate_left
   · intro w'
     go_simp
     with_reducible rfl
   rotate_left
   · simp only [Act.put, List.setIfInBounds_toArray, List.set_cons_zero, List.set_cons_succ, i64_w, i32_w]
     rfl
   refine take_ (i := 3) (N := some 56) (v := ?_) (a' := ?_) #[true, true, true, true, false, false, false, false, false, false, false] rfl rfl (by kernel_rfl) (fun _ _ _ h => h) (Or.inl ⟨by rfl, ?_⟩) hHeld ?_ ?_
   rotate_left
   · rintro w' s0
     go_simp
     with_reducible rfl
   rotate_left
   · simp only [Act.put, List.setIfInBounds_toArray, List.set_cons_zero, List.set_cons_succ, i64_w, i32_w]
     rfl
   refine pure_ (i := 4) (N := some 57) (v := ?_) (a' := ?_) #[true, true, true, true, true, false, false, false, false, false, false] rfl rfl (by kernel_rfl) (fun _ _ _ h => h) (Or.inl ⟨by rfl, ?_⟩) ?_ ?_
   rotate_left
   · intro w'
     go_simp
     with_reducible rfl
   rotate_left
   · simp only [Act.put, List.setIfInBounds_toArray, List.set_cons_zero, List.set_cons_succ, i64_w, i32_w]
     rfl
   refine pure_ (i := 5) (N := some 58) (v := ?_) (a' := ?_) #[true, true, true, true, true, true, false, false, false, false, false] rfl rfl (by kernel_rfl) (fun _ _ _ h => h) (Or.inl ⟨by rfl, ?_⟩) ?_ ?_
   rotate_left
   · intro w'
     go_simp
     with_reducible rfl
   rotate_left
   · simp only [Act.put, List.setIfInBounds_toArray, List.set_cons_zero, List.set_cons_succ, i64_w, i32_w]
     rfl
   refine one_ (i := 6) (N := some 59) #[true, true, true, true, true, true, true, false, false, false, false] rfl rfl (by kernel_rfl) (by decide) (fun K hK => ?_)
   refine goes_ Try.func56 (by kernel_rfl) rfl #[.pointer (some ⟨gs, 0, none⟩), .int .i64 42] (by rfl) rfl rfl (by (try simp only [List.map_toArray, List.map_cons, List.map_nil]); first | done | rfl) ?_
   refine (n_relZ HH.out.1 HH.out.2.1 42 (by omega)).mono ?_
   rintro e w9 ⟨n9, rfl, hn9, hs, hb, hk⟩
   refine ⟨_, rfl, ?_⟩
   have n0_ := Aside0.mk (HH.out.src hs hb hk)
   clear HH hs hb hk
   have HH := n0_
   clear n0_
   refine hK.out _ _ (HH.out.cells hi0 hi1).1.2.2 (fun hHeld => ?_)
   clear hK K
   refine norm_ (a' := ?_) ?_ ?_
   rotate_left
   · simp only [Act.put, List.setIfInBounds_toArray, List.set_cons_zero, List.set_cons_succ, i64_w, i32_w]
     rfl
   refine pure_ (i := 7) (N := some 60) (v := ?_) (a' := ?_) #[true, true, true, true, true, true, true, true, false, false, false] rfl rfl (by kernel_rfl) (fun _ _ _ h => h) (Or.inl ⟨by rfl, ?_⟩) ?_ ?_
   rotate_left
   · intro w'
     go_simp
     with_reducible rfl
   rotate_left
   · simp only [Act.put, List.setIfInBounds_toArray, List.set_cons_zero, List.set_cons_succ, i64_w, i32_w]
     rfl
   refine pure_ (i := 8) (N := some 61) (v := ?_) (a' := ?_) #[true, true, true, true, true, true, true, true, true, false, false] rfl rfl (by kernel_rfl) (fun _ _ _ h => h) (Or.inl ⟨by rfl, ?_⟩) ?_ ?_
   rotate_left
   · intro w'
     go_simp
     with_reducible rfl
   rotate_left
   · simp only [Act.put, List.setIfInBounds_toArray, List.set_cons_zero, List.set_cons_succ, i64_w, i32_w]
     rfl
   refine pure_ (i := 9) (N := some 62) (v := ?_) (a' := ?_) #[true, true, true, true, true, true, true, true, true, true, false] rfl rfl (by kernel_rfl) (fun _ _ _ h => h) (Or.inl ⟨by rfl, ?_⟩) ?_ ?_
   rotate_left
   · intro w'
     go_simp
     with_reducible rfl
   rotate_left
   · simp only [Act.put, List.setIfInBounds_toArray, List.set_cons_zero, List.set_cons_succ, i64_w, i32_w]
     rfl
   refine last_ (i := 10) (N := none) #[true, true, true, true, true, true, true, true, true, true, true] rfl rfl (by kernel_rfl) (by decide) (fun K hK => ?_)
   obtain ⟨c, hcl, hM, hcc, hfz⟩ := Kd.R_elem HH.out.2.2.2.2.2.2.1 z38 k1 hk10 hk11
   obtain rfl := k38_openM hM
   have hs : w9.cell? ⟨gc, k1.toNat * 2, none⟩ = some (.int .i64 (xs.getD k1.toNat z38).f0) := hcc 0 _ rfl
   have hf : w9.frozen? ⟨gc, k1.toNat * 2, none⟩ = false := hfz 0
   have HC := Aside0.mk hcc
   clear hcc hfz hM
   refine skip_ (w1 := ?_) (by rfl) rfl ?_ ?_
   rotate_left
   · go_simp
     rfl
   refine hK.out _ _ ?_
   clear hK K
   refine done_ (by kernel_rfl) ?_
   go_end0
   have hv : in64 (n9 - 1) := by unfold in64; omega
   have hww : wrap64 (n9 - 1) = n9 - 1 := wrap_in hv.1 hv.2
   rw [hww]
   obtain ⟨hR, hg⟩ := Kd.R_seg (seg := [.int .i64 (n9 - 1)]) (j := 0) (okp := fun _ => False) (x' := ⟨n9 - 1, (xs.getD k1.toNat z38).f1⟩) HH.out.2.2.2.2.2.2.1 k1 hk10 hk11 hcl HC.out (by show 1 ≤ 2; omega) (k38_mkM _ _ _ _) (fun _ hk => hk.elim)
   have hm : xs.getD k1.toNat z38 ∈ xs := by rw [List.getD_eq_getElem?_getD, List.getElem?_eq_getElem (show k1.toNat < xs.length by omega)]; exact List.getElem_mem _
   have hh := (HH.out.inner hR hg).back HP.out ⟨HG.out.1.1, HG.out.1.2.1, (by show (xs.set _ _).length ≤ 1048577; rw [List.length_set]; have := HX.out; omega), @all_set S38 (fun x => in64 x.f0 ∧ in64 x.f1) xs ⟨n9 - 1, (xs.getD k1.toNat z38).f1⟩ HG.out.1.2.2.2 ⟨hv, (HG.out.1.2.2.2 _ hm).2⟩ _⟩
   exact ⟨rfl, _, _, _, hh⟩
 · have n0_ := Aside0.mk HH.out.drew
   clear HH hc0 hc1 hc2 hf0 hf1 hf2
   have HH := n0_
   clear n0_
   refine start_ (n := 11) (S := fun w' => w'.cell? ⟨gu, i.toNat * 3 + 2, none⟩ = some (.slice (some ⟨gc, 0, none⟩) xs.length c2)) (ds := [10]) #[false, false, false, false, false, false, false, false, false, false, false] (by kernel_rfl) rfl rfl (HH.out.cells hi0 hi1).1.2.2 (fun hHeld => ?_)
   generalize w5.drew = w8 at HH hHeld ⊢
   refine pure_ (i := 0) (N := some 65) (v := ?_) (a' := ?_) #[true, false, false, false, false, false, false, false, false, false, false] rfl rfl (by kernel_rfl) (fun _ _ _ h => h) (Or.inl ⟨by rfl, ?_⟩) ?_ ?_
   rotate_left
   · intro w'
     go_simp
     with_reducible rfl
   rotate_left
   · simp only [Act.put, List.setIfInBounds_toArray, List.set_cons_zero, List.set_cons_succ, i64_w, i32_w]
     rfl
   refine pure_ (i := 1) (N := some 66) (v := ?_) (a' := ?_) #[true, true, false, false, false, false, false, false, false, false, false] rfl rfl (by kernel_rfl) (fun _ _ _ h => h) (Or.inl ⟨by rfl, ?_⟩) ?_ ?_
   rotate_left
   · intro w'
     go_simp
     with_reducible rfl
   rotate_left
   · simp only [Act.put, List.setIfInBounds_toArray, List.set_cons_zero, List.set_cons_succ, i64_w, i32_w]
     rfl
   refine pure_ (i := 2) (N := some 67) (v := ?_) (a' := ?_) #[true, true, true, false, false, false, false, false, false, false, false] rfl rfl (by kernel_rfl) (fun _ _ _ h => h) (Or.inl ⟨by rfl, ?_⟩) ?_ ?_
   rotate_left
   · intro w'
     go_simp
     with_reducible rfl
   rotate_left
   · simp only [Act.put, List.setIfInBounds_toArray, List.set_cons_zero, List.set_cons_succ, i64_w, i32_w]
     rfl
   refine take_ (i := 3) (N := some 68) (v := ?_) (a' := ?_) #[true, true, true, true, false, false, false, false, false, false, false] rfl rfl (by kernel_rfl) (fun _ _ _ h => h) (Or.inl ⟨by rfl, ?_⟩) hHeld ?_ ?_
   rotate_left
   · rintro w' s0
     go_simp
     with_reducible rfl
   rotate_left
   · simp only [Act.put, List.setIfInBounds_toArray, List.set_cons_zero, List.set_cons_succ, i64_w, i32_w]
     rfl
   refine pure_ (i := 4) (N := some 69) (v := ?_) (a' := ?_) #[true, true, true, true, true, false, false, false, false, false, false] rfl rfl (by kernel_rfl) (fun _ _ _ h => h) (Or.inl ⟨by rfl, ?_⟩) ?_ ?_
   rotate_left
   · intro w'
     go_simp
     with_reducible rfl
   rotate_left
   · simp only [Act.put, List.setIfInBounds_toArray, List.set_cons_zero, List.set_cons_succ, i64_w, i32_w]
     rfl
   refine pure_ (i := 5) (N := some 70) (v := ?_) (a' := ?_) #[true, true, true, true, true, true, false, false, false, false, false] rfl rfl (by kernel_rfl) (fun _ _ _ h => h) (Or.inl ⟨by rfl, ?_⟩) ?_ ?_
   rotate_left
   · intro w'
     go_simp
     with_reducible rfl
   rotate_left
   · simp only [Act.put, List.setIfInBounds_toArray, List.set_cons_zero, List.set_cons_succ, i64_w, i32_w]
     rfl
   refine one_ (i := 6) (N := some 71) #[true, true, true, true, true, true, true, false, false, false, false] rfl rfl (by kernel_rfl) (by decide) (fun K hK => ?_)
   refine goes_ Try.func56 (by kernel_rfl) rfl #[.pointer (some ⟨gs, 0, none⟩), .int .i64 70] (by rfl) rfl rfl (by (try simp only [List.map_toArray, List.map_cons, List.map_nil]); first | done | rfl) ?_
   refine (n_relZ HH.out.1 HH.out.2.1 70 (by omega)).mono ?_
   rintro e w9 ⟨n9, rfl, hn9, hs, hb, hk⟩
   refine ⟨_, rfl, ?_⟩
   have n0_ := Aside0.mk (HH.out.src hs hb hk)
   clear HH hs hb hk
   have HH := n0_
   clear n0_
   refine hK.out _ _ (HH.out.cells hi0 hi1).1.2.2 (fun hHeld => ?_)
   clear hK K
   refine norm_ (a' := ?_) ?_ ?_
   rotate_left
   · simp only [Act.put, List.setIfInBounds_toArray, List.set_cons_zero, List.set_cons_succ, i64_w, i32_w]
     rfl
   refine pure_ (i := 7) (N := some 72) (v := ?_) (a' := ?_) #[true, true, true, true, true, true, true, true, false, false, false] rfl rfl (by kernel_rfl) (fun _ _ _ h => h) (Or.inl ⟨by rfl, ?_⟩) ?_ ?_
   rotate_left
   · intro w'
     go_simp
     with_reducible rfl
   rotate_left
   · simp only [Act.put, List.setIfInBounds_toArray, List.set_cons_zero, List.set_cons_succ, i64_w, i32_w]
     rfl
   refine pure_ (i := 8) (N := some 73) (v := ?_) (a' := ?_) #[true, true, true, true, true, true, true, true, true, false, false] rfl rfl (by kernel_rfl) (fun _ _ _ h => h) (Or.inl ⟨by rfl, ?_⟩) ?_ ?_
   rotate_left
   · intro w'
     go_simp
     with_reducible rfl
   rotate_left
   · simp only [Act.put, List.setIfInBounds_toArray, List.set_cons_zero, List.set_cons_succ, i64_w, i32_w]
     rfl
   refine pure_ (i := 9) (N := some 74) (v := ?_) (a' := ?_) #[true, true, true, true, true, true, true, true, true, true, false] rfl rfl (by kernel_rfl) (fun _ _ _ h => h) (Or.inl ⟨by rfl, ?_⟩) ?_ ?_
   rotate_left
   · intro w'
     go_simp
     with_reducible rfl
   rotate_left
   · simp only [Act.put, List.setIfInBounds_toArray, List.set_cons_zero, List.set_cons_succ, i64_w, i32_w]
     rfl
   refine last_ (i := 10) (N := none) #[true, true, true, true, true, true, true, true, true, true, true] rfl rfl (by kernel_rfl) (by decide) (fun K hK => ?_)
   obtain ⟨c, hcl, hM, hcc, hfz⟩ := Kd.R_elem HH.out.2.2.2.2.2.2.1 z38 k1 hk10 hk11
   obtain rfl := k38_openM hM
   have hs : w9.cell? ⟨gc, k1.toNat * 2 + 1, none⟩ = some (.int .i64 (xs.getD k1.toNat z38).f1) := hcc 1 _ rfl
   have hf : w9.frozen? ⟨gc, k1.toNat * 2 + 1, none⟩ = false := hfz 1
   have HC := Aside0.mk hcc
   clear hcc hfz hM
   refine skip_ (w1 := ?_) (by rfl) rfl ?_ ?_
   rotate_left
   · go_simp
     rfl
   refine hK.out _ _ ?_
   clear hK K
   refine done_ (by kernel_rfl) ?_
   go_end0
   have hv : in64 (n9 - 2) := by unfold in64; omega
   have hww : wrap64 (n9 - 2) = n9 - 2 := wrap_in hv.1 hv.2
   rw [hww]
   obtain ⟨hR, hg⟩ := Kd.R_seg (seg := [.int .i64 (n9 - 2)]) (j := 1) (okp := fun _ => False) (x' := ⟨(xs.getD k1.toNat z38).f0, n9 - 2⟩) HH.out.2.2.2.2.2.2.1 k1 hk10 hk11 hcl HC.out (by show 2 ≤ 2; omega) (k38_mkM _ _ _ _) (fun _ hk => hk.elim)
   have hm : xs.getD k1.toNat z38 ∈ xs := by rw [List.getD_eq_getElem?_getD, List.getElem?_eq_getElem (show k1.toNat < xs.length by omega)]; exact List.getElem_mem _
   have hh := (HH.out.inner hR hg).back HP.out ⟨HG.out.1.1, HG.out.1.2.1, (by show (xs.set _ _).length ≤ 1048577; rw [List.length_set]; have := HX.out; omega), @all_set S38 (fun x => in64 x.f0 ∧ in64 x.f1) xs ⟨(xs.getD k1.toNat z38).f0, n9 - 2⟩ HG.out.1.2.2.2 ⟨(HG.out.1.2.2.2 _ hm).1, hv⟩ _⟩
   exact ⟨rfl, _, _, _, hh⟩
 · go_end0
   have e := hn7
   exact ⟨rfl, _, _, _, HH.out.own hi0 hi1 0 (by omega) HP.out (x' := ⟨n7 - 1, f1, xs⟩) ⟨by show -1 ≤ n7 - 1 ∧ n7 - 1 ≤ 5; omega, HG.out.1.2⟩ (k35_mkM _ _ _ ⟨n7 - 1, f1, xs⟩ HH.out.2.2.2.2.2.2.1)⟩
 · go_end0
   exact ⟨rfl, _, _, _, HH.out.own hi0 hi1 1 (by omega) HP.out (x' := ⟨f0, rd [-1, 0, 8, 9] n4, xs⟩) ⟨HG.out.1.1, (show -1 ≤ rd [-1, 0, 8, 9] n4 ∧ rd [-1, 0, 8, 9] n4 ≤ 9 from tab4 hn40 hn41), HG.out.1.2.2⟩ (k35_mkM _ _ _ ⟨f0, rd [-1, 0, 8, 9] n4, xs⟩ HH.out.2.2.2.2.2.2.1)⟩
 · go_end0
   exact ⟨rfl, _, _, _, HH.out.own hi0 hi1 2 (by omega) HP.out (x' := ⟨f0, f1, xs.take k1.toNat⟩) ⟨HG.out.1.1, HG.out.1.2.1, (by show (xs.take k1.toNat).length ≤ 1048577; rw [List.length_take]; have := HX.out; omega), fun x hx => HG.out.1.2.2.2 x (List.mem_of_mem_take hx)⟩ (k35_mkM _ _ _ ⟨f0, f1, xs.take k1.toNat⟩ (Kd.R_take (m := k1.toNat) HH.out.2.2.2.2.2.2.1 (by omega)))⟩
 · go_end0
   have hw := HW.out
   simp only [List.length_append, List.length_singleton] at hw
   exact ⟨rfl, _, _, _, hw⟩
 · have n0_ := Aside0.mk HH.out.drew
   clear HH hc0 hc1 hc2 hf0 hf1 hf2
   have HH := n0_
   clear n0_
   refine start_ (n := 15) (S := fun w' => w'.cell? ⟨gu, i.toNat * 3 + 2, none⟩ = some (.slice (some ⟨gc, 0, none⟩) xs.length c2)) (ds := [14]) #[false, false, false, false, false, false, false, false, false, false, false, false, false, false, false] (by kernel_rfl) rfl rfl (HH.out.cells hi0 hi1).1.2.2 (fun hHeld => ?_)
   generalize w5.drew = w8 at HH hHeld ⊢
   refine pure_ (i := 0) (N := some 118) (v := ?_) (a' := ?_) #[true, false, false, false, false, false, false, false, false, false, false, false, false, false, false] rfl rfl (by kernel_rfl) (fun _ _ _ h => h) (Or.inl ⟨by rfl, ?_⟩) ?_ ?_
   rotate_left
   · intro w'
     go_simp
     with_reducible rfl
   rotate_left
   · simp only [Act.put, List.setIfInBounds_toArray, List.set_cons_zero, List.set_cons_succ, i64_w, i32_w]
     rfl
   refine pure_ (i := 1) (N := some 119) (v := ?_) (a' := ?_) #[true, true, false, false, false, false, false, false, false, false, false, false, false, false, false] rfl rfl (by kernel_rfl) (fun _ _ _ h => h) (Or.inl ⟨by rfl, ?_⟩) ?_ ?_
   rotate_left
   · intro w'
     go_simp
     with_reducible rfl
   rotate_left
   · simp only [Act.put, List.setIfInBounds_toArray, List.set_cons_zero, List.set_cons_succ, i64_w, i32_w]
     rfl
   refine pure_ (i := 2) (N := some 120) (v := ?_) (a' := ?_) #[true, true, true, false, false, false, false, false, false, false, false, false, false, false, false] rfl rfl (by kernel_rfl) (fun _ _ _ h => h) (Or.inl ⟨by rfl, ?_⟩) ?_ ?_
   rotate_left
   · intro w'
     go_simp
     with_reducible rfl
   rotate_left
   · simp only [Act.put, List.setIfInBounds_toArray, List.set_cons_zero, List.set_cons_succ, i64_w, i32_w]
     rfl
   refine take_ (i := 3) (N := some 121) (v := ?_) (a' := ?_) #[true, true, true, true, false, false, false, false, false, false, false, false, false, false, false] rfl rfl (by kernel_rfl) (fun _ _ _ h => h) (Or.inl ⟨by rfl, ?_⟩) hHeld ?_ ?_
   rotate_left
   · rintro w' s0
     go_simp
     with_reducible rfl
   rotate_left
   · simp only [Act.put, List.setIfInBounds_toArray, List.set_cons_zero, List.set_cons_succ, i64_w, i32_w]
     rfl
   refine pure_ (i := 4) (N := some 122) (v := ?_) (a' := ?_) #[true, true, true, true, true, false, false, false, false, false, false, false, false, false, false] rfl rfl (by kernel_rfl) (fun _ _ _ h => h) (Or.inl ⟨by rfl, ?_⟩) ?_ ?_
   rotate_left
   · intro w'
     go_simp
     with_reducible rfl
   rotate_left
   · simp only [Act.put, List.setIfInBounds_toArray, List.set_cons_zero, List.set_cons_succ, i64_w, i32_w]
     rfl
   refine pure_ (i := 5) (N := some 123) (v := ?_) (a' := ?_) #[true, true, true, true, true, true, false, false, false, false, false, false, false, false, false] rfl rfl (by kernel_rfl) (fun _ _ _ h => h) (Or.inl ⟨by rfl, ?_⟩) ?_ ?_
   rotate_left
   · intro w'
     go_simp
     with_reducible rfl
   rotate_left
   · simp only [Act.put, List.setIfInBounds_toArray, List.set_cons_zero, List.set_cons_succ, i64_w, i32_w]
     rfl
   refine pure_ (i := 6) (N := some 124) (v := ?_) (a' := ?_) #[true, true, true, true, true, true, true, false, false, false, false, false, false, false, false] rfl rfl (by kernel_rfl) (fun _ _ _ h => h) (Or.inl ⟨by rfl, ?_⟩) ?_ ?_
   rotate_left
   · intro w'
     go_simp
     with_reducible rfl
   rotate_left
   · simp only [Act.put, List.setIfInBounds_toArray, List.set_cons_zero, List.set_cons_succ, i64_w, i32_w]
     rfl
   refine pure_ (i := 7) (N := some 125) (v := ?_) (a' := ?_) #[true, true, true, true, true, true, true, true, false, false, false, false, false, false, false] rfl rfl (by kernel_rfl) (fun _ _ _ h => h) (Or.inl ⟨by rfl, ?_⟩) ?_ ?_
   rotate_left
   · intro w'
     go_simp
     with_reducible rfl
   rotate_left
   · simp only [Act.put, List.setIfInBounds_toArray, List.set_cons_zero, List.set_cons_succ, i64_w, i32_w]
     rfl
   refine pure_ (i := 8) (N := some 126) (v := ?_) (a' := ?_) #[true, true, true, true, true, true, true, true, true, false, false, false, false, false, false] rfl rfl (by kernel_rfl) (fun _ _ _ h => h) (Or.inl ⟨by rfl, ?_⟩) ?_ ?_
   rotate_left
   · intro w'
     go_simp
     with_reducible rfl
   rotate_left
   · simp only [Act.put, List.setIfInBounds_toArray, List.set_cons_zero, List.set_cons_succ, i64_w, i32_w]
     rfl
   refine take_ (i := 9) (N := some 127) (v := ?_) (a' := ?_) #[true, true, true, true, true, true, true, true, true, true, false, false, false, false, false] rfl rfl (by kernel_rfl) (fun _ _ _ h => h) (Or.inl ⟨by rfl, ?_⟩) hHeld ?_ ?_
   rotate_left
   · rintro w' s0
     go_simp
     with_reducible rfl
   rotate_left
   · simp only [Act.put, List.setIfInBounds_toArray, List.set_cons_zero, List.set_cons_succ, i64_w, i32_w]
     rfl
   refine pure_ (i := 10) (N := some 128) (v := ?_) (a' := ?_) #[true, true, true, true, true, true, true, true, true, true, true, false, false, false, false] rfl rfl (by kernel_rfl) (fun _ _ _ h => h) (Or.inl ⟨by rfl, ?_⟩) ?_ ?_
   rotate_left
   · intro w'
     go_simp
     with_reducible rfl
   rotate_left
   · simp only [Act.put, List.setIfInBounds_toArray, List.set_cons_zero, List.set_cons_succ, i64_w, i32_w]
     rfl
   refine one_ (i := 11) (N := some 129) #[true, true, true, true, true, true, true, true, true, true, true, true, false, false, false] rfl rfl (by kernel_rfl) (by decide) (fun K hK => ?_)
   refine goes_ Try.func56 (by kernel_rfl) rfl #[.pointer (some ⟨gs, 0, none⟩), .int .i64 (xs.length : Int)] (by rfl) rfl rfl (by (try simp only [List.map_toArray, List.map_cons, List.map_nil]); first | done | rfl) ?_
   refine (n_relZ HH.out.1 HH.out.2.1 (xs.length : Int) (by have := HX.out; omega)).mono ?_
   rintro e w9 ⟨n9, rfl, hn9, hs, hb, hk⟩
   refine ⟨_, rfl, ?_⟩
   have n0_ := Aside0.mk (HH.out.src hs hb hk)
   clear HH hs hb hk
   have HH := n0_
   clear n0_
   refine hK.out _ _ (HH.out.cells hi0 hi1).1.2.2 (fun hHeld => ?_)
   clear hK K
   refine norm_ (a' := ?_) ?_ ?_
   rotate_left
   · simp only [Act.put, List.setIfInBounds_toArray, List.set_cons_zero, List.set_cons_succ, i64_w, i32_w]
     rfl
   refine pure_ (i := 12) (N := some 130) (v := ?_) (a' := ?_) #[true, true, true, true, true, true, true, true, true, true, true, true, true, false, false] rfl rfl (by kernel_rfl) (fun _ _ _ h => h) (Or.inl ⟨by rfl, ?_⟩) ?_ ?_
   rotate_left
   · intro w'
     go_simp
     with_reducible rfl
   rotate_left
   · simp only [Act.put, List.setIfInBounds_toArray, List.set_cons_zero, List.set_cons_succ, i64_w, i32_w]
     rfl
   refine pure_ (i := 13) (N := some 131) (v := ?_) (a' := ?_) #[true, true, true, true, true, true, true, true, true, true, true, true, true, true, false] rfl rfl (by kernel_rfl) (fun _ _ _ h => h) (Or.inl ⟨by rfl, ?_⟩) ?_ ?_
   rotate_left
   · intro w'
     go_simp
     with_reducible rfl
   rotate_left
   · simp only [Act.put, List.setIfInBounds_toArray, List.set_cons_zero, List.set_cons_succ, i64_w, i32_w]
     rfl
   refine last_ (i := 14) (N := none) #[true, true, true, true, true, true, true, true, true, true, true, true, true, true, true] rfl rfl (by kernel_rfl) (by decide) (fun K hK => ?_)
   obtain ⟨c, hcl, hM, hcc, hfz⟩ := Kd.R_elem HH.out.2.2.2.2.2.2.1 z38 k1 hk10 hk11
   obtain rfl := k38_openM hM
   have hs : w9.cell? ⟨gc, k1.toNat * 2, none⟩ = some (.int .i64 (xs.getD k1.toNat z38).f0) := hcc 0 _ rfl
   have hf : w9.frozen? ⟨gc, k1.toNat * 2, none⟩ = false := hfz 0
   have hs1 : w9.cell? ⟨gc, k1.toNat * 2 + 1, none⟩ = some (.int .i64 (xs.getD k1.toNat z38).f1) := hcc 1 _ rfl
   have hf1 : w9.frozen? ⟨gc, k1.toNat * 2 + 1, none⟩ = false := hfz 1
   have HC := Aside0.mk hcc
   clear hcc hfz hM
   refine skip_ (w1 := ?_) (by rfl) rfl ?_ ?_
   rotate_left
   · go_simp
     rfl
   refine hK.out _ _ ?_
   clear hK K
   refine done_ (by kernel_rfl) ?_
   go_end0
   obtain ⟨hR, hg⟩ := Kd.R_seg (seg := [.int .i64 30, .int .i64 n9]) (j := 0) (okp := fun _ => False) (x' := ⟨30, n9⟩) HH.out.2.2.2.2.2.2.1 k1 hk10 hk11 hcl HC.out (by show 2 ≤ 2; omega) (k38_mkM _ _ _ _) (fun _ hk => hk.elim)
   have hv : in64 n9 := by have := HX.out; unfold in64; omega
   have hh := (HH.out.inner hR hg).back HP.out ⟨HG.out.1.1, HG.out.1.2.1, (by show (xs.set _ _).length ≤ 1048577; rw [List.length_set]; have := HX.out; omega), @all_set S38 (fun x => in64 x.f0 ∧ in64 x.f1) xs ⟨30, n9⟩ HG.out.1.2.2.2 ⟨(show in64 30 from in64_ (by decide) (by decide)), hv⟩ _⟩
   exact ⟨rfl, _, _, _, hh⟩
 · have hO := HH.out.back HP.out HG.out.1
   clear HH HP HL HG HX hc0 hc1 hc2 hf0 hf1 hf2 p0 p1 q0 q1 q2 q3 hi0 hi1 hk10 hk11 hk12 hk13
   have hl0 : (P.set i.toNat ⟨f0, f1, xs⟩).length = P.length := List.length_set
   rw [← hl0] at hO
   generalize P.set i.toNat ⟨f0, f1, xs⟩ = P1 at hO hl0
   clear hl0 oki
   have HO := Aside0.mk hO
   clear hO
   go_loopg [] 7 (fun kq w' => ∃ (P1 : List S35) (u : Value) (z : Int), Aside0 (7 ≤ P1.length + kq) ∧ Aside0 (PO w0 w gs z w' u P1))
   case atStart => exact ⟨P1, _, _, ⟨by omega⟩, HO⟩
   case round =>
    clear HO
    obtain ⟨P1, u, z, HK, HO⟩ := hrel
    obtain ⟨Au, cu, eu⟩ := Kd.R_slice HO.out.2.2.2.2.2.1
    subst eu
    obtain ⟨ad, _, ea, _⟩ := Kd.C_get (Kd.R_reads' HO.out.2.2.2.2.2.1).2.2 z35 0 (by omega) (by have := HO.out.2.2.2.2.2.2.1.1; omega)
    subst ea
    obtain ⟨gu, ea⟩ := Kd.R_head HO.out.2.2.2.2.2.1
    subst ea
    have n0_ := Aside0.mk HO.out.drew
    clear HO
    have HO := n0_
    clear n0_
    go_wp2
    go_region_held3 (fun w' => w'.cell? ⟨w.heap.size + 1, 0, none⟩ = some (.slice (some ⟨gu, 0, none⟩) P1.length cu)) (exact (blk_cell HO.out.2.2.2.2.1 0).trans rfl) (first | (go_at_call 56; refine (n_relZ HO.out.1 HO.out.2.1 _ (by omega)).mono ?_; rintro e w4 ⟨n1, rfl, hn1, hs, hb, hk⟩; have n0_ := Aside0.mk (HO.out.src hs hb hk); clear HO hs hb hk; have HO := n0_; clear n0_; have hw6 : IntKind.i64.wrap (6 + n1) = 6 + n1 := (by rw [i64_w]; exact wrap_in (by omega) (by omega))))
    have HQ := Aside0.mk HO.out.2.2.2.2.2.2.1
    by_cases hc : (P1.length : Int) < 6 + n1
    · have hcd : decide ((P1.length : Int) < 6 + n1) = true := decide_eq_true hc
      obtain ⟨kk, hkk⟩ : ∃ kk, gk = kk + 1 := ⟨gk - 1, by have := HK.out; omega⟩
      subst hkk
      clear hw6
      go_wp2
      have hl6 : P1.length ≤ 6 := by omega
      have hpos := HQ.out.1
      clear hc hn1
      obtain ⟨c, hcl, hM, hcc, hfz⟩ := Kd.R_elem HO.out.2.2.2.2.2.1 z35 0 (by omega) (by omega)
      obtain ⟨v8, ec, hRv⟩ := k35_openM hM
      rw [ec] at hcl hM hcc
      have hz0 : w4.cell? ⟨gu, 0, none⟩ = some (.int .i64 (P1.getD (Int.toNat 0) z35).f0) := by have := hcc 0 _ rfl; simpa using this
      have hz1 : w4.cell? ⟨gu, 1, none⟩ = some (.int .i64 (P1.getD (Int.toNat 0) z35).f1) := by have := hcc 1 _ rfl; simpa using this
      have hz2 : w4.cell? ⟨gu, 2, none⟩ = some v8 := by have := hcc 2 _ rfl; simpa using this
      have hP0 : (0 : Int) < (P1.length : Int) := by omega
      have q0 := eq_true hP0
      obtain ⟨A8, c8, e8⟩ := Kd.R_slice hRv
      subst e8
      generalize he0 : P1.getD (Int.toNat 0) z35 = x0 at hz0 hz1 hz2 hRv hM
      have HM := Aside0.mk (And.intro hM (show x0 ∈ P1 by rw [← he0]; show P1.getD 0 z35 ∈ P1; rw [List.getD_eq_getElem?_getD, List.getElem?_eq_getElem hpos]; exact List.getElem_mem _))
      clear hcc hfz hM ec hcl he0 hRv
      refine start_ (n := 16) (S := fun w' => w'.cell? ⟨w.heap.size + 1, 0, none⟩ = some (.slice (some ⟨gu, 0, none⟩) P1.length cu) ∧ w'.cell? ⟨gu, 0, none⟩ = some (.int .i64 x0.f0) ∧ w'.cell? ⟨gu, 1, none⟩ = some (.int .i64 x0.f1) ∧ w'.cell? ⟨gu, 2, none⟩ = some (.slice A8 x0.f2.length c8)) (ds := [12, 15]) #[false, false, false, false, false, false, false, false, false, false, false, false, false, false, false, false] (by kernel_rfl) rfl rfl ⟨(blk_cell HO.out.2.2.2.2.1 0).trans rfl, hz0, hz1, hz2⟩ (fun hHeld => ?_)
      have n0_ := Aside0.mk HO.out.drew
      have hz0_ : w4.drew.cell? ⟨gu, 0, none⟩ = some (.int .i64 x0.f0) := hz0
      have hz1_ : w4.drew.cell? ⟨gu, 1, none⟩ = some (.int .i64 x0.f1) := hz1
      have hz2_ : w4.drew.cell? ⟨gu, 2, none⟩ = some (.slice A8 x0.f2.length c8) := hz2
      have n1_ := Aside0.mk (Kd.M_below HM.out.1 (below_drew (Below.refl _ _)))
      have HM2 := Aside0.mk HM.out.2
      clear HO HM hz0 hz1 hz2
      generalize w4.drew = w8 at n0_ n1_ hz0_ hz1_ hz2_ hHeld ⊢
      refine pure_ (i := 0) (N := some 36) (v := ?_) (a' := ?_) #[true, false, false, false, false, false, false, false, false, false, false, false, false, false, false, false] rfl rfl (by kernel_rfl) (fun _ _ _ h => h) (Or.inl ⟨by rfl, ?_⟩) ?_ ?_
      rotate_left
      · intro w'
        go_simp
        with_reducible rfl
      rotate_left
      · simp only [Act.put, List.setIfInBounds_toArray, List.set_cons_zero, List.set_cons_succ, i64_w, i32_w]
        rfl
      refine pure_ (i := 1) (N := some 37) (v := ?_) (a' := ?_) #[true, true, false, false, false, false, false, false, false, false, false, false, false, false, false, false] rfl rfl (by kernel_rfl) (fun _ _ _ h => h) (Or.inl ⟨by rfl, ?_⟩) ?_ ?_
      rotate_left
      · intro w'
        go_simp
        with_reducible rfl
      rotate_left
      · simp only [Act.put, List.setIfInBounds_toArray, List.set_cons_zero, List.set_cons_succ, i64_w, i32_w]
        rfl
      refine pure_ (i := 2) (N := some 38) (v := ?_) (a' := ?_) #[true, true, true, false, false, false, false, false, false, false, false, false, false, false, false, false] rfl rfl (by kernel_rfl) (fun _ _ _ h => h) (Or.inl ⟨by rfl, ?_⟩) ?_ ?_
      rotate_left
      · intro w'
        go_simp
        with_reducible rfl
      rotate_left
      · simp only [Act.put, List.setIfInBounds_toArray, List.set_cons_zero, List.set_cons_succ, i64_w, i32_w]
        rfl
      refine pure_ (i := 3) (N := some 39) (v := ?_) (a' := ?_) #[true, true, true, true, false, false, false, false, false, false, false, false, false, false, false, false] rfl rfl (by kernel_rfl) (fun _ _ _ h => h) (Or.inl ⟨by rfl, ?_⟩) ?_ ?_
      rotate_left
      · intro w'
        go_simp
        with_reducible rfl
      rotate_left
      · simp only [Act.put, List.setIfInBounds_toArray, List.set_cons_zero, List.set_cons_succ, i64_w, i32_w]
        rfl
      refine take_ (i := 4) (N := some 40) (v := ?_) (a' := ?_) #[true, true, true, true, true, false, false, false, false, false, false, false, false, false, false, false] rfl rfl (by kernel_rfl) (fun _ _ _ h => h) (Or.inl ⟨by rfl, ?_⟩) hHeld ?_ ?_
      rotate_left
      · rintro w' ⟨s0, s1, s2, s3⟩
        go_simp
        with_reducible rfl
      rotate_left
      · simp only [Act.put, List.setIfInBounds_toArray, List.set_cons_zero, List.set_cons_succ, i64_w, i32_w]
        rfl
      refine pure_ (i := 5) (N := some 41) (v := ?_) (a' := ?_) #[true, true, true, true, true, true, false, false, false, false, false, false, false, false, false, false] rfl rfl (by kernel_rfl) (fun _ _ _ h => h) (Or.inl ⟨by rfl, ?_⟩) ?_ ?_
      rotate_left
      · intro w'
        go_simp
        with_reducible rfl
      rotate_left
      · simp only [Act.put, List.setIfInBounds_toArray, List.set_cons_zero, List.set_cons_succ, i64_w, i32_w]
        rfl
      refine pure_ (i := 6) (N := some 42) (v := ?_) (a' := ?_) #[true, true, true, true, true, true, true, false, false, false, false, false, false, false, false, false] rfl rfl (by kernel_rfl) (fun _ _ _ h => h) (Or.inl ⟨by rfl, ?_⟩) ?_ ?_
      rotate_left
      · intro w'
        go_simp
        with_reducible rfl
      rotate_left
      · simp only [Act.put, List.setIfInBounds_toArray, List.set_cons_zero, List.set_cons_succ, i64_w, i32_w]
        rfl
      refine pure_ (i := 7) (N := some 43) (v := ?_) (a' := ?_) #[true, true, true, true, true, true, true, true, false, false, false, false, false, false, false, false] rfl rfl (by kernel_rfl) (fun _ _ _ h => h) (Or.inl ⟨by rfl, ?_⟩) ?_ ?_
      rotate_left
      · intro w'
        go_simp
        with_reducible rfl
      rotate_left
      · simp only [Act.put, List.setIfInBounds_toArray, List.set_cons_zero, List.set_cons_succ, i64_w, i32_w]
        rfl
      refine take_ (i := 8) (N := some 44) (v := ?_) (a' := ?_) #[true, true, true, true, true, true, true, true, true, false, false, false, false, false, false, false] rfl rfl (by kernel_rfl) (fun _ _ _ h => h) (Or.inl ⟨by rfl, ?_⟩) hHeld ?_ ?_
      rotate_left
      · rintro w' ⟨s0, s1, s2, s3⟩
        go_simp
        with_reducible rfl
      rotate_left
      · simp only [Act.put, List.setIfInBounds_toArray, List.set_cons_zero, List.set_cons_succ, i64_w, i32_w]
        rfl
      refine pure_ (i := 9) (N := some 45) (v := ?_) (a' := ?_) #[true, true, true, true, true, true, true, true, true, true, false, false, false, false, false, false] rfl rfl (by kernel_rfl) (fun _ _ _ h => h) (Or.inl ⟨by rfl, ?_⟩) ?_ ?_
      rotate_left
      · intro w'
        go_simp
        with_reducible rfl
      rotate_left
      · simp only [Act.put, List.setIfInBounds_toArray, List.set_cons_zero, List.set_cons_succ, i64_w, i32_w]
        rfl
      refine take_ (i := 10) (N := some 46) (v := ?_) (a' := ?_) #[true, true, true, true, true, true, true, true, true, true, true, false, false, false, false, false] rfl rfl (by kernel_rfl) (fun _ _ _ h => h) (Or.inl ⟨by rfl, ?_⟩) hHeld ?_ ?_
      rotate_left
      · rintro w' ⟨s0, s1, s2, s3⟩
        go_simp
        with_reducible rfl
      rotate_left
      · simp only [Act.put, List.setIfInBounds_toArray, List.set_cons_zero, List.set_cons_succ, i64_w, i32_w]
        rfl
      refine one_ (i := 11) (N := some 47) #[true, true, true, true, true, true, true, true, true, true, true, true, false, false, false, false] rfl rfl (by kernel_rfl) (by decide) (fun K hK => ?_)
      refine event_step (w1 := (w8.alloc (.cells #[.int .i64 x0.f0, .int .i64 x0.f1, .slice A8 x0.f2.length c8] 35))) (v := .slice (some ⟨w8.heap.size, 0, none⟩) 1 1) (by rfl) (by first | (go_simp; done) | (go_simp; rfl)) ?_
      refine hK.out _ _ ⟨pw_cell_below (below_alloc (Below.refl _ _) _) ((blk_cell n0_.out.2.2.2.2.1 0).trans rfl), pw_cell_below (below_alloc (Below.refl _ _) _) hz0_, pw_cell_below (below_alloc (Below.refl _ _) _) hz1_, pw_cell_below (below_alloc (Below.refl _ _) _) hz2_⟩ (fun hHeld => ?_)
      clear hK K
      refine norm_ (a' := ?_) ?_ ?_
      rotate_left
      · show Act.put _ (some 47) _ = _
        simp only [Act.put, List.setIfInBounds_toArray, List.set_cons_zero, List.set_cons_succ, i64_w, i32_w]
        rfl
      refine last_ (i := 12) (N := some 48) #[true, true, true, true, true, true, true, true, true, true, true, true, true, false, false, false] rfl rfl (by kernel_rfl) (by decide) (fun K hK => ?_)
      refine Kd.R_append_step k35 (w0 := w8) w.heap.size (by rfl) (.tmp 40) (.tmp 47) 23 35 (.agg #[.int .i64 0, .int .i64 0, .slice none 0 0]) 40 rfl Try.underlying23 info35_ rfl (by decide) (by omega) (.slice (some ⟨gu, 0, none⟩) P1.length cu) P1 x0 [.int .i64 x0.f0, .int .i64 x0.f1, .slice A8 x0.f2.length c8] (fun _ => True) (fun k => True ∧ k ≠ gu) rfl rfl n1_.out (fun k hk => ⟨trivial, fun e => hk.2 (by simpa [Value.ownBlock] using e)⟩) (fun _ _ => trivial) n0_.out.2.2.2.2.2.1 (Below.refl _ _) n0_.out.2.2.1.1 (by omega) ?_
      intro v9 w9 ho hb hg hat
      obtain ⟨hQ9, hz9⟩ := n0_.out.push ho ⟨by rw [List.length_append, List.length_singleton]; omega, by rw [List.length_append, List.length_singleton]; omega, all_snoc HQ.out.2.2 (HQ.out.2.2 _ HM2.out)⟩ hb hg
      have HQ9 := Aside0.mk hQ9
      clear hQ9
      obtain ⟨A9, c9, e9⟩ := Kd.R_slice ho
      subst e9
      rw [List.length_append, List.length_singleton] at HQ9
      refine hK.out _ _ ?_
      clear hK K
      refine norm_ (a' := ?_) ?_ ?_
      rotate_left
      · show Act.put _ (some 48) _ = _
        simp only [Act.put, List.setIfInBounds_toArray, List.set_cons_zero, List.set_cons_succ, i64_w, i32_w]
        rfl
      refine pure_ (i := 13) (N := some 49) (v := ?_) (a' := ?_) #[true, true, true, true, true, true, true, true, true, true, true, true, true, true, false, false] rfl rfl (by kernel_rfl) (fun _ _ _ h => h) (Or.inl ⟨by rfl, ?_⟩) ?_ ?_
      rotate_left
      · intro w'
        go_simp
        with_reducible rfl
      rotate_left
      · simp only [Act.put, List.setIfInBounds_toArray, List.set_cons_zero, List.set_cons_succ, i64_w, i32_w]
        rfl
      refine pure_ (i := 14) (N := some 50) (v := ?_) (a' := ?_) #[true, true, true, true, true, true, true, true, true, true, true, true, true, true, true, false] rfl rfl (by kernel_rfl) (fun _ _ _ h => h) (Or.inl ⟨by rfl, ?_⟩) ?_ ?_
      rotate_left
      · intro w'
        go_simp
        with_reducible rfl
      rotate_left
      · simp only [Act.put, List.setIfInBounds_toArray, List.set_cons_zero, List.set_cons_succ, i64_w, i32_w]
        rfl
      refine last_ (i := 15) (N := none) #[true, true, true, true, true, true, true, true, true, true, true, true, true, true, true, true] rfl rfl (by kernel_rfl) (by decide) (fun K hK => ?_)
      have hs := (blk_cell hz9 0).trans rfl
      have hf := blk_frozen hz9 0
      refine skip_ (w1 := ?_) (by rfl) rfl ?_ ?_
      rotate_left
      · go_simp
        rfl
      refine hK.out _ _ ?_
      clear hK K
      refine done_ (by kernel_rfl) ?_
      go_wp2
      go_roundg kk
      case measure => omega
      case rel => exact ⟨P1 ++ [x0], _, z, ⟨by rw [List.length_append, List.length_singleton]; have := HK.out; omega⟩, HQ9⟩
    · have hcd : decide ((P1.length : Int) < 6 + n1) = false := decide_eq_false hc
      clear hw6
      go_wp2
      go_end0
      exact ⟨rfl, _, _, _, HO.out⟩
end Go.Proofs.Ytopaefhfjioecaa.QFnFileCut
