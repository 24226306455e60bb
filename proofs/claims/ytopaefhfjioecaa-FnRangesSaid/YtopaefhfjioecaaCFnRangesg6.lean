/- Parts of the drawn program's maker, by what they leave. No condition. -/
import Derived.Test.YtopaefhfjioecaaCFnRangesg5
namespace Go.Proofs.Ytopaefhfjioecaa.QFnRanges
open Go.RowKit Go.Proofs.YtopaefhfjioecaaW.PrintWords Go.Proofs.YtopaefhfjioecaaW.PrintLast Go.Proofs.YtopaefhfjioecaaW.PrintMore
attribute [local go_sem] max2_int min2_int max_two min_two max_three min_three max_four min_four
set_option linter.unusedVariables false
set_option linter.unusedSimpArgs false
theorem source_rel {A0 : Option Addr} {c0 : Nat} {l0 : List Int} {w0 w : World} (hB : Below w0.heap.size w0 w) (hr0 : Kd.C (Kd.int .u8) w0 A0 l0.length l0) (hc0 : l0.length ≤ c0) (hl : l0.length ≤ 1048576) :
  Calls Try.prog 44 #[.slice A0 l0.length c0] w fun e w' => ∃ (gs : Nat) (z : Int), e = .returned (.pointer (some ⟨gs, 0, none⟩)) ∧ SrcZ w0 w' gs z ∧ Below w0.heap.size w0 w' ∧ Below w.heap.size w w' := by
 obtain ⟨mix, size, ⟨K, hK⟩, h0, h1⟩ := source_ev l0 hl
 refine (spec_l01Source.calls K A0 c0 l0 l0 0 mix size w0 w hB hr0 hc0 (hK K (Nat.le_refl _))).mono ?_
 rintro e w' ⟨gs, rfl, hi, hb, hb2⟩
 exact ⟨gs, size, rfl, ⟨l0, 0, mix, hi, ⟨by omega, by omega⟩, hl, h0, h1⟩, hb, hb2⟩
/-- A source, and a program in its variable. -/
def L1 (w W : World) (g0 gs : Nat) (z : Int) (g5 : Nat) (u : Value) (P : List S35) : Prop :=
 SrcZ w W gs z ∧ Below w.heap.size w W ∧ (W.heap[g0]? = some (.cells #[.slice none 0 0] 25 (0, 0)) ∧ w.heap.size ≤ g0) ∧ (W.heap[g5]? = some (.cells #[u] 25 (0, 0)) ∧ w.heap.size ≤ g5) ∧ Kd.R k35 35 W w.heap.size (fun _ => True) u P ∧ GoodP P ∧ g0 ≠ g5
theorem SrcZ.blk {w0 w : World} {gs : Nat} {s : Int} (h : SrcZ w0 w gs s) : ∃ cs, w.heap[gs]? = some (.cells cs 106 (0, 0)) := by
 obtain ⟨l, a, x, ⟨A0, c0, h1, _⟩, _⟩ := h
 exact ⟨_, h1⟩
section
variable {w W W' : World} {g0 gs g5 : Nat} {z z' : Int} {u : Value} {P : List S35}
theorem L1.src (h : L1 w W g0 gs z g5 u P) (hs : SrcZ w W' gs z') (hb : Below w.heap.size w W') (hk : KeepBut W W' gs none) : L1 w W' g0 gs z' g5 u P := by
 obtain ⟨a1, a2, ⟨a3, a3'⟩, ⟨a4, a4'⟩, a5, a6, a7⟩ := h
 obtain ⟨cs, hc⟩ := a1.blk
 exact ⟨hs, hb, ⟨(hk.2 _ (blk_lt a3) (blk_ne a3 hc (by decide)) (by simp)).trans a3, a3'⟩, ⟨(hk.2 _ (blk_lt a4) (blk_ne a4 hc (by decide)) (by simp)).trans a4, a4'⟩, Kd.R_mono (Kd.R_step (Kd.R_types a5 hc (by decide)) (fun k a b => hk.2 k b a.2 (by simp))) (fun _ _ => trivial), a6, a7⟩
theorem L1.drew (h : L1 w W g0 gs z g5 u P) : L1 w W.drew g0 gs z g5 u P := h.src (h.1.same rfl) (below_drew1 h.2.1) ⟨Nat.le_refl _, fun _ _ _ _ => rfl⟩
theorem L1.fin (h : L1 w W g0 gs z g5 u P) : (W.setCell ⟨g0, 0, none⟩ u).heap[g0]? = some (.cells #[u] 25 (0, 0)) ∧ Kd.R k35 35 (W.setCell ⟨g0, 0, none⟩ u) w.heap.size (fun _ => True) u P ∧ Below w.heap.size w (W.setCell ⟨g0, 0, none⟩ u) := by
 obtain ⟨a1, a2, ⟨a3, a3'⟩, ⟨a4, a4'⟩, a5, a6, a7⟩ := h
 exact ⟨blk_put a3 0 u rfl, Kd.R_set a5 a3 (by decide) 0 u, below_set a2 a3'⟩
end
theorem held_far {W : World} {g0 g5 : Nat} {v u : Value} (h : W.cell? ⟨g5, 0, none⟩ = some u) (hne : g0 ≠ g5) : (W.setCell ⟨g0, 0, none⟩ v).cell? ⟨g5, 0, none⟩ = some u := (World.cell?_setCell_other W _ _ v (by intro e; injection e with e; exact hne e)).trans h
theorem L1.start {w w1 w2 : World} {gs : Nat} {z z2 : Int} {u : Value} {P : List S35} (h1 : SrcZ w w1 gs z) (h2 : SrcZ w w2 gs z2) (hb0 : Below (w.alloc (.cells #[.slice none 0 0] 25)).heap.size (w.alloc (.cells #[.slice none 0 0] 25)) w1) (hb : Below w.heap.size w w2) (hk : KeepBut w1 w2 gs none) (hR : Kd.R k35 35 w2 w1.heap.size (fun _ => True) u P) (hP : GoodP P) : L1 w (w2.alloc (.cells #[u] 25)) w.heap.size gs z2 w2.heap.size u P := by
 have e0 := heap_alloc_new w (.cells #[.slice none 0 0] 25)
 have e1 := (hb0.block w.heap.size (by simp)).trans e0
 obtain ⟨cs, hc⟩ := h1.blk
 have e2 := (hk.2 _ (blk_lt e1) (blk_ne e1 hc (by decide)) (by simp)).trans e1
 have e3 : w.heap.size < w2.heap.size := blk_lt e2
 refine ⟨h2.same (Below.heap_alloc w2 _ gs (Src.lt ⟨_, h2⟩)), below_alloc hb _, ⟨blk_alloc e2 _, Nat.le_refl _⟩, ⟨heap_alloc_new w2 _, by omega⟩, ?_, hP, by omega⟩
 exact Kd.R_alloc (Kd.R_lower hR (Nat.le_trans (by simp) hb0.size)) _
set_option maxHeartbeats 8000000 in
set_option maxRecDepth 100000 in
theorem one04_rel {A0 : Option Addr} {c0 : Nat} {l0 : List Int} {w : World} (hr0 : Kd.C (Kd.int .u8) w A0 l0.length l0) (hc0 : l0.length ≤ c0) (hl : l0.length ≤ 1048576) :
  Calls Try.prog 32 #[.slice A0 l0.length c0] w fun e w' => ∃ (u : Value) (P : List S35) (f : Int), e = .returned (.tuple #[.agg #[u], .int .i64 f]) ∧ in64 f ∧ Kd.R k35 35 w' w.heap.size (fun _ => True) u P ∧ GoodP P ∧ Below w.heap.size w w' := by
 have HR := Aside0.mk hr0
 have HC := Aside0.mk (And.intro hc0 hl)
 clear hr0 hc0 hl
 go_enter Try.func32, Try.ntmps32
 go_wp2_with (first | ((with_reducible refine gate_callee (f := 44) rfl ?_); refine goesL_ _ rfl rfl Try.func44 (by kernel_rfl) rfl #[.slice A0 l0.length c0] rfl gl ?_; refine (source_rel (w0 := w) ((Below.refl _ _).alloc (Nat.le_refl _) _) HR.out HC.out.1 HC.out.2).mono ?_; rintro e w1 ⟨gs, z, rfl, hs, hb, hb2⟩; refine ⟨_, rfl, ?_⟩; have HS := Aside0.mk hs; have HB := Aside0.mk hb; have HB2 := Aside0.mk hb2; clear hs hb hb2) | ((with_reducible refine gate_callee (f := 45) rfl ?_); refine goesL_ _ rfl rfl Try.func45 (by kernel_rfl) rfl #[.pointer (some ⟨gs, 0, none⟩)] rfl gl ?_; refine (prog_rel HS.out HB.out).mono ?_; rintro e w2 ⟨u, P, rfl, ⟨z2, hs⟩, hb, hk, hR, hP⟩; refine ⟨_, rfl, ?_⟩; obtain ⟨Au, cu, eu⟩ := Kd.R_slice hR; subst eu; have HL := Aside0.mk (L1.start HS.out hs HB2.out hb hk hR hP); have HP3 := Aside0.mk hP; clear HS HB HB2 hs hb hk hR hP) | ((with_reducible refine gate_callee (f := 69) rfl ?_); refine goesL_ _ rfl rfl Try.func69 (by kernel_rfl) rfl #[.pointer (some ⟨gs, 0, none⟩), .int .i64 20] rfl gl ?_; refine (one_rel ⟨_, HL.out.1⟩ HL.out.2.1 20 (by omega) (by omega)).mono ?_; rintro e w3 ⟨b1, rfl, ⟨z3, hs⟩, hb, hk⟩; refine ⟨_, rfl, ?_⟩; have n0_ := Aside0.mk (HL.out.src hs hb hk); clear HL hs hb hk; have HL := n0_; clear n0_; rcases b1 with _ | _))
 · have n0_ := Aside0.mk HL.out.drew
   clear HL
   have HL := n0_
   clear n0_
   go_region_held3 (fun w' => w'.cell? ⟨w2.heap.size, 0, none⟩ = some (.slice Au P.length cu)) (first | exact (blk_cell HL.out.2.2.2.1.1 0).trans rfl | exact held_far ((blk_cell HL.out.2.2.2.1.1 0).trans rfl) HL.out.2.2.2.2.2.2) (first | (go_at_call 56; refine (n_relZ HL.out.1 HL.out.2.1 _ (by have := HP3.out.2.1; omega)).mono ?_; rintro e w4 ⟨n1, rfl, hn1, hs, hb, hk⟩; have n0_ := Aside0.mk (HL.out.src hs hb hk); clear HL hs hb hk; have HL := n0_; clear n0_; have hc0 := (blk_cell HL.out.2.2.1.1 0); have hf0 := blk_frozen HL.out.2.2.1.1 0))
   go_wp2
   refine bodyPost_ret (results_ct rfl _ _ w.heap.size 25 #[.slice Au P.length cu] (0, 0) _ rfl HL.out.fin.1 Try.underlying25 rfl (by kernel_rfl)) rfl ?_
   exact ⟨_, P, _, rfl, (by have := HP3.out.2.1; unfold in64; omega), HL.out.fin.2.1, HP3.out, HL.out.fin.2.2⟩
 · have n0_ := Aside0.mk HL.out.drew
   clear HL
   have HL := n0_
   clear n0_
   go_region_held3 (fun w' => w'.cell? ⟨w2.heap.size, 0, none⟩ = some (.slice Au P.length cu)) (first | exact (blk_cell HL.out.2.2.2.1.1 0).trans rfl | exact held_far ((blk_cell HL.out.2.2.2.1.1 0).trans rfl) HL.out.2.2.2.2.2.2) (first | (go_at_call 56; refine (n_relZ HL.out.1 HL.out.2.1 _ (by omega)).mono ?_; rintro e w4 ⟨n1, rfl, hn1, hs, hb, hk⟩; have n0_ := Aside0.mk (HL.out.src hs hb hk); clear HL hs hb hk; have HL := n0_; clear n0_; have hc0 := (blk_cell HL.out.2.2.1.1 0); have hf0 := blk_frozen HL.out.2.2.1.1 0))
   go_wp2
   refine bodyPost_ret (results_ct rfl _ _ w.heap.size 25 #[.slice Au P.length cu] (0, 0) _ rfl HL.out.fin.1 Try.underlying25 rfl (by kernel_rfl)) rfl ?_
   exact ⟨_, P, _, rfl, (by have h9 : wrap64 (n1 - 1) = n1 - 1 := wrap_in (by omega) (by omega); first | (unfold in64; omega) | (simp only [i64_w]; rw [h9]; unfold in64; omega)), HL.out.fin.2.1, HP3.out, HL.out.fin.2.2⟩
set_option maxHeartbeats 8000000 in
set_option maxRecDepth 100000 in
theorem draw_rel {A0 : Option Addr} {c0 : Nat} {l0 : List Int} {w : World} (hr0 : Kd.C (Kd.int .u8) w A0 l0.length l0) (hc0 : l0.length ≤ c0) (hl : l0.length ≤ 1048576) :
  Calls Try.prog 24 #[.slice A0 l0.length c0] w fun e w' => ∃ (u : Value) (P : List S35) (f : Int), e = .returned (.tuple #[.agg #[u], .int .i64 f]) ∧ in64 f ∧ Kd.R k35 35 w' w.heap.size (fun _ => True) u P ∧ GoodP P ∧ Below w.heap.size w w' := by
 have HR := Aside0.mk (Kd.C_below hr0 (below_alloc (Below.refl _ _) (.cells #[.slice none 0 0] 25)))
 have HC := Aside0.mk (And.intro hc0 hl)
 clear hr0 hc0 hl
 go_enter Try.func24, Try.ntmps24
 go_wp2_with (first | ((with_reducible refine gate_callee (f := 32) rfl ?_); refine goesL_ _ rfl rfl Try.func32 (by kernel_rfl) rfl #[.slice A0 l0.length c0] rfl gl ?_; refine (one04_rel HR.out HC.out.1 HC.out.2).mono ?_; rintro e w1 ⟨u, P, n1, rfl, hn1, hR, hP, hb⟩; refine ⟨_, rfl, ?_⟩; obtain ⟨Au, cu, eu⟩ := Kd.R_slice hR; subst eu; have hz := (hb.block w.heap.size (by simp)).trans (heap_alloc_new w (.cells #[.slice none 0 0] 25)); have HZ := Aside0.mk hz; have H1 := Aside0.mk hR; have H2 := Aside0.mk hP; have H3 := Aside0.mk hb; have H4 := Aside0.mk hn1; have hc0_ : w1.cell? ⟨w.heap.size, 0, none⟩ = some (.slice none 0 0) := (blk_cell hz 0).trans rfl; have hf0_ := blk_frozen hz 0; clear hz hR hP hb hn1))
 refine bodyPost_ret (results_ct rfl _ _ w.heap.size 25 #[.slice Au P.length cu] (0, 0) _ rfl (blk_put HZ.out 0 _ rfl) Try.underlying25 rfl (by kernel_rfl)) rfl ?_
 exact ⟨_, P, _, rfl, H4.out, Kd.R_lower (Kd.R_set H1.out HZ.out (by decide) 0 _) (by simp), H2.out, below_set (below_weaken ((Below.refl _ _).alloc (Nat.le_refl _) _) (by simp) H3.out) (Nat.le_refl _)⟩
end Go.Proofs.Ytopaefhfjioecaa.QFnRanges
