/- Parts of the drawn program's maker, by what they leave. No condition. -/
import Derived.Test.YtopaefhfjioecaaCFnFileCutg5
import Derived.Test.YtopaefhfjioecaaCFnFileCutx
import Derived.Deep.RegionHeld3
import Derived.StillTailTactics
namespace Go.Proofs.Ytopaefhfjioecaa.QFnFileCut
open Go.RowKit Go.Proofs.YtopaefhfjioecaaW.PrintWords Go.Proofs.YtopaefhfjioecaaW.PrintLast Go.Proofs.YtopaefhfjioecaaW.PrintMore Go.Proofs.YtopaefhfjioecaaW.PrintShort
attribute [local go_sem] max2_int min2_int max_two min_two max_three min_three max_four min_four
set_option linter.unusedVariables false
set_option linter.unusedSimpArgs false
theorem source_rel {A0 : Option Addr} {c0 : Nat} {l0 : List Int} {w0 w : World} (hB : Below w0.heap.size w0 w) (hr0 : Kd.C (Kd.int .u8) w0 A0 l0.length l0) (hc0 : l0.length ≤ c0) (hl : l0.length ≤ 1048576) :
  Calls Try.prog 44 #[.slice A0 l0.length c0] w fun e w' => ∃ (gs : Nat) (z : Int), e = .returned (.pointer (some ⟨gs, 0, none⟩)) ∧ SrcZ w0 w' gs z ∧ Below w0.heap.size w0 w' ∧ Below w.heap.size w w' := by
 obtain ⟨mix, size, ⟨K, hK⟩, h0, h1⟩ := source_ev l0 hl
 refine (spec_l01Source.calls K A0 c0 l0 l0 0 mix size w0 w hB hr0 hc0 (hK K (Nat.le_refl _))).mono ?_
 rintro e w' ⟨gs, rfl, hi, hb, hb2⟩
 exact ⟨gs, size, rfl, ⟨l0, 0, mix, hi, ⟨by omega, by omega⟩, hl, h0, h1⟩, hb, hb2⟩
theorem SrcZ.blk {w0 w : World} {gs : Nat} {s : Int} (h : SrcZ w0 w gs s) : ∃ cs, w.heap[gs]? = some (.cells cs 106 (0, 0)) := by
 obtain ⟨l, a, x, ⟨A0, c0, h1, _⟩, _⟩ := h
 exact ⟨_, h1⟩
/-- Where a text that is cut off says that it ends. -/
def CutB (u : ByteArray) (bad : Int) : Prop := 0 ≤ bad ∧ bad ≤ (u.size : Int) ∧ (u.size : Int) < bad + 10
/-- What a text that is cut off gives: the numbers one by one, or its end. -/
def PlanR (u : ByteArray) (Rest : List Int → Int → Prop) : Prop := ∀ (n : Int) (l : List Int) (a : Int), Rest (n :: l) a → ∃ k : Nat, (∃ a', impl_getNum.f k u a = some (n, a', 0) ∧ Rest l a') ∨ (impl_getNum.f k u a = some (0, 0, 4) ∧ CutB u a)
/-- What a reader of such a text may be. -/
def StR (u : ByteArray) (Rest : List Int → Int → Prop) (l : List Int) (at_ bad code : Int) : Prop := (code = 0 ∧ Rest l at_) ∨ (code = 4 ∧ CutB u bad)
section
variable {w0 W : World} {g : Nat} {u : ByteArray} {a b c : Int}
theorem kS0 (h : IsS79 w0 W g u a b c) : W.cell? ⟨g, 0, none⟩ = some (.string u) ∧ W.cell? ⟨g, 1, none⟩ = some (.int .i64 a) := ⟨cellS79_0 h.1, cellS79_1 h.1⟩
theorem kS1 (h : IsS79 w0 W g u a b c) : W.drew.cell? ⟨g, 0, none⟩ = some (.string u) ∧ W.drew.cell? ⟨g, 1, none⟩ = some (.int .i64 a) := kS0 h
theorem kS2 (h : IsS79 w0 W g u a b c) (o : Obj) : (W.alloc o).cell? ⟨g, 0, none⟩ = some (.string u) ∧ (W.alloc o).cell? ⟨g, 1, none⟩ = some (.int .i64 a) := kS0 (h.alloc o)
theorem kS3 (h : IsS79 w0 W g u a b c) (o : Obj) : (W.alloc o).drew.cell? ⟨g, 0, none⟩ = some (.string u) ∧ (W.alloc o).drew.cell? ⟨g, 1, none⟩ = some (.int .i64 a) := kS0 (h.alloc o)
theorem kS5 (h : IsS79 w0 W g u a b c) (o : Obj) : (W.drew.alloc o).cell? ⟨g, 0, none⟩ = some (.string u) ∧ (W.drew.alloc o).cell? ⟨g, 1, none⟩ = some (.int .i64 a) := kS0 (h.drew.alloc o)
theorem kS4 (h : IsS79 w0 W g u a b c) {q : Nat} (hq : g ≠ q) (x y z : Value) : (((W.setCell ⟨q, 0, none⟩ x).setCell ⟨q, 1, none⟩ y).setCell ⟨q, 2, none⟩ z).cell? ⟨g, 0, none⟩ = some (.string u) ∧ (((W.setCell ⟨q, 0, none⟩ x).setCell ⟨q, 1, none⟩ y).setCell ⟨q, 2, none⟩ z).cell? ⟨g, 1, none⟩ = some (.int .i64 a) := kS0 (((h.far hq _).far hq _).far hq _)
/-- What a call that reads leaves, where a variable has been made ahead of it or is made behind it. -/
def Got (w0 w W : World) (g : Nat) (u : ByteArray) (a b c : Int) (q : Nat) (r1 r2 r3 : Int) : Prop := IsS79 w0 W g u a b c ∧ Below w0.heap.size w0 W ∧ KeepBut w W g none ∧ g ≠ q ∧ W.heap[q]? = some (.cells #[.int .i64 r1, .int .i64 r2, .int .i64 r3] 115 (0, 0))
theorem got1 {w : World} (h : IsS79 w0 W g u a b c) (hB : Below w0.heap.size w0 W) (hK : KeepBut w W g none) (r1 r2 r3 : Int) : Got w0 w (W.alloc (.cells #[.int .i64 r1, .int .i64 r2, .int .i64 r3] 115)) g u a b c W.heap.size r1 r2 r3 := ⟨h.alloc _, below_alloc hB _, keep_alloc hK _, Nat.ne_of_lt h.lt, heap_alloc_new W _⟩
theorem got2 {w : World} (h : IsS79 w0 W g u a b c) (hB : Below w0.heap.size w0 W) (hK : KeepBut w W g none) {q : Nat} (hq : g ≠ q) (hw : w.heap.size ≤ q) (hb : w0.heap.size ≤ q) {x1 x2 x3 : Value} (hz : W.heap[q]? = some (.cells #[x1, x2, x3] 115 (0, 0))) (r1 r2 r3 : Int) : Got w0 w (((W.setCell ⟨q, 0, none⟩ (.int .i64 r1)).setCell ⟨q, 1, none⟩ (.int .i64 r2)).setCell ⟨q, 2, none⟩ (.int .i64 r3)) g u a b c q r1 r2 r3 := by
 refine ⟨((h.far hq _).far hq _).far hq _, below_set (below_set (below_set hB hb) hb) hb, ?_, hq, blk_put (blk_put (blk_put hz 0 _ rfl) 1 _ rfl) 2 _ rfl⟩
 refine ⟨by simpa [World.setCell] using hK.1, fun i hi hg hr => ?_⟩
 have e : ∀ (V : World) (j : Nat) (v : Value), (V.setCell ⟨q, j, none⟩ v).heap[i]? = V.heap[i]? := fun V j v => Below.heap_setCell V _ _ i (by show i ≠ q; omega)
 rw [e, e, e]
 exact hK.2 i hi hg hr
end
section
variable {u : ByteArray} {Rest : List Int → Int → Prop}
set_option maxHeartbeats 4000000 in
set_option maxRecDepth 100000 in
theorem rnum_rel (hp : PlanR u Rest) {g : Nat} {n : Int} {l : List Int} {at_ bad code : Int} {w0 w : World} (hI : IsS79 w0 w g u at_ bad code) (hB : Below w0.heap.size w0 w) (h : StR u Rest (n :: l) at_ bad code) :
  Calls Try.prog 47 #[.pointer (some ⟨g, 0, none⟩)] w fun e w' => ∃ v at1 bad1 code1 : Int, e = .returned (.int .i64 v) ∧ IsS79 w0 w' g u at1 bad1 code1 ∧ ((code1 = 0 ∧ v = n ∧ Rest l at1) ∨ (code1 = 4 ∧ v = 0 ∧ CutB u bad1)) ∧ Below w0.heap.size w0 w' ∧ KeepBut w w' g none := by
 have HI := Aside0.mk hI
 have HB := Aside0.mk hB
 have HK := Aside0.mk (KeepBut.refl w g none)
 have hc3 := cellS79_3 hI.1
 have hf3 := blk_frozen hI.1 3
 have hgl : g ≠ w.heap.size := Nat.ne_of_lt hI.lt
 have hwl : w0.heap.size ≤ w.heap.size := hB.size
 rcases h with ⟨rfl, hr⟩ | ⟨rfl, hq⟩
 · obtain ⟨k, ⟨a1, e1, r1⟩ | ⟨e1, q1⟩⟩ := hp n l at_ hr
   · have HE := Aside0.mk e1
     clear hI hB e1
     go_enter Try.func47, Try.ntmps47
     go_wp2
     go_region_held3 (fun w' => w'.cell? ⟨g, 0, none⟩ = some (.string u) ∧ w'.cell? ⟨g, 1, none⟩ = some (.int .i64 at_)) (first | with_reducible exact kS1 HI.out | with_reducible exact kS0 HI.out | with_reducible exact kS2 HI.out _ | with_reducible exact kS4 HI.out hgl _ _ _ | with_reducible exact kS3 HI.out _ | with_reducible exact kS5 HI.out _) (first | (go_at_call 84; refine (impl_getNum.calls k u at_ n a1 0 _ HE.out).mono ?_; rintro e w4 ⟨rfl, hb⟩; have n0_ : Aside0 (IsS79 w0 w4 g u at_ bad 0) := ⟨by first | with_reducible exact HI.out.drew.below hb | with_reducible exact (HI.out.alloc _).drew.below hb | with_reducible exact (HI.out.drew.alloc _).below hb⟩; have n1_ : Aside0 (Below w0.heap.size w0 w4) := ⟨by first | with_reducible exact below_step (below_drew1 HB.out) hb | with_reducible exact below_step (below_drew1 (below_alloc HB.out _)) hb | with_reducible exact below_step (below_alloc (below_drew1 HB.out) _) hb⟩; have n2_ : Aside0 (KeepBut w w4 g none) := ⟨by first | with_reducible exact (keep_drew (KeepBut.refl w g none)).trans (KeepBut.of_below hb g none) (.inl rfl) | with_reducible exact (keep_drew (keep_alloc (KeepBut.refl w g none) _)).trans (KeepBut.of_below hb g none) (.inl rfl) | with_reducible exact (keep_alloc (keep_drew (KeepBut.refl w g none)) _).trans (KeepBut.of_below hb g none) (.inl rfl)⟩; clear HI HB HK; have HI := n0_; have HB := n1_; have HK := n2_; clear n0_ n1_ n2_; (try (have hz : w4.heap[w.heap.size]? = some (.cells #[.int .i64 0, .int .i64 0, .int .i64 0] 115 (0, 0)) := blk_below (w := (w.alloc (.cells #[.int .i64 0, .int .i64 0, .int .i64 0] 115)).drew) (heap_alloc_new w _) hb; have hz0 : w4.cell? ⟨w.heap.size, 0, none⟩ = some (.int .i64 0) := (blk_cell hz 0).trans rfl; have hz1 : w4.cell? ⟨w.heap.size, 1, none⟩ = some (.int .i64 0) := (blk_cell hz 1).trans rfl; have hz2 : w4.cell? ⟨w.heap.size, 2, none⟩ = some (.int .i64 0) := (blk_cell hz 2).trans rfl; have hy0 := blk_frozen hz 0; have hy1 := blk_frozen hz 1; have hy2 := blk_frozen hz 2))))
     · have HG := Aside0.mk (got1 HI.out HB.out HK.out n a1 0)
       generalize (w4.alloc (.cells #[.int .i64 n, .int .i64 a1, .int .i64 0] 115)) = W at HG ⊢
       clear HI HB HK hc3 hf3
       skip
       generalize w4.heap.size = q at HG ⊢
       have hq0 : W.cell? ⟨q, 0, none⟩ = some (.int .i64 n) := (blk_cell HG.out.2.2.2.2 0).trans rfl
       have hq1 : W.cell? ⟨q, 1, none⟩ = some (.int .i64 a1) := (blk_cell HG.out.2.2.2.2 1).trans rfl
       have hq2 : W.cell? ⟨q, 2, none⟩ = some (.int .i64 0) := (blk_cell HG.out.2.2.2.2 2).trans rfl
       have hg1 := cellS79_1 HG.out.1.1
       have hgf := blk_frozen HG.out.1.1 1
       go_wp2
       go_ret
       exact ⟨n, a1, bad, 0, rfl, HG.out.1.set_1 a1, .inl ⟨rfl, rfl, r1⟩, below_set HG.out.2.1 HG.out.1.ge, HG.out.2.2.1.set_ 1 _⟩
     · have HG := Aside0.mk (got2 HI.out HB.out HK.out hgl (Nat.le_refl _) hwl hz n a1 0)
       generalize (((w4.setCell ⟨w.heap.size, 0, none⟩ (.int .i64 n)).setCell ⟨w.heap.size, 1, none⟩ (.int .i64 a1)).setCell ⟨w.heap.size, 2, none⟩ (.int .i64 0)) = W at HG ⊢
       clear HI HB HK hc3 hf3
       clear hz hz0 hz1 hz2 hy0 hy1 hy2
       generalize w.heap.size = q at HG ⊢
       have hq0 : W.cell? ⟨q, 0, none⟩ = some (.int .i64 n) := (blk_cell HG.out.2.2.2.2 0).trans rfl
       have hq1 : W.cell? ⟨q, 1, none⟩ = some (.int .i64 a1) := (blk_cell HG.out.2.2.2.2 1).trans rfl
       have hq2 : W.cell? ⟨q, 2, none⟩ = some (.int .i64 0) := (blk_cell HG.out.2.2.2.2 2).trans rfl
       have hg1 := cellS79_1 HG.out.1.1
       have hgf := blk_frozen HG.out.1.1 1
       go_wp2
       go_ret
       exact ⟨n, a1, bad, 0, rfl, HG.out.1.set_1 a1, .inl ⟨rfl, rfl, r1⟩, below_set HG.out.2.1 HG.out.1.ge, HG.out.2.2.1.set_ 1 _⟩
   · have HE := Aside0.mk e1
     clear hI hB e1
     go_enter Try.func47, Try.ntmps47
     go_wp2
     go_region_held3 (fun w' => w'.cell? ⟨g, 0, none⟩ = some (.string u) ∧ w'.cell? ⟨g, 1, none⟩ = some (.int .i64 at_)) (first | with_reducible exact kS1 HI.out | with_reducible exact kS0 HI.out | with_reducible exact kS2 HI.out _ | with_reducible exact kS4 HI.out hgl _ _ _ | with_reducible exact kS3 HI.out _ | with_reducible exact kS5 HI.out _) (first | (go_at_call 84; refine (impl_getNum.calls k u at_ 0 0 4 _ HE.out).mono ?_; rintro e w4 ⟨rfl, hb⟩; have n0_ : Aside0 (IsS79 w0 w4 g u at_ bad 0) := ⟨by first | with_reducible exact HI.out.drew.below hb | with_reducible exact (HI.out.alloc _).drew.below hb | with_reducible exact (HI.out.drew.alloc _).below hb⟩; have n1_ : Aside0 (Below w0.heap.size w0 w4) := ⟨by first | with_reducible exact below_step (below_drew1 HB.out) hb | with_reducible exact below_step (below_drew1 (below_alloc HB.out _)) hb | with_reducible exact below_step (below_alloc (below_drew1 HB.out) _) hb⟩; have n2_ : Aside0 (KeepBut w w4 g none) := ⟨by first | with_reducible exact (keep_drew (KeepBut.refl w g none)).trans (KeepBut.of_below hb g none) (.inl rfl) | with_reducible exact (keep_drew (keep_alloc (KeepBut.refl w g none) _)).trans (KeepBut.of_below hb g none) (.inl rfl) | with_reducible exact (keep_alloc (keep_drew (KeepBut.refl w g none)) _).trans (KeepBut.of_below hb g none) (.inl rfl)⟩; clear HI HB HK; have HI := n0_; have HB := n1_; have HK := n2_; clear n0_ n1_ n2_; (try (have hz : w4.heap[w.heap.size]? = some (.cells #[.int .i64 0, .int .i64 0, .int .i64 0] 115 (0, 0)) := blk_below (w := (w.alloc (.cells #[.int .i64 0, .int .i64 0, .int .i64 0] 115)).drew) (heap_alloc_new w _) hb; have hz0 : w4.cell? ⟨w.heap.size, 0, none⟩ = some (.int .i64 0) := (blk_cell hz 0).trans rfl; have hz1 : w4.cell? ⟨w.heap.size, 1, none⟩ = some (.int .i64 0) := (blk_cell hz 1).trans rfl; have hz2 : w4.cell? ⟨w.heap.size, 2, none⟩ = some (.int .i64 0) := (blk_cell hz 2).trans rfl; have hy0 := blk_frozen hz 0; have hy1 := blk_frozen hz 1; have hy2 := blk_frozen hz 2))))
     · have HG := Aside0.mk (got1 HI.out HB.out HK.out 0 0 4)
       generalize (w4.alloc (.cells #[.int .i64 0, .int .i64 0, .int .i64 4] 115)) = W at HG ⊢
       clear HI HB HK hc3 hf3
       skip
       generalize w4.heap.size = q at HG ⊢
       have hq0 : W.cell? ⟨q, 0, none⟩ = some (.int .i64 0) := (blk_cell HG.out.2.2.2.2 0).trans rfl
       have hq1 : W.cell? ⟨q, 1, none⟩ = some (.int .i64 0) := (blk_cell HG.out.2.2.2.2 1).trans rfl
       have hq2 : W.cell? ⟨q, 2, none⟩ = some (.int .i64 4) := (blk_cell HG.out.2.2.2.2 2).trans rfl
       have hg1 := cellS79_1 HG.out.1.1
       have hgf := blk_frozen HG.out.1.1 1
       go_wp2
       go_region_held3 (fun w' => w'.cell? ⟨g, 1, none⟩ = some (.int .i64 at_) ∧ w'.cell? ⟨q, 2, none⟩ = some (.int .i64 4)) (first | exact ⟨hg1, hq2⟩ | exact ⟨cellS79_1 HE2.out.1.1, hq2_⟩) (first | (go_at_call 49; refine (impl_reader_fault.calls g u at_ bad 0 at_ 4 u at_ at_ 4 w0 _ HG.out.1.drew (below_drew1 HG.out.2.1) (by unfold impl_reader_fault.f; rw [if_pos rfl])).mono ?_; rintro e w5 ⟨rfl, hI, hb, hk⟩; have HE2 := Aside0.mk (And.intro hI (And.intro hb ((keep_drew HG.out.2.2.1).trans hk (.inl rfl)))); have hq2_ : w5.cell? ⟨q, 2, none⟩ = some (.int .i64 4) := (blk_cell (hk.blk (show W.drew.heap[q]? = _ from HG.out.2.2.2.2) (fun e => HG.out.2.2.2.1 e.symm) (by simp)) 2).trans rfl; clear HG hI hb hk))
       go_wp2
       go_ret
       exact ⟨0, at_, at_, 4, rfl, HE2.out.1, .inr ⟨rfl, rfl, q1⟩, HE2.out.2.1, HE2.out.2.2⟩
     · have HG := Aside0.mk (got2 HI.out HB.out HK.out hgl (Nat.le_refl _) hwl hz 0 0 4)
       generalize (((w4.setCell ⟨w.heap.size, 0, none⟩ (.int .i64 0)).setCell ⟨w.heap.size, 1, none⟩ (.int .i64 0)).setCell ⟨w.heap.size, 2, none⟩ (.int .i64 4)) = W at HG ⊢
       clear HI HB HK hc3 hf3
       clear hz hz0 hz1 hz2 hy0 hy1 hy2
       generalize w.heap.size = q at HG ⊢
       have hq0 : W.cell? ⟨q, 0, none⟩ = some (.int .i64 0) := (blk_cell HG.out.2.2.2.2 0).trans rfl
       have hq1 : W.cell? ⟨q, 1, none⟩ = some (.int .i64 0) := (blk_cell HG.out.2.2.2.2 1).trans rfl
       have hq2 : W.cell? ⟨q, 2, none⟩ = some (.int .i64 4) := (blk_cell HG.out.2.2.2.2 2).trans rfl
       have hg1 := cellS79_1 HG.out.1.1
       have hgf := blk_frozen HG.out.1.1 1
       go_wp2
       go_region_held3 (fun w' => w'.cell? ⟨g, 1, none⟩ = some (.int .i64 at_) ∧ w'.cell? ⟨q, 2, none⟩ = some (.int .i64 4)) (first | exact ⟨hg1, hq2⟩ | exact ⟨cellS79_1 HE2.out.1.1, hq2_⟩) (first | (go_at_call 49; refine (impl_reader_fault.calls g u at_ bad 0 at_ 4 u at_ at_ 4 w0 _ HG.out.1.drew (below_drew1 HG.out.2.1) (by unfold impl_reader_fault.f; rw [if_pos rfl])).mono ?_; rintro e w5 ⟨rfl, hI, hb, hk⟩; have HE2 := Aside0.mk (And.intro hI (And.intro hb ((keep_drew HG.out.2.2.1).trans hk (.inl rfl)))); have hq2_ : w5.cell? ⟨q, 2, none⟩ = some (.int .i64 4) := (blk_cell (hk.blk (show W.drew.heap[q]? = _ from HG.out.2.2.2.2) (fun e => HG.out.2.2.2.1 e.symm) (by simp)) 2).trans rfl; clear HG hI hb hk))
       go_wp2
       go_ret
       exact ⟨0, at_, at_, 4, rfl, HE2.out.1, .inr ⟨rfl, rfl, q1⟩, HE2.out.2.1, HE2.out.2.2⟩
 · have HQ := Aside0.mk hq
   clear hI hB hq
   go_enter Try.func47, Try.ntmps47
   go_wp2
   go_ret
   exact ⟨0, at_, bad, 4, rfl, HI.out, .inr ⟨rfl, rfl, HQ.out⟩, HB.out, KeepBut.refl _ _ _⟩
end
section
variable {u : ByteArray} {Rest : List Int → Int → Prop}
set_option maxHeartbeats 4000000 in
set_option maxRecDepth 100000 in
theorem rcount_rel (hp : PlanR u Rest) {g : Nat} {n : Int} {l : List Int} {at_ bad code : Int} {w0 w : World} (low high : Int) (hn : low ≤ n ∧ n ≤ high) (hI : IsS79 w0 w g u at_ bad code) (hB : Below w0.heap.size w0 w) (h : StR u Rest (n :: l) at_ bad code) :
  Calls Try.prog 46 #[.pointer (some ⟨g, 0, none⟩), .int .i64 low, .int .i64 high] w fun e w' => ∃ v at1 bad1 code1 : Int, e = .returned (.int .i64 v) ∧ IsS79 w0 w' g u at1 bad1 code1 ∧ ((code1 = 0 ∧ v = n ∧ Rest l at1) ∨ (code1 = 4 ∧ v = 0 ∧ CutB u bad1)) ∧ Below w0.heap.size w0 w' ∧ KeepBut w w' g none := by
 have HI := Aside0.mk hI
 have HB := Aside0.mk hB
 have HS := Aside0.mk h
 have HN := Aside0.mk hn
 have hc1 := cellS79_1 hI.1
 have hf1 := blk_frozen hI.1 1
 clear hI hB h hn
 go_enter Try.func46, Try.ntmps46
 go_wp2_with (first | ((with_reducible refine gate_callee (f := 47) rfl ?_); refine goesL_ _ rfl rfl Try.func47 (by kernel_rfl) rfl #[.pointer (some ⟨g, 0, none⟩)] rfl gl ?_; refine (rnum_rel hp HI.out HB.out HS.out).mono ?_; rintro e w4 ⟨v1, at1, bad1, code1, rfl, hI, hc, hb, hk⟩; refine ⟨_, rfl, ?_⟩; have n0_ := Aside0.mk hI; have n1_ := Aside0.mk hb; have HK := Aside0.mk hk; clear HI HB HS hb hk hc1 hf1; have HI := n0_; have HB := n1_; clear n0_ n1_; have hc3 := cellS79_3 hI.1; have hf3 := blk_frozen hI.1 3; clear hI; rcases hc with ⟨rfl, rfl, hr⟩ | ⟨rfl, rfl, hq⟩) | ((refine gate_guard (by rfl) ?_); (with_reducible refine gate_callee (f := 71) rfl ?_); refine goesL_ _ rfl rfl Try.func71 (by kernel_rfl) rfl #[.int .i64 _, .int .i64 low, .int .i64 high] rfl gl ?_; refine (impl_in.calls _ low high true _ (by unfold impl_in.f; rw [if_pos HN.out.1, decide_eq_true HN.out.2])).mono ?_; rintro e w5 ⟨rfl, nd, rfl⟩; refine ⟨_, rfl, ?_⟩))
 all_goals go_ret
 · exact ⟨_, at1, bad1, 0, rfl, HI.out.drewN nd, .inl ⟨rfl, rfl, hr⟩, pw_below_drewN HB.out nd, keep_drewN HK.out nd⟩
 · exact ⟨0, at1, bad1, 4, rfl, HI.out, .inr ⟨rfl, rfl, hq⟩, HB.out, HK.out⟩
end
/-- The numbers of a program's file. -/
def inums (c : List S38) : List Int := (c.map (fun i => [i.f0, i.f1])).flatten
def fnums (x : S35) : List Int := x.f0 :: x.f1 :: (x.f2.length : Int) :: inums x.f2
def pnums (P : List S35) : List Int := (P.map fnums).flatten
theorem pnums_drop {P : List S35} {i : Nat} (h : i < P.length) : pnums (P.drop i) = P[i].f0 :: P[i].f1 :: (P[i].f2.length : Int) :: (inums P[i].f2 ++ pnums (P.drop (i + 1))) := by
 unfold pnums; rw [List.drop_eq_getElem_cons h, List.map_cons, List.flatten_cons]; rfl
theorem inums_drop {c : List S38} {j : Nat} (h : j < c.length) : inums (c.drop j) = c[j].f0 :: c[j].f1 :: inums (c.drop (j + 1)) := by
 unfold inums; rw [List.drop_eq_getElem_cons h, List.map_cons, List.flatten_cons]; rfl
theorem pnums_end {P : List S35} {i : Nat} (h : P.length ≤ i) : pnums (P.drop i) = [] := by rw [List.drop_of_length_le h]; rfl
theorem inums_end {c : List S38} {j : Nat} (h : c.length ≤ j) : inums (c.drop j) = [] := by rw [List.drop_of_length_le h]; rfl
section
variable {u : ByteArray} {Rest : List Int → Int → Prop}
/-- The state of the reading: the reader at block gr, the program's variable behind it. -/
def FRd (w W : World) (u : ByteArray) (Rest : List Int → Int → Prop) (gr : Nat) (ok : Nat → Prop) (l : List Int) (at_ bad code : Int) (pv : Value) (xs : List S35) : Prop :=
 IsS79 w W gr u at_ bad code ∧ StR u Rest l at_ bad code ∧ Below w.heap.size w W ∧ W.heap[w.heap.size]? = some (.cells #[.slice none 0 0, .int .i64 0, .int .i64 0] 45 (0, 0)) ∧ W.heap[gr + 1]? = some (.cells #[pv] 25 (0, 0)) ∧ Kd.R k35 35 W w.heap.size ok pv xs ∧ (∀ k, ok k → gr + 2 ≤ k) ∧ w.heap.size < gr
theorem FRd.step {w W W1 : World} {gr : Nat} {ok : Nat → Prop} {l l1 : List Int} {at_ bad code at1 bad1 code1 : Int} {pv : Value} {xs : List S35} (h : FRd w W u Rest gr ok l at_ bad code pv xs) (hI : IsS79 w W1 gr u at1 bad1 code1) (hs : StR u Rest l1 at1 bad1 code1) (hb : Below w.heap.size w W1) (hk : KeepBut W W1 gr none) : FRd w W1 u Rest gr ok l1 at1 bad1 code1 pv xs := by
 obtain ⟨h1, h2, h3, h4, h5, h6, h7, h8⟩ := h
 exact ⟨hI, hs, hb, hk.blk h4 (by omega) (by simp), hk.blk h5 (by omega) (by simp), Kd.R_keep h6 hk (fun k hk' => by have := h7 k hk'; omega), h7, h8⟩
theorem FRd.list {w W : World} {gr : Nat} {ok : Nat → Prop} {l l1 : List Int} {at_ bad code : Int} {pv : Value} {xs : List S35} (h : FRd w W u Rest gr ok l at_ bad code pv xs) (hs : StR u Rest l1 at_ bad code) : FRd w W u Rest gr ok l1 at_ bad code pv xs := ⟨h.1, hs, h.2.2⟩
theorem FRd.drew {w W : World} {gr : Nat} {ok : Nat → Prop} {l : List Int} {at_ bad code : Int} {pv : Value} {xs : List S35} (h : FRd w W u Rest gr ok l at_ bad code pv xs) : FRd w W.drew u Rest gr ok l at_ bad code pv xs := ⟨h.1.drew, h.2.1, below_drew1 h.2.2.1, h.2.2.2.1, h.2.2.2.2.1, Kd.R_drew h.2.2.2.2.2.1, h.2.2.2.2.2.2⟩
theorem FRd.mono {w W : World} {gr : Nat} {ok ok1 : Nat → Prop} {l : List Int} {at_ bad code : Int} {pv : Value} {xs : List S35} (h : FRd w W u Rest gr ok l at_ bad code pv xs) (hR : Kd.R k35 35 W w.heap.size ok1 pv xs) (hk : ∀ k, ok1 k → gr + 2 ≤ k) : FRd w W u Rest gr ok1 l at_ bad code pv xs := ⟨h.1, h.2.1, h.2.2.1, h.2.2.2.1, h.2.2.2.2.1, hR, hk, h.2.2.2.2.2.2.2⟩
theorem FRd.bound {w W : World} {gr : Nat} {l : List Int} {at_ bad code : Int} {pv : Value} {xs : List S35} (h : FRd w W u Rest gr (fun k => gr + 2 ≤ k) l at_ bad code pv xs) : FRd w W u Rest gr (fun k => gr + 2 ≤ k ∧ k < W.heap.size) l at_ bad code pv xs := h.mono (Kd.R_mono (Kd.R_bound h.2.2.2.2.2.1) (fun k a => ⟨a.1, a.2.2.1⟩)) (fun k a => a.1)
theorem FRd.wide {w W : World} {gr g : Nat} {l : List Int} {at_ bad code : Int} {pv : Value} {xs : List S35} (h : FRd w W u Rest gr (fun k => gr + 2 ≤ k ∧ k < g) l at_ bad code pv xs) : FRd w W u Rest gr (fun k => gr + 2 ≤ k) l at_ bad code pv xs := h.mono (Kd.R_mono h.2.2.2.2.2.1 (fun k a => a.1)) (fun k a => a)
theorem FRd.grown {w W W1 : World} {gr : Nat} {ok : Nat → Prop} {l : List Int} {at_ bad code : Int} {pv : Value} {xs : List S35} (h : FRd w W u Rest gr ok l at_ bad code pv xs) {row : Option Nat} (hg : W.grownBy W1 row) (hb : Below w.heap.size w W1) (hr : ∀ k, row = some k → gr + 2 ≤ k) (hok : ∀ k, ok k → some k ≠ row) : FRd w W1 u Rest gr ok l at_ bad code pv xs := by
 obtain ⟨h1, h2, h3, h4, h5, h6, h7, h8⟩ := h
 have ne : ∀ i, i < gr + 2 → some i ≠ row := fun i hi e => by have := hr i e.symm; omega
 exact ⟨h1.grown hg (ne _ (by omega)), h2, hb, blk_grown h4 hg (ne _ (by omega)), blk_grown h5 hg (ne _ (by omega)), Kd.R_grown h6 hg hok, h7, h8⟩
theorem FRd.alloc {w W : World} {gr : Nat} {ok : Nat → Prop} {l : List Int} {at_ bad code : Int} {pv : Value} {xs : List S35} (h : FRd w W u Rest gr ok l at_ bad code pv xs) (o : Obj) : FRd w (W.alloc o) u Rest gr ok l at_ bad code pv xs := h.grown (World.grownBy_alloc W o none) (below_alloc h.2.2.1 o) (fun _ e => by cases e) (fun _ _ => by simp)
theorem FRd.far {w W : World} {gr : Nat} {ok : Nat → Prop} {l : List Int} {at_ bad code : Int} {pv : Value} {xs : List S35} (h : FRd w W u Rest gr ok l at_ bad code pv xs) {q : Nat} (hq : gr + 2 ≤ q) (hok : ∀ k, ok k → k ≠ q) (j : Nat) (v : Value) : FRd w (W.setCell ⟨q, j, none⟩ v) u Rest gr ok l at_ bad code pv xs := by
 obtain ⟨h1, h2, h3, h4, h5, h6, h7, h8⟩ := h
 have e : ∀ i, i ≠ q → (W.setCell ⟨q, j, none⟩ v).heap[i]? = W.heap[i]? := fun i hi => Below.heap_setCell W _ _ i hi
 exact ⟨h1.far (show gr ≠ q by omega) v, h2, below_set h3 (by show w.heap.size ≤ q; omega), (e _ (by omega)).trans h4, (e _ (by omega)).trans h5, Kd.R_far h6 (p := ⟨q, j, none⟩) hok v, h7, h8⟩
theorem FRd.push {w W W1 : World} {gr : Nat} {ok : Nat → Prop} {l : List Int} {at_ bad code : Int} {pv v1 : Value} {xs xs1 : List S35} (h : FRd w W u Rest gr ok l at_ bad code pv xs) (hg : W.grownBy W1 pv.ownBlock) (hb : Below w.heap.size w W1) (ho : Kd.R k35 35 W1 w.heap.size (fun k => gr + 2 ≤ k) v1 xs1) : W1.heap[gr + 1]? = some (.cells #[pv] 25 (0, 0)) ∧ FRd w (W1.setCell ⟨gr + 1, 0, none⟩ v1) u Rest gr (fun k => gr + 2 ≤ k) l at_ bad code v1 xs1 := by
 obtain ⟨h1, h2, h3, h4, h5, h6, h7, h8⟩ := h
 have ne : ∀ i, i < gr + 2 → some i ≠ pv.ownBlock := fun i hi e => by have := h7 i (h6.1 i e.symm); omega
 have e : ∀ i, i ≠ gr + 1 → (W1.setCell ⟨gr + 1, 0, none⟩ v1).heap[i]? = W1.heap[i]? := fun i hi => Below.heap_setCell W1 _ _ i hi
 have h5_ := blk_grown h5 hg (ne _ (by omega))
 exact ⟨h5_, (h1.grown hg (ne _ (by omega))).far (show gr ≠ gr + 1 by omega) v1, h2, below_set hb (by show w.heap.size ≤ gr + 1; omega), (e _ (by omega)).trans (blk_grown h4 hg (ne _ (by omega))), blk_put h5_ 0 _ rfl, Kd.R_far ho (p := ⟨gr + 1, 0, none⟩) (fun k hk => by show k ≠ gr + 1; omega) v1, fun k hk => hk, h8⟩
theorem FRd.start {w wr : World} (hB : Below w.heap.size w wr) (hz : wr.heap[w.heap.size]? = some (.cells #[.slice none 0 0, .int .i64 0, .int .i64 0] 45 (0, 0))) (hs : w.heap.size < wr.heap.size) {l : List Int} (hr : Rest l 2) : FRd w ((wr.alloc (.cells #[.string u, .int .i64 2, .int .i64 0, .int .i64 0] 79)).alloc (.cells #[.slice none 0 0] 25)) u Rest wr.heap.size (fun k => wr.heap.size + 2 ≤ k) l 2 0 0 (.slice none 0 0) [] := by
 refine ⟨(IsS79.new w wr u 2 0 0 hB).alloc _, .inl ⟨rfl, hr⟩, below_alloc (below_alloc hB _) _, blk_below hz (below_alloc (below_alloc (Below.refl _ _) _) _), ?_, Kd.R_nil _ _ _ _ _, fun k h => h, hs⟩
 have := heap_alloc_new (wr.alloc (.cells #[.string u, .int .i64 2, .int .i64 0, .int .i64 0] 79)) (.cells #[.slice none 0 0] 25)
 simpa using this
/-- A function's variable at block gf with its code's row. -/
def FCd (w W : World) (gf : Nat) (a b : Int) (cv : Value) (ys : List S38) : Prop := W.heap[gf]? = some (.cells #[.int .i64 a, .int .i64 b, cv] 35 (0, 0)) ∧ Kd.R k38 38 W w.heap.size (fun k => gf < k) cv ys ∧ w.heap.size ≤ gf
theorem FCd.drew {w W : World} {gf : Nat} {a b : Int} {cv : Value} {ys : List S38} (h : FCd w W gf a b cv ys) : FCd w W.drew gf a b cv ys := ⟨h.1, Kd.R_drew h.2.1, h.2.2⟩
theorem FCd.step {w W W1 : World} {gf gr : Nat} {a b : Int} {cv : Value} {ys : List S38} (h : FCd w W gf a b cv ys) (hk : KeepBut W W1 gr none) (hg : gr < gf) : FCd w W1 gf a b cv ys := ⟨hk.blk h.1 (by omega) (by simp), Kd.R_keep h.2.1 hk (fun k hk' => by omega), h.2.2⟩
theorem FCd.alloc {w W : World} {gf : Nat} {a b : Int} {cv : Value} {ys : List S38} (h : FCd w W gf a b cv ys) (o : Obj) : FCd w (W.alloc o) gf a b cv ys := ⟨blk_below h.1 (below_alloc (Below.refl _ _) o), Kd.R_below h.2.1 (below_alloc (Below.refl _ _) o), h.2.2⟩
set_option maxHeartbeats 8000000 in
set_option maxRecDepth 100000 in
theorem fread_rel (hp : PlanR u Rest) {P : List S35} {sm : Int} (w : World) (hsz : u.size ≤ 20000) (hP : 1 ≤ P.length ∧ P.length ≤ 6 ∧ ∀ x ∈ P, 1 ≤ x.f2.length ∧ x.f2.length ≤ 60) (h0 : 0 < u.size → bt u 0 = 74) (h1 : 1 < u.size → bt u 1 = 49) (hR : 2 ≤ u.size → Rest ((P.length : Int) :: (pnums P ++ [sm])) 2) (hend : ∀ a, ¬ Rest [] a) :
  Calls Try.prog 18 #[.string u] w fun e w' => ∃ bad : Int, e = .returned (.agg #[.slice none 0 0, .int .i64 bad, .int .i64 4]) ∧ CutB u bad ∧ Below w.heap.size w w' := by
 have HS := Aside0.mk hsz
 have HP := Aside0.mk hP
 have HR := Aside0.mk hR
 have H0 := Aside0.mk h0
 have H1 := Aside0.mk h1
 have hgt : decide ((20000 : Int) < (u.size : Int)) = false := decide_eq_false (by omega)
 clear hP hR h0 h1 hsz
 go_enter Try.func18, Try.ntmps18
 go_wp2
 obtain ⟨W0, hW0⟩ : ∃ W0, W0 = ((w.alloc (.cells #[.slice none 0 0, .int .i64 0, .int .i64 0] 45)).alloc (.cells #[.int .u8 74, .int .u8 49] 5)) := ⟨_, rfl⟩
 have HB := Aside0.mk (show Below w.heap.size w W0 from by rw [hW0]; exact below_alloc (below_alloc (Below.refl _ _) _) _)
 have HZ := Aside0.mk (show W0.heap[w.heap.size]? = some (.cells #[.slice none 0 0, .int .i64 0, .int .i64 0] 45 (0, 0)) from by rw [hW0]; exact blk_below (heap_alloc_new w _) (below_alloc (Below.refl _ _) _))
 have HL := Aside0.mk (show W0.heap[w.heap.size + 1]? = some (.cells #[.int .u8 74, .int .u8 49] 5 (0, 0)) from by rw [hW0]; have := heap_alloc_new (w.alloc (.cells #[.slice none 0 0, .int .i64 0, .int .i64 0] 45)) (.cells #[.int .u8 74, .int .u8 49] 5); simpa using this)
 have HSZ := Aside0.mk (show w.heap.size < W0.heap.size from by rw [hW0]; simp; omega)
 rw [← hW0]
 clear hW0
 go_loopg [19] 2 (fun kq v19 w' => ∃ i : Nat, v19 = .int .i64 i ∧ Aside0 (i ≤ 2 ∧ 2 ≤ i + kq ∧ i ≤ u.size) ∧ w' = W0)
 case atStart => exact ⟨0, rfl, ⟨by omega⟩, rfl⟩
 case round =>
  obtain ⟨i, rfl, HI, rfl⟩ := hrel
  by_cases hi : i < 2
  · obtain ⟨ki, hki⟩ : ∃ ki, gk = ki + 1 := ⟨gk - 1, by have := HI.out; omega⟩
    subst hki
    have hi2 : decide ((i : Int) < 2) = true := decide_eq_true (by omega)
    have hj0 := eq_true (show (0 : Int) ≤ (i : Int) by omega)
    have hj1 := eq_true (show (i : Int) < 2 by omega)
    obtain ⟨ci, hci, hb⟩ : ∃ ci : Int, wr.cell? ⟨w.heap.size + 1, i, none⟩ = some (.int .u8 ci) ∧ (i < u.size → bt u (i : Int) = ci) := by
      rcases (show i = 0 ∨ i = 1 by omega) with rfl | rfl
      · exact ⟨74, (blk_cell HL.out 0).trans rfl, H0.out⟩
      · exact ⟨49, (blk_cell HL.out 1).trans rfl, H1.out⟩
    have hiw : wrap64 ((i : Int) + 1) = ((i + 1 : Nat) : Int) := by rw [wrap_in (by omega) (by omega)]; omega
    by_cases hu : i < u.size
    · have hub : decide ((u.size : Int) ≤ (i : Int)) = false := decide_eq_false (by omega)
      have hu1 := eq_true (show (i : Int) < (u.size : Int) by omega)
      have hbt : ((u[i]'hu).toNat : Int) = ci := by rw [← hb hu]; exact bt_at u (i : Int) hu
      have hbn : (((u[i]'hu).toNat : Int) != ci) = false := bne_eq_false_iff_eq.mpr hbt
      go_wp2
      go_roundg ki
      case measure => omega
      case rel => exact ⟨i + 1, by first | rfl | (push_cast; rfl) | rw [hiw], ⟨by have := HI.out; omega⟩, rfl⟩
    · have hub : decide ((u.size : Int) ≤ (i : Int)) = true := decide_eq_true (by omega)
      have hz0 := (blk_cell HZ.out 0).trans rfl
      have hz1 := (blk_cell HZ.out 1).trans rfl
      have hz2 := (blk_cell HZ.out 2).trans rfl
      have hf0 := blk_frozen HZ.out 0
      have hf1 := blk_frozen HZ.out 1
      have hf2 := blk_frozen HZ.out 2
      go_wp2
      refine bodyPost_ret (results_cell_row rfl _ _ w.heap.size 45 #[.slice none 0 0, .int .i64 i, .int .i64 4] (0, 0) _ rfl (blk_put (blk_put (blk_put HZ.out 0 _ rfl) 1 _ rfl) 2 _ rfl) Try.underlying45 rfl (by kernel_rfl)) rfl ?_
      have hie : i = u.size := by have := HI.out; omega
      exact ⟨(i : Int), rfl, ⟨by omega, by omega, by omega⟩, below_set (below_set (below_set HB.out (Nat.le_refl _)) (Nat.le_refl _)) (Nat.le_refl _)⟩
  · have hi2 : i = 2 := by have := HI.out; omega
    subst hi2
    have HF := Aside0.mk (FRd.start (u := u) HB.out HZ.out HSZ.out (HR.out HI.out.2.2))
    have HPL := Aside0.mk (show (1 : Int) ≤ (P.length : Int) ∧ (P.length : Int) ≤ 6 by have := HP.out; omega)
    clear HI H0 H1 HR HB HZ HSZ HL
    go_wp2_with (first | ((with_reducible refine gate_dst (N := 42) rfl ?_); refine goesL_ _ rfl rfl Try.func46 (by kernel_rfl) rfl #[.pointer (some ⟨wr.heap.size, 0, none⟩), .int .i64 1, .int .i64 6] rfl gl ?_; refine (rcount_rel hp 1 6 HPL.out HF.out.1 HF.out.2.2.1 HF.out.2.1).mono ?_; rintro e w4 ⟨v1, at1, bad1, code1, rfl, hI, hc, hb, hk⟩; refine ⟨_, rfl, ?_⟩; have n0_ := Aside0.mk (HF.out.step hI (show StR u Rest _ at1 bad1 code1 from hc.imp (fun h => ⟨h.1, h.2.2⟩) (fun h => ⟨h.1, h.2.2⟩)) hb hk); have HC1 := Aside0.mk hc; clear HF hI hb hk hc; have HF := n0_; clear n0_))
    generalize wr.heap.size = gr at HF ⊢
    clear HPL
    go_loopg [7] 6 (fun kq v7 w' => ∃ (i : Nat) (m at_ bad code : Int) (pv : Value) (xs : List S35), v7 = .int .i64 m ∧ Aside0 (FRd w w' u Rest gr (fun k => gr + 2 ≤ k) (pnums (P.drop i) ++ [sm]) at_ bad code pv xs) ∧ Aside0 (i ≤ P.length ∧ xs.length ≤ i ∧ (code = 0 → m = (P.length : Int) - i ∧ P.length ≤ i + kq)))
    case atStart => exact ⟨0, v1, at1, bad1, code1, _, [], rfl, HF, ⟨Nat.zero_le _, Nat.le_refl _, fun hz => by have := HP.out; rcases HC1.out with h | h <;> omega⟩⟩
    case round =>
     clear HF HC1
     obtain ⟨i, m, at_, bad, code, pv, xs, rfl, HF, HX⟩ := hrel
     have hc3 := cellS79_3 HF.out.1.1
     by_cases hm : 0 < m
     · have hmd : decide (0 < m) = true := decide_eq_true hm
       rcases HF.out.2.1 with ⟨rfl, hr⟩ | ⟨rfl, hr⟩
       · have hx := HX.out.2.2 rfl
         have hi : i < P.length := by omega
         obtain ⟨km, hkm⟩ : ∃ km, gk = km + 1 := ⟨gk - 1, by omega⟩
         subst hkm
         have hlx := (HP.out.2.2 P[i] (List.getElem_mem hi))
         rw [pnums_drop hi] at hr HF
         generalize P[i] = x at hr hlx HF
         have hlx : (1 : Int) ≤ (x.f2.length : Int) ∧ (x.f2.length : Int) ≤ 60 := by omega
         have HLX := Aside0.mk hlx
         have hmw : wrap64 (m - 1) = m - 1 := wrap_in (by have h6 := HP.out.2.1; omega) (by have h6 := HP.out.2.1; omega)
         simp only [List.cons_append, List.append_assoc] at HF
         have HXX := Aside0.mk (And.intro hx hi)
         clear hr hx
         go_wp2_with (first | ((with_reducible refine gate_dst (N := 55) rfl ?_); refine goesL_ _ rfl rfl Try.func47 (by kernel_rfl) rfl #[.pointer (some ⟨gr, 0, none⟩)] rfl gl ?_; refine (rnum_rel hp HF.out.1 HF.out.2.2.1 HF.out.2.1).mono ?_; rintro e w5 ⟨v2, at2, bad2, code2, rfl, hI, hc, hb, hk⟩; refine ⟨_, rfl, ?_⟩; have n0_ := Aside0.mk (HF.out.step hI (show StR u Rest _ at2 bad2 code2 from hc.imp (fun h => ⟨h.1, h.2.2⟩) (fun h => ⟨h.1, h.2.2⟩)) hb hk); have HC2 := Aside0.mk hc; clear HF hI hb hk hc; have HF := n0_; clear n0_; clear HC2 hc3) | ((with_reducible refine gate_dst (N := 57) rfl ?_); refine goesL_ _ rfl rfl Try.func47 (by kernel_rfl) rfl #[.pointer (some ⟨gr, 0, none⟩)] rfl gl ?_; refine (rnum_rel hp HF.out.1 HF.out.2.2.1 HF.out.2.1).mono ?_; rintro e w6 ⟨v3, at3, bad3, code3, rfl, hI, hc, hb, hk⟩; refine ⟨_, rfl, ?_⟩; have n0_ := Aside0.mk (HF.out.step hI (show StR u Rest _ at3 bad3 code3 from hc.imp (fun h => ⟨h.1, h.2.2⟩) (fun h => ⟨h.1, h.2.2⟩)) hb hk); have HC3 := Aside0.mk hc; clear HF hI hb hk hc; have HF := n0_; clear n0_; clear HC3) | ((with_reducible refine gate_dst (N := 60) rfl ?_); refine goesL_ _ rfl rfl Try.func46 (by kernel_rfl) rfl #[.pointer (some ⟨gr, 0, none⟩), .int .i64 1, .int .i64 60] rfl gl ?_; refine (rcount_rel hp 1 60 HLX.out (HF.out.bound.alloc (.cells #[.int .i64 v2, .int .i64 v3, .slice none 0 0] 35)).1 (HF.out.bound.alloc (.cells #[.int .i64 v2, .int .i64 v3, .slice none 0 0] 35)).2.2.1 (HF.out.bound.alloc (.cells #[.int .i64 v2, .int .i64 v3, .slice none 0 0] 35)).2.1).mono ?_; rintro e w7 ⟨v4, at4, bad4, code4, rfl, hI, hc, hb, hk⟩; refine ⟨_, rfl, ?_⟩; have n0_ := Aside0.mk ((HF.out.bound.alloc (.cells #[.int .i64 v2, .int .i64 v3, .slice none 0 0] 35)).step hI (show StR u Rest _ at4 bad4 code4 from hc.imp (fun h => ⟨h.1, h.2.2⟩) (fun h => ⟨h.1, h.2.2⟩)) hb hk); have HC4 := Aside0.mk hc; have HG := Aside0.mk (show FCd w w7 w6.heap.size v2 v3 (.slice none 0 0) [] from ⟨hk.blk (heap_alloc_new w6 _) (Nat.ne_of_gt HF.out.1.lt) (by simp), Kd.R_nil _ _ _ _ _, Nat.le_trans HF.out.2.2.1.size (Nat.le_refl _)⟩); have HL := Aside0.mk (show gr + 2 ≤ w6.heap.size from by have := blk_lt HF.out.2.2.2.2.1; omega); clear HF hI hb hk hc; have HF := n0_; clear n0_))
         have hpu := HL.out
         generalize w6.heap.size = gf at HF HG HL hpu ⊢
         generalize v2 = a0 at HG ⊢
         generalize v3 = a1 at HG ⊢
         go_loopg [9] 60 (fun kq v9 w' => ∃ (j : Nat) (n at7 bad7 code7 : Int) (cv : Value) (ys : List S38), v9 = .int .i64 n ∧ Aside0 (FRd w w' u Rest gr (fun k => gr + 2 ≤ k ∧ k < gf) (inums (x.f2.drop j) ++ (pnums (P.drop (i + 1)) ++ [sm])) at7 bad7 code7 pv xs) ∧ Aside0 (FCd w w' gf a0 a1 cv ys) ∧ Aside0 (j ≤ x.f2.length ∧ ys.length ≤ j ∧ (code7 = 0 → n = (x.f2.length : Int) - j ∧ x.f2.length ≤ j + kq)))
         case atStart => exact ⟨0, v4, at4, bad4, code4, _, [], rfl, HF, HG, ⟨Nat.zero_le _, Nat.le_refl _, fun hz => by have := HLX.out; rcases HC4.out with h | h <;> omega⟩⟩
         case round =>
          clear HF HG
          obtain ⟨j, n, at7, bad7, code7, cv, ys, rfl, HF, HG, HX2⟩ := hrel
          have hc3 := cellS79_3 HF.out.1.1
          by_cases hn : 0 < n
          · have hnd : decide (0 < n) = true := decide_eq_true hn
            rcases HF.out.2.1 with ⟨rfl, hr⟩ | ⟨rfl, hr⟩
            · have hx := HX2.out.2.2 rfl
              have hj : j < x.f2.length := by omega
              obtain ⟨kj, hkj⟩ : ∃ kj, gk = kj + 1 := ⟨gk - 1, by omega⟩
              subst hkj
              rw [inums_drop hj] at HF
              simp only [List.cons_append] at HF
              generalize x.f2[j] = y at HF
              have hnw : wrap64 (n - 1) = n - 1 := wrap_in (by have := HLX.out; omega) (by have := HLX.out; omega)
              have HXX2 := Aside0.mk (And.intro hx hj)
              clear hr hx HC4
              go_wp2
              obtain ⟨Ac, cc, ec⟩ := Kd.R_slice HG.out.2.1
              subst ec
              have n0_ := Aside0.mk HF.out.drew
              have n1_ := Aside0.mk HG.out.drew
              clear HF HG hc3
              have HF := n0_
              have HG := n1_
              clear n0_ n1_
              refine start_ (n := 11) (S := fun w' => w'.cell? ⟨gf, 2, none⟩ = some (.slice Ac ys.length cc)) (ds := [10]) #[false, false, false, false, false, false, false, false, false, false, false] (by kernel_rfl) rfl rfl ((blk_cell HG.out.1 2).trans rfl) (fun hHeld => ?_)
              generalize wr.drew = w10 at HF HG hHeld ⊢
              refine pure_ (i := 0) (N := some 72) (v := ?_) (a' := ?_) #[true, false, false, false, false, false, false, false, false, false, false] rfl rfl (by kernel_rfl) (fun _ _ _ h => h) (Or.inl ⟨by rfl, ?_⟩) ?_ ?_
              rotate_left
              · intro w'
                go_simp
                with_reducible rfl
              rotate_left
              · simp only [Act.put, List.setIfInBounds_toArray, List.set_cons_zero, List.set_cons_succ, i64_w, i32_w]
                rfl
              refine take_ (i := 1) (N := some 73) (v := ?_) (a' := ?_) #[true, true, false, false, false, false, false, false, false, false, false] rfl rfl (by kernel_rfl) (fun _ _ _ h => h) (Or.inl ⟨by rfl, ?_⟩) hHeld ?_ ?_
              rotate_left
              · rintro w' s0
                go_simp
                with_reducible rfl
              rotate_left
              · simp only [Act.put, List.setIfInBounds_toArray, List.set_cons_zero, List.set_cons_succ, i64_w, i32_w]
                rfl
              refine pure_ (i := 2) (N := some 74) (v := ?_) (a' := ?_) #[true, true, true, false, false, false, false, false, false, false, false] rfl rfl (by kernel_rfl) (fun _ _ _ h => h) (Or.inl ⟨by rfl, ?_⟩) ?_ ?_
              rotate_left
              · intro w'
                go_simp
                with_reducible rfl
              rotate_left
              · simp only [Act.put, List.setIfInBounds_toArray, List.set_cons_zero, List.set_cons_succ, i64_w, i32_w]
                rfl
              refine pure_ (i := 4) (N := some 76) (v := ?_) (a' := ?_) #[true, true, true, false, true, false, false, false, false, false, false] rfl rfl (by kernel_rfl) (fun _ _ _ h => h) (Or.inl ⟨by rfl, ?_⟩) ?_ ?_
              rotate_left
              · intro w'
                go_simp
                with_reducible rfl
              rotate_left
              · simp only [Act.put, List.setIfInBounds_toArray, List.set_cons_zero, List.set_cons_succ, i64_w, i32_w]
                rfl
              refine one_ (i := 3) (N := some 75) #[true, true, true, true, true, false, false, false, false, false, false] rfl rfl (by kernel_rfl) (by decide) (fun K hK => ?_)
              refine goes_ Try.func47 (by kernel_rfl) rfl #[.pointer (some ⟨gr, 0, none⟩)] (by rfl) rfl rfl (by (try simp only [List.map_toArray, List.map_cons, List.map_nil]); first | done | rfl) ?_
              refine (rnum_rel hp HF.out.1 HF.out.2.2.1 HF.out.2.1).mono ?_
              rintro e w11 ⟨v5, at5, bad5, code5, rfl, hI, hc, hb, hk⟩
              refine ⟨_, rfl, ?_⟩
              have n0_ := Aside0.mk (HF.out.step hI (show StR u Rest _ at5 bad5 code5 from hc.imp (fun h => ⟨h.1, h.2.2⟩) (fun h => ⟨h.1, h.2.2⟩)) hb hk)
              have n1_ := Aside0.mk (HG.out.step hk (by have := HL.out; omega))
              clear HF HG hI hc hb hk
              have HF := n0_
              have HG := n1_
              clear n0_ n1_
              refine hK.out _ _ ((blk_cell HG.out.1 2).trans rfl) (fun hHeld => ?_)
              clear hK K
              refine norm_ (a' := ?_) ?_ ?_
              rotate_left
              · simp only [Act.put, List.setIfInBounds_toArray, List.set_cons_zero, List.set_cons_succ, i64_w, i32_w]
                rfl
              refine one_ (i := 5) (N := some 77) #[true, true, true, true, true, true, false, false, false, false, false] rfl rfl (by kernel_rfl) (by decide) (fun K hK => ?_)
              refine goes_ Try.func47 (by kernel_rfl) rfl #[.pointer (some ⟨gr, 0, none⟩)] (by rfl) rfl rfl (by (try simp only [List.map_toArray, List.map_cons, List.map_nil]); first | done | rfl) ?_
              refine (rnum_rel hp HF.out.1 HF.out.2.2.1 HF.out.2.1).mono ?_
              rintro e w12 ⟨v6, at6, bad6, code6, rfl, hI, hc, hb, hk⟩
              refine ⟨_, rfl, ?_⟩
              have n0_ := Aside0.mk (HF.out.step hI (show StR u Rest _ at6 bad6 code6 from hc.imp (fun h => ⟨h.1, h.2.2⟩) (fun h => ⟨h.1, h.2.2⟩)) hb hk)
              have n1_ := Aside0.mk (HG.out.step hk (by have := HL.out; omega))
              clear HF HG hI hc hb hk
              have HF := n0_
              have HG := n1_
              clear n0_ n1_
              refine hK.out _ _ ((blk_cell HG.out.1 2).trans rfl) (fun hHeld => ?_)
              clear hK K
              refine norm_ (a' := ?_) ?_ ?_
              rotate_left
              · simp only [Act.put, List.setIfInBounds_toArray, List.set_cons_zero, List.set_cons_succ, i64_w, i32_w]
                rfl
              refine pure_ (i := 6) (N := some 78) (v := ?_) (a' := ?_) #[true, true, true, true, true, true, true, false, false, false, false] rfl rfl (by kernel_rfl) (fun _ _ _ h => h) (Or.inl ⟨by rfl, ?_⟩) ?_ ?_
              rotate_left
              · intro w'
                go_simp
                with_reducible rfl
              rotate_left
              · simp only [Act.put, List.setIfInBounds_toArray, List.set_cons_zero, List.set_cons_succ, i64_w, i32_w]
                rfl
              refine one_ (i := 7) (N := some 79) #[true, true, true, true, true, true, true, true, false, false, false] rfl rfl (by kernel_rfl) (by decide) (fun K hK => ?_)
              refine event_step (w1 := (w12.alloc (.cells #[.int .i64 v5, .int .i64 v6] 38))) (v := .slice (some ⟨w12.heap.size, 0, none⟩) 1 1) (by rfl) (by first | (go_simp; done) | (go_simp; rfl)) ?_
              refine hK.out _ _ ((blk_cell (HG.out.alloc _).1 2).trans rfl) (fun hHeld => ?_)
              clear hK K
              refine norm_ (a' := ?_) ?_ ?_
              rotate_left
              · simp only [Act.put, List.setIfInBounds_toArray, List.set_cons_zero, List.set_cons_succ, i64_w, i32_w]
                rfl
              refine one_ (i := 8) (N := some 80) #[true, true, true, true, true, true, true, true, true, false, false] rfl rfl (by kernel_rfl) (by decide) (fun K hK => ?_)
              refine Kd.R_append_step k38 (w0 := w12) w.heap.size (by rfl) (.tmp 73) (.tmp 79) 33 38 (.agg #[.int .i64 0, .int .i64 0]) 16 rfl Try.underlying33 info38_ rfl (by decide) (by omega) (.slice Ac ys.length cc) ys ⟨v5, v6⟩ [.int .i64 v5, .int .i64 v6] (fun k => gf < k) (fun _ => False) rfl rfl (k38_mkM _ _ _ _) (fun _ hk => hk.elim) (fun k hk => Nat.lt_of_lt_of_le (blk_lt HG.out.1) hk) HG.out.2.1 (Below.refl _ _) HF.out.2.2.1.size (by have := HX2.out; omega) ?_
              intro v9 w9 ho hb hg hat
              have hne : ∀ k, (Value.slice Ac ys.length cc).ownBlock = some k → gf < k := fun k e => HG.out.2.1.1 k e
              have n0_ := Aside0.mk (HF.out.grown hg (below_weaken HF.out.2.2.1 (Nat.le_refl _) hb) (fun k e => by have := hne k e; have := HL.out; omega) (fun k hk e => by have := hne k e.symm; omega))
              have n1_ : Aside0 (w9.heap[gf]? = some (.cells #[.int .i64 a0, .int .i64 a1, .slice Ac ys.length cc] 35 (0, 0))) := ⟨blk_grown HG.out.1 hg (fun e => by have := hne gf e.symm; omega)⟩
              obtain ⟨A9, c9, e9⟩ := Kd.R_slice ho
              subst e9
              have hl9 : (ys ++ [(⟨v5, v6⟩ : S38)]).length = ys.length + 1 := (by rw [List.length_append, List.length_singleton])
              rw [hl9] at ho ⊢
              have HO := Aside0.mk ho
              have hgf := HG.out.2.2
              clear HF HG hb hg hat ho hne hl9
              skip
              refine hK.out _ _ ((blk_cell n1_.out 2).trans rfl) (fun hHeld => ?_)
              clear hK K
              refine norm_ (a' := ?_) ?_ ?_
              rotate_left
              · simp only [Act.put, List.setIfInBounds_toArray, List.set_cons_zero, List.set_cons_succ, i64_w, i32_w]
                rfl
              refine pure_ (i := 9) (N := some 81) (v := ?_) (a' := ?_) #[true, true, true, true, true, true, true, true, true, true, false] rfl rfl (by kernel_rfl) (fun _ _ _ h => h) (Or.inl ⟨by rfl, ?_⟩) ?_ ?_
              rotate_left
              · intro w'
                go_simp
                with_reducible rfl
              rotate_left
              · simp only [Act.put, List.setIfInBounds_toArray, List.set_cons_zero, List.set_cons_succ, i64_w, i32_w]
                rfl
              refine last_ (i := 10) (N := none) #[true, true, true, true, true, true, true, true, true, true, true] rfl rfl (by kernel_rfl) (by decide) (fun K hK => ?_)
              have hs := (blk_cell n1_.out 2).trans rfl
              have hf := blk_frozen n1_.out 2
              refine skip_ (w1 := ?_) (by rfl) rfl ?_ ?_
              rotate_left
              · go_simp
                rfl
              refine hK.out _ _ ?_
              clear hK K
              refine done_ (by kernel_rfl) ?_
              have HF := Aside0.mk (n0_.out.far (q := gf) (by have := HL.out; omega) (fun k hk => by omega) 2 (.slice A9 (ys.length + 1) c9))
              have HG := Aside0.mk (show FCd w (w9.setCell ⟨gf, 2, none⟩ (.slice A9 (ys.length + 1) c9)) gf a0 a1 (.slice A9 (ys.length + 1) c9) (ys ++ [(⟨v5, v6⟩ : S38)]) from ⟨blk_put n1_.out 2 _ rfl, Kd.R_far HO.out (p := ⟨gf, 2, none⟩) (fun k hk => by show k ≠ gf; omega) _, hgf⟩)
              clear n0_ n1_ HO hs hf
              go_wp2
              go_roundg kj
              case measure => omega
              case rel => exact ⟨j + 1, n - 1, at6, bad6, code6, _, _, by first | rfl | rw [hnw], HF, HG, ⟨by have := HXX2.out.2; omega, by have := HX2.out.2.1; rw [List.length_append, List.length_singleton]; omega, fun _ => by have := HXX2.out; push_cast; omega⟩⟩
            · have n0_ := Aside0.mk (HF.out.list (l1 := pnums (P.drop (i + 1)) ++ [sm]) (.inr ⟨rfl, hr⟩))
              clear HF HC4
              have HF := n0_
              clear n0_
              obtain ⟨Ap, cp, ep⟩ := Kd.R_slice HF.out.2.2.2.2.2.1
              subst ep
              obtain ⟨Ac, cc, ec⟩ := Kd.R_slice HG.out.2.1
              subst ec
              have hcp := (blk_cell HF.out.2.2.2.2.1 0).trans rfl
              have hg0 := (blk_cell HG.out.1 0).trans rfl
              have hg1 := (blk_cell HG.out.1 1).trans rfl
              have hg2 := (blk_cell HG.out.1 2).trans rfl
              go_wp2_with (first | ((with_reducible refine gate_builtin (b := .append) (xs := #[.tmp 83, .tmp 85]) rfl ?_); at_builtin; refine Kd.R_append k35 (w0 := wr) w.heap.size rfl (.tmp 83) (.tmp 85) 23 35 _ 40 rfl Try.underlying23 info35_ rfl (by decide) (by omega) (.slice Ap xs.length cp) xs ⟨a0, a1, ys⟩ [.int .i64 a0, .int .i64 a1, .slice Ac ys.length cc] (fun k => gr + 2 ≤ k) (fun k => gf < k) rfl rfl (k35_mkM _ _ _ ⟨a0, a1, ys⟩ HG.out.2.1) (fun k hk => ⟨by have := HL.out; omega, fun e => by have := (HF.out.2.2.2.2.2.1.1 k e.symm).2; omega⟩) (fun k hk => Nat.le_trans (by have := blk_lt HF.out.2.2.2.2.1; omega) hk) (Kd.R_mono HF.out.2.2.2.2.2.1 (fun k a => a.1)) (Below.refl _ _) HF.out.2.2.1.size (by have h6 := HX.out; have h7 := HP.out.2.1; omega) ?_; intro v9 w9 ho hb hg hat; obtain ⟨A9, c9, e9⟩ := Kd.R_slice ho; subst e9; have hl9 : (xs ++ [(⟨a0, a1, ys⟩ : S35)]).length = xs.length + 1 := (by rw [List.length_append, List.length_singleton]); rw [hl9] at ho; have hpu := HF.out.push hg (below_weaken HF.out.2.2.1 (Nat.le_refl _) hb) ho; have n0_ := Aside0.mk hpu.2; have hcp := (blk_cell hpu.1 0).trans rfl; have hfp := blk_frozen hpu.1 0; clear HF HG hpu ho hb hg hat hg0 hg1 hg2; have HF := n0_; clear n0_))
              go_roundg km
              case measure => omega
              case rel => exact ⟨i + 1, m - 1, at7, bad7, 4, _, _, by first | rfl | rw [hmw], HF, ⟨by have := HXX.out.2; omega, by have := HX.out.2.1; rw [List.length_append, List.length_singleton]; omega, fun h => by cases h⟩⟩
          · have hnd : decide (0 < n) = false := decide_eq_false hn
            have n0_ := Aside0.mk (HF.out.list (l1 := pnums (P.drop (i + 1)) ++ [sm]) (HF.out.2.1.imp (fun q => ⟨q.1, by have h9 := q.2; have := HX2.out.2.2 q.1; rw [inums_end (show x.f2.length ≤ j by omega)] at h9; exact h9⟩) id))
            clear HF HC4
            have HF := n0_
            clear n0_
            obtain ⟨Ap, cp, ep⟩ := Kd.R_slice HF.out.2.2.2.2.2.1
            subst ep
            obtain ⟨Ac, cc, ec⟩ := Kd.R_slice HG.out.2.1
            subst ec
            have hcp := (blk_cell HF.out.2.2.2.2.1 0).trans rfl
            have hg0 := (blk_cell HG.out.1 0).trans rfl
            have hg1 := (blk_cell HG.out.1 1).trans rfl
            have hg2 := (blk_cell HG.out.1 2).trans rfl
            go_wp2_with (first | ((with_reducible refine gate_builtin (b := .append) (xs := #[.tmp 83, .tmp 85]) rfl ?_); at_builtin; refine Kd.R_append k35 (w0 := wr) w.heap.size rfl (.tmp 83) (.tmp 85) 23 35 _ 40 rfl Try.underlying23 info35_ rfl (by decide) (by omega) (.slice Ap xs.length cp) xs ⟨a0, a1, ys⟩ [.int .i64 a0, .int .i64 a1, .slice Ac ys.length cc] (fun k => gr + 2 ≤ k) (fun k => gf < k) rfl rfl (k35_mkM _ _ _ ⟨a0, a1, ys⟩ HG.out.2.1) (fun k hk => ⟨by have := HL.out; omega, fun e => by have := (HF.out.2.2.2.2.2.1.1 k e.symm).2; omega⟩) (fun k hk => Nat.le_trans (by have := blk_lt HF.out.2.2.2.2.1; omega) hk) (Kd.R_mono HF.out.2.2.2.2.2.1 (fun k a => a.1)) (Below.refl _ _) HF.out.2.2.1.size (by have h6 := HX.out; have h7 := HP.out.2.1; omega) ?_; intro v9 w9 ho hb hg hat; obtain ⟨A9, c9, e9⟩ := Kd.R_slice ho; subst e9; have hl9 : (xs ++ [(⟨a0, a1, ys⟩ : S35)]).length = xs.length + 1 := (by rw [List.length_append, List.length_singleton]); rw [hl9] at ho; have hpu := HF.out.push hg (below_weaken HF.out.2.2.1 (Nat.le_refl _) hb) ho; have n0_ := Aside0.mk hpu.2; have hcp := (blk_cell hpu.1 0).trans rfl; have hfp := blk_frozen hpu.1 0; clear HF HG hpu ho hb hg hat hg0 hg1 hg2; have HF := n0_; clear n0_))
            go_roundg km
            case measure => omega
            case rel => exact ⟨i + 1, m - 1, at7, bad7, code7, _, _, by first | rfl | rw [hmw], HF, ⟨by have := HXX.out.2; omega, by have := HX.out.2.1; rw [List.length_append, List.length_singleton]; omega, fun h => by have := HXX.out; push_cast; omega⟩⟩
       · have HT : Aside0 (StR u Rest [sm] at_ bad 4) := ⟨.inr ⟨rfl, hr⟩⟩
         have n0_ := Aside0.mk (HF.out.list HT.out)
         clear HF HX HT hc3
         have HF := n0_
         clear n0_
         have hc1 := cellS79_1 HF.out.1.1
         have hc3 := cellS79_3 HF.out.1.1
         go_wp2_with (first | ((with_reducible refine gate_callee (f := 47) rfl ?_); refine goesL_ _ rfl rfl Try.func47 (by kernel_rfl) rfl #[.pointer (some ⟨gr, 0, none⟩)] rfl gl ?_; refine (rnum_rel hp HF.out.1 HF.out.2.2.1 HF.out.2.1).mono ?_; rintro e w8 ⟨v8, at8, bad8, code8, rfl, hI, hc, hb, hk⟩; refine ⟨_, rfl, ?_⟩; have hq8 : code8 = 4 ∧ CutB u bad8 := (hc.elim (fun h => absurd h.2.2 (hend _)) (fun h => ⟨h.1, h.2.2⟩)); have HQ := Aside0.mk hq8.2; have hc8 := hq8.1; subst hc8; have n0_ := Aside0.mk (HF.out.step (l1 := [sm]) hI (.inr hq8) hb hk); clear HF hI hc hb hk hq8 hc1 hc3; have HF := n0_; clear n0_; have hc3 := cellS79_3 HF.out.1.1) | ((with_reducible refine gate_callee (f := 50) rfl ?_); refine goesL_ _ rfl rfl Try.func50 (by kernel_rfl) rfl #[.pointer (some ⟨gr, 0, none⟩)] rfl gl ?_; refine (impl_reader_end.calls gr u at8 bad8 4 u at8 bad8 4 w _ HF.out.1 HF.out.2.2.1 (by unfold impl_reader_end.f; rw [if_neg (by decide)])).mono ?_; rintro e w9 ⟨rfl, hI, hb, hk⟩; refine ⟨_, rfl, ?_⟩; have n0_ := Aside0.mk (HF.out.step (l1 := [sm]) hI (.inr ⟨rfl, HQ.out⟩) hb hk); clear HF hI hb hk hc3; have HF := n0_; clear n0_; have hc3 := cellS79_3 HF.out.1.1; have hc2 := cellS79_2 HF.out.1.1))
         have hz0 := (blk_cell HF.out.2.2.2.1 0).trans rfl
         have hz1 := (blk_cell HF.out.2.2.2.1 1).trans rfl
         have hz2 := (blk_cell HF.out.2.2.2.1 2).trans rfl
         have hf0 := blk_frozen HF.out.2.2.2.1 0
         have hf1 := blk_frozen HF.out.2.2.2.1 1
         have hf2 := blk_frozen HF.out.2.2.2.1 2
         go_still_tail 9, (by kernel_rfl)
         change wpList _ _ _ _ _ w9.drew
         go_wp2
         refine bodyPost_ret (results_cell_row rfl _ _ w.heap.size 45 #[.slice none 0 0, .int .i64 bad8, .int .i64 4] (0, 0) _ rfl (blk_put (blk_put (blk_put (show w9.drew.heap[w.heap.size]? = _ from HF.out.2.2.2.1) 0 _ rfl) 1 _ rfl) 2 _ rfl) Try.underlying45 rfl (by kernel_rfl)) rfl ?_
         exact ⟨bad8, rfl, HQ.out, below_set (below_set (below_set (below_drew1 HF.out.2.2.1) (Nat.le_refl _)) (Nat.le_refl _)) (Nat.le_refl _)⟩
     · have hmd : decide (0 < m) = false := decide_eq_false hm
       have HT : Aside0 (StR u Rest [sm] at_ bad code) := ⟨HF.out.2.1.imp (fun q => ⟨q.1, by have h9 := q.2; have := HX.out.2.2 q.1; rw [pnums_end (show P.length ≤ i by omega)] at h9; exact h9⟩) id⟩
       have n0_ := Aside0.mk (HF.out.list HT.out)
       clear HF HX HT hc3
       have HF := n0_
       clear n0_
       have hc1 := cellS79_1 HF.out.1.1
       have hc3 := cellS79_3 HF.out.1.1
       go_wp2_with (first | ((with_reducible refine gate_callee (f := 47) rfl ?_); refine goesL_ _ rfl rfl Try.func47 (by kernel_rfl) rfl #[.pointer (some ⟨gr, 0, none⟩)] rfl gl ?_; refine (rnum_rel hp HF.out.1 HF.out.2.2.1 HF.out.2.1).mono ?_; rintro e w8 ⟨v8, at8, bad8, code8, rfl, hI, hc, hb, hk⟩; refine ⟨_, rfl, ?_⟩; have hq8 : code8 = 4 ∧ CutB u bad8 := (hc.elim (fun h => absurd h.2.2 (hend _)) (fun h => ⟨h.1, h.2.2⟩)); have HQ := Aside0.mk hq8.2; have hc8 := hq8.1; subst hc8; have n0_ := Aside0.mk (HF.out.step (l1 := [sm]) hI (.inr hq8) hb hk); clear HF hI hc hb hk hq8 hc1 hc3; have HF := n0_; clear n0_; have hc3 := cellS79_3 HF.out.1.1) | ((with_reducible refine gate_callee (f := 50) rfl ?_); refine goesL_ _ rfl rfl Try.func50 (by kernel_rfl) rfl #[.pointer (some ⟨gr, 0, none⟩)] rfl gl ?_; refine (impl_reader_end.calls gr u at8 bad8 4 u at8 bad8 4 w _ HF.out.1 HF.out.2.2.1 (by unfold impl_reader_end.f; rw [if_neg (by decide)])).mono ?_; rintro e w9 ⟨rfl, hI, hb, hk⟩; refine ⟨_, rfl, ?_⟩; have n0_ := Aside0.mk (HF.out.step (l1 := [sm]) hI (.inr ⟨rfl, HQ.out⟩) hb hk); clear HF hI hb hk hc3; have HF := n0_; clear n0_; have hc3 := cellS79_3 HF.out.1.1; have hc2 := cellS79_2 HF.out.1.1))
       have hz0 := (blk_cell HF.out.2.2.2.1 0).trans rfl
       have hz1 := (blk_cell HF.out.2.2.2.1 1).trans rfl
       have hz2 := (blk_cell HF.out.2.2.2.1 2).trans rfl
       have hf0 := blk_frozen HF.out.2.2.2.1 0
       have hf1 := blk_frozen HF.out.2.2.2.1 1
       have hf2 := blk_frozen HF.out.2.2.2.1 2
       go_still_tail 9, (by kernel_rfl)
       change wpList _ _ _ _ _ w9.drew
       go_wp2
       refine bodyPost_ret (results_cell_row rfl _ _ w.heap.size 45 #[.slice none 0 0, .int .i64 bad8, .int .i64 4] (0, 0) _ rfl (blk_put (blk_put (blk_put (show w9.drew.heap[w.heap.size]? = _ from HF.out.2.2.2.1) 0 _ rfl) 1 _ rfl) 2 _ rfl) Try.underlying45 rfl (by kernel_rfl)) rfl ?_
       exact ⟨bad8, rfl, HQ.out, below_set (below_set (below_set (below_drew1 HF.out.2.2.1) (Nat.le_refl _)) (Nat.le_refl _)) (Nat.le_refl _)⟩
end
set_option maxHeartbeats 8000000 in
set_option maxRecDepth 100000 in
theorem drawp_rel {A0 : Option Addr} {c0 : Nat} {l0 : List Int} {w : World} (hr0 : Kd.C (Kd.int .u8) w A0 l0.length l0) (hc0 : l0.length ≤ c0) (hl : l0.length ≤ 1048576) :
  Calls Try.prog 16 #[.slice A0 l0.length c0] w fun e w' => ∃ (u : Value) (P : List S35), e = .returned (.agg #[u]) ∧ Kd.R k35 35 w' w.heap.size (fun _ => True) u P ∧ GoodP P ∧ Below w.heap.size w w' := by
 have HR := Aside0.mk hr0
 have HC := Aside0.mk (And.intro hc0 hl)
 clear hr0 hc0 hl
 go_enter Try.func16, Try.ntmps16
 go_wp2_with (first | ((with_reducible refine gate_callee (f := 44) rfl ?_); refine goesL_ _ rfl rfl Try.func44 (by kernel_rfl) rfl #[.slice A0 l0.length c0] rfl gl ?_; refine (source_rel (w0 := w) ((Below.refl _ _).alloc (Nat.le_refl _) _) HR.out HC.out.1 HC.out.2).mono ?_; rintro e w1 ⟨gs, z, rfl, hs, hb, hb2⟩; refine ⟨_, rfl, ?_⟩; have HS := Aside0.mk hs; have HB := Aside0.mk hb; have HB2 := Aside0.mk hb2; clear hs hb hb2) | ((with_reducible refine gate_callee (f := 45) rfl ?_); refine goesL_ _ rfl rfl Try.func45 (by kernel_rfl) rfl #[.pointer (some ⟨gs, 0, none⟩)] rfl gl ?_; refine (prog_rel HS.out HB.out).mono ?_; rintro e w2 ⟨u, P, rfl, hs, hb, hk, hR, hP⟩; refine ⟨_, rfl, ?_⟩; obtain ⟨Au, cu, eu⟩ := Kd.R_slice hR; subst eu; obtain ⟨cs, hcs⟩ := HS.out.blk; have hz1 := (HB2.out.block w.heap.size (by simp)).trans (heap_alloc_new w (.cells #[.slice none 0 0] 25)); have HZ := Aside0.mk (hk.blk hz1 (blk_ne hz1 hcs (by decide)) (by simp)); have H1 := Aside0.mk (Kd.R_lower hR (show w.heap.size ≤ w1.heap.size from HB.out.size)); have H2 := Aside0.mk hP; have H3 := Aside0.mk hb; have hc0_ : w2.cell? ⟨w.heap.size, 0, none⟩ = some (.slice none 0 0) := (blk_cell HZ.out 0).trans rfl; have hf0_ := blk_frozen HZ.out 0; clear HS HB HB2 hs hb hk hR hP hz1 hcs))
 refine bodyPost_ret (results_cell_row rfl _ _ w.heap.size 25 #[.slice Au P.length cu] (0, 0) _ rfl (blk_put HZ.out 0 _ rfl) Try.underlying25 rfl (by kernel_rfl)) rfl ?_
 exact ⟨_, P, rfl, Kd.R_set H1.out HZ.out (by decide) 0 _, H2.out, below_set H3.out (Nat.le_refl _)⟩
/-- What is wanted of a text that is cut off. -/
def CutH (u : ByteArray) : Prop := ∃ (Rest : List Int → Int → Prop) (Q : List S35) (sm : Int), PlanR u Rest ∧ u.size ≤ 20000 ∧ (1 ≤ Q.length ∧ Q.length ≤ 6 ∧ ∀ x ∈ Q, 1 ≤ x.f2.length ∧ x.f2.length ≤ 60) ∧ (0 < u.size → bt u 0 = 74) ∧ (1 < u.size → bt u 1 = 49) ∧ (2 ≤ u.size → Rest ((Q.length : Int) :: (pnums Q ++ [sm])) 2) ∧ ∀ a, ¬ Rest [] a
/-- What the law asks of a drawn program. -/
def LawC (P : List S35) : Prop := ∃ (k : Nat) (t : ByteArray), spec_FileBytes.f k P = some t ∧ (t.size ≠ 0 → t.size ≤ 20000 ∧ ∀ n : Nat, n < t.size → CutH (t.extract 0 n))
theorem lwAt_any (l : List Int) (a : Int) (ha : 0 ≤ a) (hl : ∀ n ∈ l, 0 ≤ n ∧ n < 256) : ∃ r, laws_lwAt.f l a 256 = some r ∧ 0 ≤ r ∧ r < 256 := by
 unfold laws_lwAt.f
 rw [if_neg (by omega)]
 by_cases h : (l.length : Int) = 0
 · rw [if_pos h]; exact ⟨0, rfl, by omega, by omega⟩
 · have e : Int.tmod a (l.length : Int) = a % (l.length : Int) := Int.tmod_eq_emod_of_nonneg ha
   have h1 := Int.emod_nonneg a (b := (l.length : Int)) h
   have h2 := Int.emod_lt_of_pos a (show (0 : Int) < l.length by omega)
   rw [if_neg h, e, if_pos h1, if_pos h2, if_neg (by omega)]
   have hm := hl _ (rd_mem (L := l) h1 h2)
   rw [wrap_in (n := rd l (a % (l.length : Int))) (by omega) (by omega), Int.tmod_eq_emod_of_nonneg hm.1]
   exact ⟨_, rfl, by omega, by omega⟩
theorem t_size {t : ByteArray} (h : t.toList.isEmpty = false) : t.size ≠ 0 := by
 intro e
 obtain ⟨⟨l⟩⟩ := t
 have : l = [] := List.length_eq_zero_iff.mp e
 subst this
 have e2 : (⟨⟨[]⟩⟩ : ByteArray).toList = [] := by first | exact ByteArray.toList_empty | (simp [ByteArray.toList, ByteArray.toList.loop]; done) | (unfold ByteArray.toList ByteArray.toList.loop; rfl)
 rw [e2] at h
 cases h
theorem ext_size {t : ByteArray} {n : Nat} (h : n < t.size) : (t.extract 0 n).size = n := by rw [ByteArray.size_extract]; omega
theorem tmod_nat {a : Int} {b : Nat} (ha : 0 ≤ a) (hb : 0 < b) : ∃ n : Nat, n < b ∧ Int.tmod a (b : Int) = (n : Int) := by
 have h1 := Int.emod_nonneg a (b := (b : Int)) (by omega)
 have h2 := Int.emod_lt_of_pos a (show (0 : Int) < b by omega)
 rw [Int.tmod_eq_emod_of_nonneg ha]
 exact ⟨(a % (b : Int)).toNat, by omega, by omega⟩
set_option maxHeartbeats 8000000 in
set_option maxRecDepth 100000 in
theorem law_rel {A0 A1 : Option Addr} {c0 c1 : Nat} {l0 l1 : List Int} {w : World} (hr0 : Kd.C (Kd.int .u8) w A0 l0.length l0) (hc0 : l0.length ≤ c0) (hr1 : Kd.C (Kd.int .u8) w A1 l1.length l1) (hc1 : l1.length ≤ c1) (h1 : ∀ n ∈ l1, 0 ≤ n ∧ n < 256) (hL : ∀ P, GoodP P → LawC P) :
  Calls Try.prog 4 #[.slice A0 l0.length c0, .slice A1 l1.length c1] w fun e w' => e = .returned (.bool true) ∧ Below w.heap.size w w' := by
 have HR0 := Aside0.mk hr0
 have HC0 := Aside0.mk hc0
 have HR1 := Aside0.mk hr1
 have HC1 := Aside0.mk hc1
 have HQ := Aside0.mk hL
 obtain ⟨x0, e0, x00, x01⟩ := lwAt_any l1 0 (by omega) h1
 obtain ⟨x1, e1, x10, x11⟩ := lwAt_any l1 1 (by omega) h1
 have HX := Aside0.mk (And.intro e0 e1)
 have HY := Aside0.mk (And.intro (And.intro x00 x01) (And.intro x10 x11))
 clear hr0 hc0 hr1 hc1 hL e0 e1 x00 x01 x10 x11 h1
 go_enter Try.func4, Try.ntmps4
 by_cases hlen : (1048576 : Int) < (l0.length : Int)
 · have hld : decide ((1048576 : Int) < (l0.length : Int)) = true := decide_eq_true hlen
   go_wp2
   go_ret
   exact ⟨rfl, Below.refl _ _⟩
 have hld : decide ((1048576 : Int) < (l0.length : Int)) = false := decide_eq_false hlen
 by_cases hlen1 : (1048576 : Int) < (l1.length : Int)
 · have hld1 : decide ((1048576 : Int) < (l1.length : Int)) = true := decide_eq_true hlen1
   go_wp2
   go_ret
   exact ⟨rfl, Below.refl _ _⟩
 have hld1 : decide ((1048576 : Int) < (l1.length : Int)) = false := decide_eq_false hlen1
 have HN := Aside0.mk (show l0.length ≤ 1048576 by omega)
 clear hlen hlen1
 go_wp2_with (first | ((with_reducible refine gate_callee (f := 16) rfl ?_); refine goesL_ _ rfl rfl Try.func16 (by kernel_rfl) rfl #[.slice A0 l0.length c0] rfl gl ?_; refine (drawp_rel HR0.out HC0.out HN.out).mono ?_; rintro e w5 ⟨u, P, rfl, hu, hP, hb⟩; refine ⟨_, rfl, ?_⟩; obtain ⟨Au, cu, eu⟩ := Kd.R_slice hu; subst eu; obtain ⟨k, t, et, ht⟩ := HQ.out P hP; have HE := Aside0.mk et; have HT := Aside0.mk ht; have HU := Aside0.mk hu; have HB := Aside0.mk hb; clear HR0 HC0 HQ HN hu hP hb et ht) | ((with_reducible refine gate_callee (f := 15) rfl ?_); refine goesL_ _ rfl rfl Try.func15 (by kernel_rfl) rfl #[.agg #[.slice Au P.length cu]] rfl gl ?_; refine (spec_FileBytes.calls k Au cu P t _ (Kd.R_reads' HU.out).2.2 (Kd.R_reads' HU.out).2.1 HE.out).mono ?_; rintro e w6 ⟨rfl, hb⟩; refine ⟨_, rfl, ?_⟩; have n0_ := Aside0.mk (below_step HB.out hb); clear HB HU HE hb; have HB := n0_; clear n0_; cases hte : t.toList.isEmpty) | ((with_reducible refine gate_dst (N := 22) rfl ?_); refine goesL_ _ rfl rfl Try.func17 (by kernel_rfl) rfl #[.slice A1 l1.length c1, .int .i64 0, .int .i64 256] rfl gl ?_; refine (laws_lwAt.calls A1 c1 l1 0 256 x0 _ (Kd.C_below HR1.out HB.out) HC1.out HX.out.1).mono ?_; rintro e w7 ⟨rfl, nd, rfl⟩; refine ⟨_, rfl, ?_⟩; skip) | ((with_reducible refine gate_dst (N := 25) rfl ?_); refine goesL_ _ rfl rfl Try.func17 (by kernel_rfl) rfl #[.slice A1 l1.length c1, .int .i64 1, .int .i64 256] rfl gl ?_; refine (laws_lwAt.calls A1 c1 l1 1 256 x1 _ (Kd.C_below HR1.out (pw_below_drewN HB.out nd)) HC1.out HX.out.2).mono ?_; rintro e w8 ⟨rfl, nd2, rfl⟩; refine ⟨_, rfl, ?_⟩; have hw1 : wrap64 (x0 * 256) = x0 * 256 := (by have := HY.out; exact wrap_in (by omega) (by omega)); have hw2 : wrap64 (x0 * 256 + x1) = x0 * 256 + x1 := (by have := HY.out; exact wrap_in (by omega) (by omega)); have hsz := t_size hte; have hT := HT.out hsz; have hT20 := hT.1; obtain ⟨n, hn, hK0⟩ := tmod_nat (a := x0 * 256 + x1) (b := t.size) (by have := HY.out; omega) (by omega); have hK : (wrap64 (wrap64 (x0 * 256) + x1)).tmod (t.size : Int) = (n : Int) := (by rw [hw1, hw2]; exact hK0); have HCU : Aside0 (CutH (t.extract 0 n)) := ⟨hT.2 n hn⟩; have hnz : ((t.size : Int) == 0) = false := (beq_eq_false_iff_ne.mpr (by omega)); have hn0 := eq_true (show (0 : Int) ≤ (wrap64 (wrap64 (x0 * 256) + x1)).tmod (t.size : Int) by omega); have hn1 := eq_true (show (wrap64 (wrap64 (x0 * 256) + x1)).tmod (t.size : Int) ≤ (t.size : Int) by omega); have hn2 := eq_true (show ((wrap64 (wrap64 (x0 * 256) + x1)).tmod (t.size : Int)).toNat ≤ t.size by omega); clear hw1 hw2 hT hK0) | ((with_reducible refine gate_callee (f := 18) rfl ?_); refine goesL_ _ rfl rfl Try.func18 (by kernel_rfl) rfl #[.string (t.extract 0 n)] rfl gl ?_; obtain ⟨Rest, Q, sm, c1_, c2_, c3_, c4_, c5_, c6_, c7_⟩ := HCU.out; refine (fread_rel c1_ _ c2_ c3_ c4_ c5_ c6_ c7_).mono ?_; rintro e w9 ⟨bad, rfl, hcb, hb⟩; refine ⟨_, rfl, ?_⟩; have n0_ := Aside0.mk (below_step (pw_below_drewN HB.out (nd + nd2)) hb); clear HB hb c1_ c2_ c3_ c4_ c5_ c6_ c7_ HCU; have HB := n0_; clear n0_; have hsu := ext_size hn; have hb1 : decide (bad ≤ (n : Int)) = true := decide_eq_true (by have := hcb.2.1; rw [hsu] at this; exact this); have hb2 : decide ((n : Int) - 10 < bad) = true := decide_eq_true (by have := hcb.2.2; rw [hsu] at this; omega)))
 · go_ret
   exact ⟨rfl, below_alloc HB.out _⟩
 · go_ret
   exact ⟨rfl, HB.out⟩
end Go.Proofs.Ytopaefhfjioecaa.QFnFileCut
