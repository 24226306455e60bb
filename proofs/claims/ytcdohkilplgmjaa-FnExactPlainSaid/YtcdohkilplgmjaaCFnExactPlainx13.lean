import Derived.Test.YtcdohkilplgmjaaCFnExactPlainx0
import Derived.Test.YtcdohkilplgmjaaCFnExactPlainx9
import Derived.Test.YtcdohkilplgmjaaCFnExactPlainx11
import Derived.Test.YtcdohkilplgmjaaCFnExactPlainx12
namespace Go.Proofs.Ytcdohkilplgmjaa.QFnExactPlain
open Go.RowKit Go.Proofs.YtcdohkilplgmjaaW
open PrintWords PrintLast PrintMore PrintShort PrintIsh
attribute [local go_sem] max2_int min2_int max_two min_two max_three min_three max_four min_four   -- for this text's walks alone
set_option linter.unusedVariables false
set_option maxHeartbeats 8000000
set_option maxRecDepth 100000
set_option linter.unusedSimpArgs false

/-- A kind whose rows lie in D. -/
def rk {α : Type} (D : Nat → Prop) (d : Kd α) : Kd α where
 sz := d.sz
 E := d.E
 K := d.K
 M := fun w base ok x cs => d.M w base (fun k => ok k ∧ D k) x cs
 K_len := fun h => d.K_len h
 K_one := fun h => d.K_one h
 K_below := fun hb h => d.K_below hb h
 K_of_M := fun h => d.K_of_M h
 M_mono := fun hok h => d.M_mono (fun k hk => ⟨hok k hk.1, hk.2⟩) h
 M_bound := fun h => d.M_mono (fun _ hk => ⟨⟨hk.1.1, hk.2⟩, hk.1.2⟩) (d.M_bound h)
 M_move := fun hm h => d.M_move (fun k hk => hm k hk.1) h
 M_lower := fun hb h => d.M_lower hb h
def nD (D : Nat → Prop) (k : Nat) : Prop := ¬ D k
theorem rkz {α : Type} {d : Kd α} {D : Nat → Prop} (h : 0 < d.sz) : 0 < (rk D d).sz := h
theorem rkE {α : Type} {d : Kd α} {e t : Nat} {D : Nat → Prop} (h : ∀ q, q ∈ e :: d.E → q ≠ t) : ∀ q, q ∈ e :: (rk D d).E → q ≠ t := h
theorem rk_conv {α : Type} {d : Kd α} {e : Nat} {w : World} {base : Nat} {D D' ok : Nat → Prop} {v : Value} {xs : List α} (h : Kd.S (rk D d) e w base ok v xs) (hD : ∀ k, ok k → D k → D' k) : Kd.S (rk D' d) e w base ok v xs := by
 obtain ⟨f, h0, inner, ho, hr⟩ := h
 exact ⟨f, h0, inner, ho, hr.imp_ (fun _ _ hp => d.M_mono (fun k hk => ⟨hk.1, hD k hk.1.1.1 hk.2⟩) hp)⟩
theorem rk_out {α : Type} {d : Kd α} {e : Nat} {w : World} {base : Nat} {D ok : Nat → Prop} {v : Value} {xs : List α} (h : Kd.S (rk D d) e w base ok v xs) : Kd.S d e w base (fun k => ok k ∧ (some k = v.ownBlock ∨ D k)) v xs := by
 obtain ⟨f, h0, inner, ho, hr⟩ := h
 exact ⟨f, fun k hk => ⟨h0 k hk, .inl hk.symm⟩, inner, ho, hr.imp_ (fun _ _ hp => d.M_mono (fun k hk => ⟨⟨⟨hk.1.1.1, .inr hk.2⟩, hk.1.1.2⟩, hk.1.2⟩) hp)⟩
theorem rk_grow {D ok1 ok2 : Nat → Prop} {w : World} {base : Nat} {u1 u2 vP vL : Value} {x1 : List S50} {x2 : List (List S55)} (hP : ∀ k, vP.ownBlock = some k → ∃ c, w.heap[k]? = some (.cells c 108 (0, 0))) (hL : ∀ k, ok2 k → some k ≠ vL.ownBlock) (h1 : Kd.S (rk D k50) 50 w base ok1 u1 x1) (h2 : Kd.S (rk (nD D) (Kd.slice 55 k55)) 47 w base ok2 u2 x2) : ∃ D1 : Nat → Prop, (∀ k, some k = vP.ownBlock ∨ some k = vL.ownBlock → D1 k) ∧ Kd.S (rk D1 k50) 50 w base ok1 u1 x1 ∧ Kd.S (rk (nD D1) (Kd.slice 55 k55)) 47 w base ok2 u2 x2 := by
 refine ⟨fun k => D k ∨ some k = vP.ownBlock ∨ some k = vL.ownBlock, fun k h => .inr h, rk_conv h1 (fun k _ h => .inl h), Kd.S_mono (rk_conv (Kd.S_bound h2) (fun k ho h h9 => ?_)) (fun k a => a.1)⟩
 rcases h9 with h9 | h9 | h9
 · exact h h9
 · obtain ⟨c, hc⟩ := hP k h9.symm
   obtain ⟨q, hq, d, hd⟩ := ho.2.2.2
   rw [hc] at hd
   injection hd with hd
   injection hd with _ hd
   have hq : q = 47 ∨ q = 55 := by simpa [rk, Kd.slice, k55, Kd.iso, Kd.pair, Kd.int, Kd.scalar] using hq
   rcases hq with hq | hq
   · exact absurd (hd.trans hq) (by decide)
   · exact absurd (hd.trans hq) (by decide)
 · exact hL k ho.1 h9
theorem rk_less {D ok1 ok2 : Nat → Prop} {w : World} {base : Nat} {u1 u2 v : Value} {x1 : List S50} {x2 : List (List S55)} (hv : ∀ k, ok1 k → some k ≠ v.ownBlock) (h1 : Kd.S (rk D k50) 50 w base ok1 u1 x1) (h2 : Kd.S (rk (nD D) (Kd.slice 55 k55)) 47 w base ok2 u2 x2) : ∃ D1 : Nat → Prop, (∀ k, some k = v.ownBlock → nD D1 k) ∧ Kd.S (rk D1 k50) 50 w base ok1 u1 x1 ∧ Kd.S (rk (nD D1) (Kd.slice 55 k55)) 47 w base ok2 u2 x2 :=
 ⟨fun k => D k ∧ some k ≠ v.ownBlock, fun k h h9 => h9.2 h, rk_conv h1 (fun k ho h => ⟨h, hv k ho⟩), rk_conv h2 (fun k _ h h9 => h h9.1)⟩
mutual
def impl_prog_plain.l0 : Nat → Int → List (S59) → Int → Int → List (S53) → List (List Int) → Int → List (S50) → List (List (S55)) → Option (Int × (List (S50)) × (List (List (S55))))
 | 0, _, _, _, _, _, _, _, _, _ => none
 | k + 1, x1, x17, x18, x19, x1000, x1001, x431000, x431001, x431002 => if x19 < x18 then (if 0 ≤ x19 then (if x19 < (x17.length : Int) then ((impl_bareNop.f).bind fun bt436 => ((impl_prog_reached.f x1000 x1001 x1 x19).bind fun t446 => (if t446 = true then ((impl_prog_slots.f x1000 x1001 x1 x19).bind fun t453 => ((impl_Takes.f k x1000 ((rd_T59 x17 x19).f0) ((rd_T59 x17 x19).f1)).bind fun t454 => (if ((rd_T59 x17 x19).f0) = 1 then ((impl_constant.f ((rd_T59 x17 x19).f1)).bind fun bt455 => ((impl_prog_plain_1.f t453 bt455.1 bt455.2).bind fun bt457 => (impl_prog_plain.j3 k x1 t453 x17 x18 x19 x1000 x1001 x431000 x431001 x431002 bt457.1 bt457.2.1 bt457.2.2.1 bt457.2.2.2.1 bt457.2.2.2.2))) else (if ((rd_T59 x17 x19).f0) = 2 then ((impl_memory.f ((rd_T59 x17 x19).f1)).bind fun t466 => ((impl_loc.f t466).bind fun bt467 => ((impl_prog_plain_1.f t453 bt467.1 bt467.2).bind fun bt469 => (impl_prog_plain.j3 k x1 t453 x17 x18 x19 x1000 x1001 x431000 x431001 x431002 bt469.1 bt469.2.1 bt469.2.2.1 bt469.2.2.2.1 bt469.2.2.2.2)))) else (if ((rd_T59 x17 x19).f0) = 3 then ((impl_memory.f (wrap64 (t453 - 1))).bind fun t478 => ((impl_loc.f t478).bind fun bt479 => ((impl_prog_plain_1.f ((rd_T59 x17 x19).f1) bt479.1 bt479.2).bind fun bt481 => (impl_prog_plain.j3 k x1 t453 x17 x18 x19 x1000 x1001 x431000 x431001 x431002 bt481.1 bt481.2.1 bt481.2.2.1 bt481.2.2.2.1 bt481.2.2.2.2)))) else (if ((rd_T59 x17 x19).f0) = 4 then ((impl_memory.f (wrap64 (t453 - 1))).bind fun t490 => ((impl_loc.f t490).bind fun bt491 => ((impl_prog_plain_1.f t453 bt491.1 bt491.2).bind fun bt493 => (impl_prog_plain.j3 k x1 t453 x17 x18 x19 x1000 x1001 x431000 x431001 x431002 bt493.1 bt493.2.1 bt493.2.2.1 bt493.2.2.2.1 bt493.2.2.2.2)))) else (if ((rd_T59 x17 x19).f0) = 5 then (impl_prog_plain.j3 k x1 t453 x17 x18 x19 x1000 x1001 x431000 x431001 x431002 bt436.1 bt436.2.1 bt436.2.2.1 bt436.2.2.2.1 bt436.2.2.2.2) else ((impl_memories.f k (wrap64 (t453 - t454)) t454).bind fun t502 => ((impl_Puts.f k ((rd_T59 x17 x19).f0) ((rd_T59 x17 x19).f1)).bind fun t505 => (if t505 > 0 then ((impl_memory.f (wrap64 (t453 - t454))).bind fun t506 => (impl_prog_plain.j1 k x1 t453 x17 x18 x19 x1000 x1001 x431000 x431001 x431002 ((rd_T59 x17 x19).f0) ((rd_T59 x17 x19).f1) ((rd_T59 x17 x19).f0) t506 t502 0)) else (impl_prog_plain.j1 k x1 t453 x17 x18 x19 x1000 x1001 x431000 x431001 x431002 ((rd_T59 x17 x19).f0) ((rd_T59 x17 x19).f1) ((rd_T59 x17 x19).f0) (-1) t502 0))))))))))) else (if x431001.length < 1954687338268 then (if x431002.length < 5864062014805 then (impl_prog_plain.l0 k x1 x17 x18 (wrap64 (x19 + 1)) x1000 x1001 x431000 (x431001 ++ [(⟨bt436.1, bt436.2.1, bt436.2.2.1, bt436.2.2.2.1, bt436.2.2.2.2⟩ : S50)]) (x431002 ++ [[]])) else (none)) else (none))))) else (none)) else (none)) else (some (x431000, x431001, x431002))
def impl_prog_plain.j3 : Nat → Int → Int → List (S59) → Int → Int → List (S53) → List (List Int) → Int → List (S50) → List (List (S55)) → List (S108) → Int → Int → List (S55) → Int → Option (Int × (List (S50)) × (List (List (S55))))
 | 0, _, _, _, _, _, _, _, _, _, _, _, _, _, _, _ => none
 | k + 1, x1, x10, x17, x18, x19, x1000, x1001, x431000, x431001, x431002, x446000, x446001, x446002, x446003, x446004 => if x431001.length < 1954687338268 then ((impl_memories.f k 0 x10).bind fun t510 => (if x431002.length < 5864062014805 then (impl_prog_plain.l0 k x1 x17 x18 (wrap64 (x19 + 1)) x1000 x1001 x431000 (x431001 ++ [(⟨x446000, x446001, x446002, x446003, x446004⟩ : S50)]) (x431002 ++ [t510])) else (none))) else (none)
def impl_prog_plain.j1 : Nat → Int → Int → List (S59) → Int → Int → List (S53) → List (List Int) → Int → List (S50) → List (List (S55)) → Int → Int → Int → Int → List (S55) → Int → Option (Int × (List (S50)) × (List (List (S55))))
 | 0, _, _, _, _, _, _, _, _, _, _, _, _, _, _, _, _ => none
 | k + 1, x1, x10, x17, x18, x19, x1000, x1001, x431000, x431001, x431002, x436000, x436001, x446001, x446002, x446003, x446004 => if x436000 = 30 then (impl_prog_plain.j2 k x1 x10 x17 x18 x19 true x1000 x1001 x431000 x431001 x431002 x436000 x436001 x446001 x446002 x446003 x446004) else (if x436000 = 31 then (impl_prog_plain.j2 k x1 x10 x17 x18 x19 true x1000 x1001 x431000 x431001 x431002 x436000 x436001 x446001 x446002 x446003 x446004) else (impl_prog_plain.j2 k x1 x10 x17 x18 x19 (x436000 == 32) x1000 x1001 x431000 x431001 x431002 x436000 x436001 x446001 x446002 x446003 x446004))
def impl_prog_plain.j2 : Nat → Int → Int → List (S59) → Int → Int → Bool → List (S53) → List (List Int) → Int → List (S50) → List (List (S55)) → Int → Int → Int → Int → List (S55) → Int → Option (Int × (List (S50)) × (List (List (S55))))
 | 0, _, _, _, _, _, _, _, _, _, _, _, _, _, _, _, _, _ => none
 | k + 1, x1, x10, x17, x18, x19, x83, x1000, x1001, x431000, x431001, x431002, x436000, x436001, x446001, x446002, x446003, x446004 => if x83 = true then (impl_prog_plain.j3 k x1 x10 x17 x18 x19 x1000 x1001 x431000 x431001 x431002 ([] : List (S108)) x446001 x446002 x446003 x436001) else (impl_prog_plain.j3 k x1 x10 x17 x18 x19 x1000 x1001 x431000 x431001 x431002 ([] : List (S108)) x446001 x446002 x446003 x446004)
end
def impl_prog_plain.f (k : Nat) (l0_0 : List (S53)) (l0_1 : List (List Int)) (a1 : Int) : Option (Int × (List (S50)) × (List (List (S55)))) := (impl_prog_code.f l0_0 l0_1 a1).bind fun t431 => (impl_prog_plain.l0 k a1 t431 (t431.length : Int) 0 l0_0 l0_1 a1 ([] : List (S50)) ([] : List (List (S55))))
theorem impl_prog_plain.mono_l : ∀ k, (∀ y0 y1 y2 y3 y4 y5 y6 y7 y8, LeO (impl_prog_plain.l0 k y0 y1 y2 y3 y4 y5 y6 y7 y8) (impl_prog_plain.l0 (k + 1) y0 y1 y2 y3 y4 y5 y6 y7 y8)) ∧ (∀ y0 y1 y2 y3 y4 y5 y6 y7 y8 y9 y10 y11 y12 y13 y14, LeO (impl_prog_plain.j3 k y0 y1 y2 y3 y4 y5 y6 y7 y8 y9 y10 y11 y12 y13 y14) (impl_prog_plain.j3 (k + 1) y0 y1 y2 y3 y4 y5 y6 y7 y8 y9 y10 y11 y12 y13 y14)) ∧ (∀ y0 y1 y2 y3 y4 y5 y6 y7 y8 y9 y10 y11 y12 y13 y14 y15, LeO (impl_prog_plain.j1 k y0 y1 y2 y3 y4 y5 y6 y7 y8 y9 y10 y11 y12 y13 y14 y15) (impl_prog_plain.j1 (k + 1) y0 y1 y2 y3 y4 y5 y6 y7 y8 y9 y10 y11 y12 y13 y14 y15)) ∧ (∀ y0 y1 y2 y3 y4 y5 y6 y7 y8 y9 y10 y11 y12 y13 y14 y15 y16, LeO (impl_prog_plain.j2 k y0 y1 y2 y3 y4 y5 y6 y7 y8 y9 y10 y11 y12 y13 y14 y15 y16) (impl_prog_plain.j2 (k + 1) y0 y1 y2 y3 y4 y5 y6 y7 y8 y9 y10 y11 y12 y13 y14 y15 y16))
 | 0 => ⟨fun _ _ _ _ _ _ _ _ _ r h => by simp [impl_prog_plain.l0] at h, fun _ _ _ _ _ _ _ _ _ _ _ _ _ _ _ r h => by simp [impl_prog_plain.j3] at h, fun _ _ _ _ _ _ _ _ _ _ _ _ _ _ _ _ r h => by simp [impl_prog_plain.j1] at h, fun _ _ _ _ _ _ _ _ _ _ _ _ _ _ _ _ _ r h => by simp [impl_prog_plain.j2] at h⟩
 | k + 1 => by
  obtain ⟨ih0, ih1, ih2, ih3⟩ := impl_prog_plain.mono_l k
  refine ⟨?_, ?_, ?_, ?_⟩
  ·intro y0 y1 y2 y3 y4 y5 y6 y7 y8
   unfold impl_prog_plain.l0
   with_reducible repeat' first | exact ih0 .. | exact ih1 .. | exact ih2 .. | exact ih3 .. | exact impl_Puts.mono .. | exact impl_Takes.mono .. | exact impl_memories.mono .. | exact LeO.refl _ | exact LeO.none _ | refine LeO.ite ?_ ?_ | refine LeO.bind ?_ (fun _ => ?_)
  ·intro y0 y1 y2 y3 y4 y5 y6 y7 y8 y9 y10 y11 y12 y13 y14
   unfold impl_prog_plain.j3
   with_reducible repeat' first | exact ih0 .. | exact ih1 .. | exact ih2 .. | exact ih3 .. | exact impl_Puts.mono .. | exact impl_Takes.mono .. | exact impl_memories.mono .. | exact LeO.refl _ | exact LeO.none _ | refine LeO.ite ?_ ?_ | refine LeO.bind ?_ (fun _ => ?_)
  ·intro y0 y1 y2 y3 y4 y5 y6 y7 y8 y9 y10 y11 y12 y13 y14 y15
   unfold impl_prog_plain.j1
   with_reducible repeat' first | exact ih0 .. | exact ih1 .. | exact ih2 .. | exact ih3 .. | exact impl_Puts.mono .. | exact impl_Takes.mono .. | exact impl_memories.mono .. | exact LeO.refl _ | exact LeO.none _ | refine LeO.ite ?_ ?_ | refine LeO.bind ?_ (fun _ => ?_)
  ·intro y0 y1 y2 y3 y4 y5 y6 y7 y8 y9 y10 y11 y12 y13 y14 y15 y16
   unfold impl_prog_plain.j2
   with_reducible repeat' first | exact ih0 .. | exact ih1 .. | exact ih2 .. | exact ih3 .. | exact impl_Puts.mono .. | exact impl_Takes.mono .. | exact impl_memories.mono .. | exact LeO.refl _ | exact LeO.none _ | refine LeO.ite ?_ ?_ | refine LeO.bind ?_ (fun _ => ?_)
theorem impl_prog_plain.mono : ∀ a0 a1 a2 k, LeO (impl_prog_plain.f k a0 a1 a2) (impl_prog_plain.f (k + 1) a0 a1 a2) := by
 intro a0 a1 a2 k
 obtain ⟨ih0, ih1, ih2, ih3⟩ := impl_prog_plain.mono_l k
 unfold impl_prog_plain.f
 with_reducible repeat' first | exact ih0 .. | exact ih1 .. | exact ih2 .. | exact ih3 .. | exact impl_Puts.mono .. | exact impl_Takes.mono .. | exact impl_memories.mono .. | exact LeO.refl _ | exact LeO.none _ | refine LeO.ite ?_ ?_ | refine LeO.bind ?_ (fun _ => ?_)
def impl_prog_plain.T10 : Bool × List (List Nat × List Nat) := (true, [([], []), ([], []), ([], []), ([0, 1, 2], [0, 1, 2]), ([], []), ([4], [4]), ([5], [5]), ([6], [6]), ([], []), ([7, 8, 3], [7, 8]), ([3, 9, 0, 1, 2, 3], [3]), ([9, 10, 0, 1, 2, 3, 4, 5, 6, 7, 8, 9, 10], [9])])
def impl_prog_plain.B10 : List Nat := [0, 0, 0, 7, 0, 16, 48, 112, 0, 511, 1023, 2047]
theorem impl_prog_plain.tab10 : rtab .any (opsOf Try.f20 10) = impl_prog_plain.T10 := by kernel_rfl
theorem impl_prog_plain.bits10 : waitsOk impl_prog_plain.T10.2 impl_prog_plain.B10 = true := by kernel_rfl
def impl_prog_plain.T13 : Bool × List (List Nat × List Nat) := (true, [([], []), ([0], [0]), ([], []), ([], []), ([2, 3], [2, 3]), ([], []), ([4, 5], [4, 5]), ([1, 6], [1, 6]), ([7, 6, 0, 1, 2, 3, 4, 5, 6, 7], [7])])
def impl_prog_plain.B13 : List Nat := [0, 1, 0, 0, 12, 0, 60, 127, 255]
theorem impl_prog_plain.tab13 : rtab .any (opsOf Try.f20 13) = impl_prog_plain.T13 := by kernel_rfl
theorem impl_prog_plain.bits13 : waitsOk impl_prog_plain.T13.2 impl_prog_plain.B13 = true := by kernel_rfl
def impl_prog_plain.T23 : Bool × List (List Nat × List Nat) := (true, [([], []), ([], []), ([1], [1]), ([], []), ([3], [3]), ([4], [4]), ([5, 5], [5]), ([0, 2, 6, 6], [0, 2, 6])])
def impl_prog_plain.B23 : List Nat := [0, 0, 2, 0, 8, 24, 56, 127]
theorem impl_prog_plain.tab23 : rtab .any (opsOf Try.f20 23) = impl_prog_plain.T23 := by kernel_rfl
theorem impl_prog_plain.bits23 : waitsOk impl_prog_plain.T23.2 impl_prog_plain.B23 = true := by kernel_rfl
def impl_prog_plain.T28 : Bool × List (List Nat × List Nat) := (true, [([], []), ([0], [0]), ([], []), ([2], [2]), ([3], [3]), ([1, 4, 3], [1, 4]), ([0, 1, 2, 3, 4, 5], []), ([6, 5, 5, 0, 1, 2, 3, 4, 5], [5, 6])])
def impl_prog_plain.B28 : List Nat := [0, 1, 0, 4, 12, 31, 63, 127]
theorem impl_prog_plain.tab28 : rtab .any (opsOf Try.f20 28) = impl_prog_plain.T28 := by kernel_rfl
theorem impl_prog_plain.bits28 : waitsOk impl_prog_plain.T28.2 impl_prog_plain.B28 = true := by kernel_rfl
theorem impl_prog_plain.calls (k : Nat) (g0_ : Nat) (A0_0 : Option Addr) (c0_0 : Nat) (l0_0 : List (S53)) (A0_1 : Option Addr) (c0_1 : Nat) (l0_1 : List (List Int)) (a1 : Int) (r1 : Int) (r2 : List (S50)) (r3 : List (List (S55))) (w : World) (hp0 : w.heap[g0_]? = some (.cells #[.slice A0_0 l0_0.length c0_0, .slice A0_1 l0_1.length c0_1] 88 (0, 0))) (hr0_0 : Kd.C k53 w A0_0 l0_0.length l0_0) (hc0_0 : l0_0.length ≤ c0_0) (hr0_1 : Kd.C (Kd.slice 2 (Kd.int .i64)) w A0_1 l0_1.length l0_1) (hc0_1 : l0_1.length ≤ c0_1) (h : impl_prog_plain.f k l0_0 l0_1 a1 = some (r1, r2, r3)) :
  Calls Try.prog 20 #[.pointer (some ⟨g0_, 0, none⟩), .int .i64 a1] w fun e w' => ∃ (D : Nat → Prop) (v1_ v2_ : Value), e = .returned (.agg #[.int .i64 r1, v1_, v2_]) ∧ Kd.S (rk D k50) 50 w' w.heap.size (fun _ => True) v1_ r2 ∧ Kd.S (rk (nD D) (Kd.slice 55 k55)) 47 w' w.heap.size (fun _ => True) v2_ r3 ∧ Below w.heap.size w w' := by
 have hu29 := Try.underlying29
 have hu59 := Try.underlying59
 have hu50 := Try.underlying50
 have hu33 := Try.underlying33
 have hmf : ∀ (fn : Fn) (first cap : Array Value) (w : World), (Instr.makeFunc fn first cap).run Try.prog w = .ok (.func fn first cap) w := fun _ _ _ _ => rfl
 have HP0_ := am hp0
 clear hp0
 have HR0_0 := am hr0_0
 have HC0_0 := am hc0_0
 clear hr0_0 hc0_0
 have HR0_1 := am hr0_1
 have HC0_1 := am hc0_1
 clear hr0_1 hc0_1
 have HB := am (Below.refl w.heap.size w)
 have H : ((impl_prog_code.f l0_0 l0_1 a1).bind fun t431 => (impl_prog_plain.l0 k a1 t431 (t431.length : Int) 0 l0_0 l0_1 a1 ([] : List (S50)) ([] : List (List (S55))))) = some (r1, r2, r3) := h
 clear h
 refine be H ?_; clear H; intro t431 A3 H
 have H' := am H
 clear H
 go_enter Try.func20, Try.ntmps20
 go_wp2_with (first | ((with_reducible refine gd 4 rfl ?_); refine bX 4 #[.int .i64 0, .slice none 0 0, .slice none 0 0] 29 HB ?_; clear HB; intro gb429 w4 hg hb BK429 GW429 HB; obtain ⟨NB0_429, NB429_0, HP0_⟩ := b3 hg HP0_ hb; clear hb hg) | ((with_reducible refine gd 5 rfl ?_); refine bX 5 #[.int .i64 0, .slice none 0 0, .slice none 0 0] 29 HB ?_; clear HB; intro gb430 w5 hg hb BK430 GW430 HB; obtain ⟨NB0_430, NB430_0, HP0_⟩ := b3 hg HP0_ hb; obtain ⟨NB429_430, NB430_429, BK429⟩ := b3 hg BK429 hb; clear hb hg; have hnb6 := NB430_0.out; have hnc6 := NB0_430.out; have hnb7 := NB430_429.out; have hnc7 := NB429_430.out; have hcz8 := bK w5 BK430; have hfz8 := bF BK430) | ((with_reducible refine gt 29 5 rfl ?_); refine sE 29 5 (((w5.setCell ⟨gb430, 0, none⟩ (.int .i64 a1)).setCell ⟨gb430, 1, none⟩ (.slice none 0 0)).setCell ⟨gb430, 2, none⟩ (.slice none 0 0)) ?_; intro w9 hw; have n0_ : Aside0 (w9.heap[g0_]? = some (.cells #[.slice A0_0 l0_0.length c0_0, .slice A0_1 l0_1.length c0_1] 88 (0, 0))) := ⟨(by rw [hw]; exact (bt HP0_))⟩; have n1_ : Aside0 (w9.heap[gb429]? = some (.cells #[.int .i64 0, .slice none 0 0, .slice none 0 0] 29 (0, 0))) := ⟨(by rw [hw]; exact (bt BK429))⟩; have n2_ : Aside0 (w9.heap[gb430]? = some (.cells #[.int .i64 a1, .slice none 0 0, .slice none 0 0] 29 (0, 0))) := ⟨(by rw [hw]; exact (bt BK430))⟩; have n3_ : Aside0 (Below w.heap.size w w9) := ⟨(by rw [hw]; exact (bw HB))⟩; clear hw; clear HP0_; clear BK429; clear BK430; clear HB; have HP0_ := n0_; have BK429 := n1_; have BK430 := n2_; have HB := n3_; clear n0_ n1_ n2_ n3_) | ((with_reducible refine gk 37 rfl ?_); refine gC 37 (some 17) Try.func37 #[.pointer (some ⟨g0_, 0, none⟩), .int .i64 a1] ((impl_prog_code.calls g0_ (fun k_ => k_ < w.heap.size) A0_0 c0_0 l0_0 A0_1 c0_1 l0_1 a1 t431 _ (bp HP0_) (Kd.V_mk HC0_0.out (Kd.F_below (Kd.C_F k53_heap HR0_0.out) (bw HB))) (cc (Kd.C_below HR0_1.out HB.out)) HC0_1.out A3.out).mono ?_); rintro e w10 ⟨v432, rfl, ho0, hb⟩; refine ⟨_, rfl, ?_⟩; have HO433 := am (Kd.V_lower (Kd.V_mono (ok' := fun k_ => k_ ≠ gb429 ∧ k_ ≠ gb430) ho0 (fun k_ hk_ => ⟨Or.elim hk_ (fun hs_ => fun e_ => Nat.not_le.2 hs_ (by rw [e_]; exact GW429.out)) (fun hn_ => (Kd.freshB (g := gb429) (o := .cells #[.int .i64 0, .slice none 0 0, .slice none 0 0] 29 (0, 0)) (bp BK429) k_ hn_)), Or.elim hk_ (fun hs_ => fun e_ => Nat.not_le.2 hs_ (by rw [e_]; exact GW430.out)) (fun hn_ => (Kd.freshB (g := gb430) (o := .cells #[.int .i64 a1, .slice none 0 0, .slice none 0 0] 29 (0, 0)) (bp BK430) k_ hn_))⟩)) (below_size (bw HB))); replace HP0_ := bb HP0_ hb; replace BK429 := bb BK429 hb; replace BK430 := bb BK430 hb; replace HB := bs HB hb; clear hb; (try clear ho0); obtain ⟨Ao11, co11, eo11⟩ := Kd.V_slice HO433.out; subst eo11))
 go_loopg [19] k (fun kq v19 w' => ∃ (D : Nat → Prop) (x19_1 : Int) (x431001_1 : List (S50)) (x431002_1 : List (List (S55))) (u431001 : Value) (u431002 : Value), v19 = .int .i64 x19_1 ∧ Aside0 (impl_prog_plain.l0 kq a1 t431 (t431.length : Int) x19_1 l0_0 l0_1 a1 x431001_1 x431002_1 = some (r1, r2, r3)) ∧ Aside0 (kq ≤ k) ∧ Aside0 (Kd.V k59 59 w' w.heap.size (fun k_ => some k_ ≠ (u431001 : Value).ownBlock ∧ some k_ ≠ (u431002 : Value).ownBlock ∧ k_ ≠ gb429 ∧ k_ ≠ gb430) (.slice Ao11 t431.length co11) t431) ∧ Aside0 (Kd.S (rk D k50) 50 w' w.heap.size (fun _ => True) u431001 x431001_1) ∧ Aside0 (Kd.S (rk (nD D) (Kd.slice 55 k55)) 47 w' w.heap.size (fun _ => True) u431002 x431002_1) ∧ Aside0 (w'.heap[g0_]? = some (.cells #[(.slice A0_0 l0_0.length c0_0), (.slice A0_1 l0_1.length c0_1)] 88 (0, 0))) ∧ Aside0 (w'.heap[gb429]? = some (.cells #[.int .i64 0, (.slice none 0 0), (.slice none 0 0)] 29 (0, 0))) ∧ Aside0 (w'.heap[gb430]? = some (.cells #[.int .i64 a1, u431001, u431002] 29 (0, 0))) ∧ Aside0 (Below w.heap.size w w'))
 case atStart => exact ⟨fun _ => False, (0), (([] : List (S50))), (([] : List (List (S55)))), (.slice none 0 0), (.slice none 0 0), dr, H', ⟨Nat.le_refl _⟩, ⟨by (with_reducible repeat (first | apply Kd.V_alloc | apply Kd.V_drewN | apply Kd.V_drew)); exact Kd.V_mono HO433.out (fun _ hk => ⟨(by simp [Value.ownBlock]), ⟨(by simp [Value.ownBlock]), ⟨hk.1, hk.2⟩⟩⟩)⟩, ⟨by first | exact Kd.S_nil _ _ _ _ _ | exact Kd.N_nil _ _ _ _ _ | exact Kd.V_nil _ _ _ _ _ | exact Kd.Q_nil _ _ _ _ _ | exact Kd.R_nil _ _ _ _ _⟩, ⟨by first | exact Kd.S_nil _ _ _ _ _ | exact Kd.N_nil _ _ _ _ _ | exact Kd.V_nil _ _ _ _ _ | exact Kd.Q_nil _ _ _ _ _ | exact Kd.R_nil _ _ _ _ _⟩, ⟨bp HP0_⟩, ⟨bp BK429⟩, ⟨bp BK430⟩, ⟨bw HB⟩⟩
 clear H'
 (try clear c2); (try clear p2); (try clear c3); (try clear c6); (try clear c7); (try clear hcz8); (try clear hfz8)
 obtain ⟨D, x19_1, x431001_1, x431002_1, u431001, u431002, rfl, HA, HK1, HO_17, HO_431001, HO_431002, HP0_, BK429, BK430, HB⟩ := hrel
 rcases gk with _ | k1
 ·exact absurd HA.out (by simp [impl_prog_plain.l0])
 have H := HA.out
 clear HA
 simp only [impl_prog_plain.l0] at H
 by_cases c12 : x19_1 < (t431.length : Int)
 ·rw [if_pos c12] at H
  have c12b0 := decide_eq_true c12
  clear c12
  refine iN H ?_; clear H; intro c13 H
  have c13b0 := decide_eq_true c13
  clear c13
  refine iN H ?_; clear H; intro c14 H
  have c14b0 := decide_eq_true c14
  clear c14
  replace H := Option.bind_eq_some_iff.mp H
  obtain ⟨⟨t436, t439, t440, t441, t444⟩, A150, H⟩ := H
  replace H : ((impl_prog_reached.f l0_0 l0_1 a1 x19_1).bind fun t446 => (if t446 = true then ((impl_prog_slots.f l0_0 l0_1 a1 x19_1).bind fun t453 => ((impl_Takes.f k1 l0_0 ((rd_T59 t431 x19_1).f0) ((rd_T59 t431 x19_1).f1)).bind fun t454 => (if ((rd_T59 t431 x19_1).f0) = 1 then ((impl_constant.f ((rd_T59 t431 x19_1).f1)).bind fun bt455 => ((impl_prog_plain_1.f t453 bt455.1 bt455.2).bind fun bt457 => (impl_prog_plain.j3 k1 a1 t453 t431 (t431.length : Int) x19_1 l0_0 l0_1 a1 x431001_1 x431002_1 bt457.1 bt457.2.1 bt457.2.2.1 bt457.2.2.2.1 bt457.2.2.2.2))) else (if ((rd_T59 t431 x19_1).f0) = 2 then ((impl_memory.f ((rd_T59 t431 x19_1).f1)).bind fun t466 => ((impl_loc.f t466).bind fun bt467 => ((impl_prog_plain_1.f t453 bt467.1 bt467.2).bind fun bt469 => (impl_prog_plain.j3 k1 a1 t453 t431 (t431.length : Int) x19_1 l0_0 l0_1 a1 x431001_1 x431002_1 bt469.1 bt469.2.1 bt469.2.2.1 bt469.2.2.2.1 bt469.2.2.2.2)))) else (if ((rd_T59 t431 x19_1).f0) = 3 then ((impl_memory.f (wrap64 (t453 - 1))).bind fun t478 => ((impl_loc.f t478).bind fun bt479 => ((impl_prog_plain_1.f ((rd_T59 t431 x19_1).f1) bt479.1 bt479.2).bind fun bt481 => (impl_prog_plain.j3 k1 a1 t453 t431 (t431.length : Int) x19_1 l0_0 l0_1 a1 x431001_1 x431002_1 bt481.1 bt481.2.1 bt481.2.2.1 bt481.2.2.2.1 bt481.2.2.2.2)))) else (if ((rd_T59 t431 x19_1).f0) = 4 then ((impl_memory.f (wrap64 (t453 - 1))).bind fun t490 => ((impl_loc.f t490).bind fun bt491 => ((impl_prog_plain_1.f t453 bt491.1 bt491.2).bind fun bt493 => (impl_prog_plain.j3 k1 a1 t453 t431 (t431.length : Int) x19_1 l0_0 l0_1 a1 x431001_1 x431002_1 bt493.1 bt493.2.1 bt493.2.2.1 bt493.2.2.2.1 bt493.2.2.2.2)))) else (if ((rd_T59 t431 x19_1).f0) = 5 then (impl_prog_plain.j3 k1 a1 t453 t431 (t431.length : Int) x19_1 l0_0 l0_1 a1 x431001_1 x431002_1 t436 t439 t440 t441 t444) else ((impl_memories.f k1 (wrap64 (t453 - t454)) t454).bind fun t502 => ((impl_Puts.f k1 ((rd_T59 t431 x19_1).f0) ((rd_T59 t431 x19_1).f1)).bind fun t505 => (if t505 > 0 then ((impl_memory.f (wrap64 (t453 - t454))).bind fun t506 => (impl_prog_plain.j1 k1 a1 t453 t431 (t431.length : Int) x19_1 l0_0 l0_1 a1 x431001_1 x431002_1 ((rd_T59 t431 x19_1).f0) ((rd_T59 t431 x19_1).f1) ((rd_T59 t431 x19_1).f0) t506 t502 0)) else (impl_prog_plain.j1 k1 a1 t453 t431 (t431.length : Int) x19_1 l0_0 l0_1 a1 x431001_1 x431002_1 ((rd_T59 t431 x19_1).f0) ((rd_T59 t431 x19_1).f1) ((rd_T59 t431 x19_1).f0) (-1) t502 0))))))))))) else (if x431001_1.length < 1954687338268 then (if x431002_1.length < 5864062014805 then (impl_prog_plain.l0 k1 a1 t431 (t431.length : Int) (wrap64 (x19_1 + 1)) l0_0 l0_1 a1 (x431001_1 ++ [(⟨t436, t439, t440, t441, t444⟩ : S50)]) (x431002_1 ++ [[]])) else (none)) else (none)))) = some (r1, r2, r3) := H
  have A15 := am A150
  clear A150
  refine be H ?_; clear H; intro t446 A16 H
  have HC17 := am H
  clear H
  have p434 : 0 ≤ (x19_1 : Int) := of_decide_eq_true as1
  have q434 : x19_1 < (t431.length : Int) := of_decide_eq_true as1
  obtain ⟨ad434, e434, hx434_0, hx434_1⟩ := at_T59 (Kd.V_reads' HO_17.out).2.2 x19_1 p434 q434
  cases e434
  replace p434 := eq_true p434
  replace q434 := eq_true q434
  go_upto_if 30 with (first | ((with_reducible refine gd 7 rfl ?_); refine bX 7 #[.int .i64 0, .int .i64 0] 59 HB ?_; clear HB; intro gb435 w18 hg hb BK435 GW435 HB; replace HO_17 := am (Kd.V_below (Kd.V_elderB (kV HO_17) gb435 (Nat.le_of_eq hg.symm)) hb); replace HO_431001 := am (Kd.S_below (kS HO_431001) hb); replace HO_431002 := am (Kd.S_below (kS HO_431002) hb); obtain ⟨NB0_435, NB435_0, HP0_⟩ := b3 hg HP0_ hb; obtain ⟨NB429_435, NB435_429, BK429⟩ := b3 hg BK429 hb; obtain ⟨NB430_435, NB435_430, BK430⟩ := b3 hg BK430 hb; clear hb hg; have hnb19 := NB435_0.out; have hnc19 := NB0_435.out; have hnb20 := NB435_429.out; have hnc20 := NB429_435.out; have hnb21 := NB435_430.out; have hnc21 := NB430_435.out; have hcz22 := bK w18 BK435; have hfz22 := bF BK435) | ((with_reducible refine gate_callee (f := 38) rfl ?_); refine goesL_ (some 25) rfl rfl Try.func38 (by kernel_rfl) rfl #[] rfl gl ?_; (with_reducible refine (impl_bareNop.calls  t436 t439 t440 t441 t444 _ A15.out).mono ?_); rintro e w23 ⟨v437, v442, rfl, ho0, ho1, hb⟩; refine ⟨_, rfl, ?_⟩; replace HO_17 := am (Kd.V_mono (Kd.V_told (Kd.V_told (Kd.V_old (by (with_reducible repeat (first | apply Kd.V_alloc | apply Kd.V_drewN | apply Kd.V_drew)); exact (Kd.V_mono (Kd.V_far (p := ⟨gb435, 1, none⟩) (Kd.V_far (p := ⟨gb435, 0, none⟩) (Kd.V_mono HO_17.out (fun k_ hk => (⟨hk, hk.2⟩ : _ ∧ k_ ≠ gb435))) (fun _ hk => hk.2) (.int .i64 ((rd_T59 t431 x19_1).f0))) (fun _ hk => hk.2) (.int .i64 ((rd_T59 t431 x19_1).f1))) (fun _ h_ => h_.1))) hb) (Kd.R_base ho0)) (Kd.R_base ho1)) (fun _ h_ => h_.1)); replace HO_431001 := am (Kd.S_mono (Kd.S_told (Kd.S_told (Kd.S_old (by (with_reducible repeat (first | apply Kd.S_alloc | apply Kd.S_drewN | apply Kd.S_drew)); exact (Kd.S_mono (Kd.S_far (p := ⟨gb435, 1, none⟩) (Kd.S_far (p := ⟨gb435, 0, none⟩) (Kd.S_types HO_431001.out BK435.out (rkE (by decide))) (fun _ hk => hk.2) (.int .i64 ((rd_T59 t431 x19_1).f0))) (fun _ hk => hk.2) (.int .i64 ((rd_T59 t431 x19_1).f1))) (fun _ h_ => h_.1))) hb) (Kd.R_base ho0)) (Kd.R_base ho1)) (fun _ h_ => h_.1)); replace HO_431002 := am (Kd.S_elder' (by (with_reducible repeat (first | apply Kd.S_alloc | apply Kd.S_drewN | apply Kd.S_drew)); exact (Kd.S_mono (Kd.S_far (p := ⟨gb435, 1, none⟩) (Kd.S_far (p := ⟨gb435, 0, none⟩) (Kd.S_types HO_431002.out BK435.out (rkE (by decide))) (fun _ hk => hk.2) (.int .i64 ((rd_T59 t431 x19_1).f0))) (fun _ hk => hk.2) (.int .i64 ((rd_T59 t431 x19_1).f1))) (fun _ h_ => h_.1))) (Kd.R_base ho1) hb); have HO438 := am (Kd.R_lower ho0 (below_size (bw HB))); have HO443 := am (Kd.R_lower ho1 (below_size (bw HB))); replace HP0_ := bb2 HP0_ hb; replace BK429 := bb2 BK429 hb; replace BK430 := bb2 BK430 hb; replace BK435 := bo #[.int .i64 ((rd_T59 t431 x19_1).f0), .int .i64 ((rd_T59 t431 x19_1).f1)] BK435 hb; replace HB := bs HB hb; clear hb; (try clear ho0); (try clear ho1)) | ((with_reducible refine gd 9 rfl ?_); refine bX 9 #[.slice none 0 0, .int .i64 0, .int .i64 0, .slice none 0 0, .int .i64 0] 50 HB ?_; clear HB; intro gb445 w24 hg hb BK445 GW445 HB; replace HO_17 := am (Kd.V_below (Kd.V_elderB (kV HO_17) gb445 (Nat.le_of_eq hg.symm)) hb); replace HO_431001 := am (Kd.S_below (Kd.S_elderB (kS HO_431001) gb445 (Nat.le_of_eq hg.symm)) hb); replace HO_431002 := am (Kd.S_below (kS HO_431002) hb); replace HO438 := am (Kd.R_below (kR HO438) hb); replace HO443 := am (Kd.R_below (kR HO443) hb); obtain ⟨NB0_445, NB445_0, HP0_⟩ := b3 hg HP0_ hb; obtain ⟨NB429_445, NB445_429, BK429⟩ := b3 hg BK429 hb; obtain ⟨NB430_445, NB445_430, BK430⟩ := b3 hg BK430 hb; obtain ⟨NB435_445, NB445_435, BK435⟩ := b3 hg BK435 hb; clear hb hg; obtain ⟨Ao25, co25, eo25⟩ := Kd.R_slice HO438.out; subst eo25; have hnb26 := NB445_0.out; have hnc26 := NB0_445.out; have hnb27 := NB445_429.out; have hnc27 := NB429_445.out; have hnb28 := NB445_430.out; have hnc28 := NB430_445.out; have hnb29 := NB445_435.out; have hnc29 := NB435_445.out; have hcz30_0 := bk w24 BK445 0; have hcz30_1 := bk w24 BK445 1; have hcz30_2 := bk w24 BK445 2; have hcz30_3 := bk w24 BK445 3; have hcz30_4 := bk w24 BK445 4; have hfz30_0 := bf BK445 0; have hfz30_1 := bf BK445 1; have hfz30_2 := bf BK445 2; have hfz30_3 := bf BK445 3; have hfz30_4 := bf BK445 4; obtain ⟨Ao31, co31, eo31⟩ := Kd.R_slice HO443.out; subst eo31) | ((with_reducible refine gk 39 rfl ?_); refine gB 39 (some 29) Try.func39 #[.pointer (some ⟨g0_, 0, none⟩), .int .i64 a1, .int .i64 x19_1] (impl_prog_reached.calls g0_ A0_0 c0_0 l0_0 A0_1 c0_1 l0_1 a1 x19_1 t446 _ (bt HP0_) (Kd.C_below HR0_0.out (bw HB)) HC0_0.out (Kd.C_below HR0_1.out (bw HB)) HC0_1.out A16.out) ?_; intro w32 hb; replace HO_17 := am (Kd.V_below (by (with_reducible repeat (first | apply Kd.V_alloc | apply Kd.V_drewN | apply Kd.V_drew)); exact (Kd.V_mono (Kd.V_far (p := ⟨gb445, 4, none⟩) (Kd.V_far (p := ⟨gb445, 3, none⟩) (Kd.V_far (p := ⟨gb445, 2, none⟩) (Kd.V_far (p := ⟨gb445, 1, none⟩) (Kd.V_far (p := ⟨gb445, 0, none⟩) (Kd.V_mono HO_17.out (fun k_ hk => (⟨hk, hk.2⟩ : _ ∧ k_ ≠ gb445))) (fun _ hk => hk.2) (.slice Ao25 t436.length co25)) (fun _ hk => hk.2) (.int .i64 t439)) (fun _ hk => hk.2) (.int .i64 t440)) (fun _ hk => hk.2) (.slice Ao31 t441.length co31)) (fun _ hk => hk.2) (.int .i64 t444)) (fun _ h_ => h_.1))) hb); replace HO_431001 := am (Kd.S_below (by (with_reducible repeat (first | apply Kd.S_alloc | apply Kd.S_drewN | apply Kd.S_drew)); exact (Kd.S_mono (Kd.S_far (p := ⟨gb445, 4, none⟩) (Kd.S_far (p := ⟨gb445, 3, none⟩) (Kd.S_far (p := ⟨gb445, 2, none⟩) (Kd.S_far (p := ⟨gb445, 1, none⟩) (Kd.S_far (p := ⟨gb445, 0, none⟩) (Kd.S_mono HO_431001.out (fun k_ hk => (⟨hk, hk.2⟩ : _ ∧ k_ ≠ gb445))) (fun _ hk => hk.2) (.slice Ao25 t436.length co25)) (fun _ hk => hk.2) (.int .i64 t439)) (fun _ hk => hk.2) (.int .i64 t440)) (fun _ hk => hk.2) (.slice Ao31 t441.length co31)) (fun _ hk => hk.2) (.int .i64 t444)) (fun _ h_ => h_.1))) hb); replace HO_431002 := am (Kd.S_below (by (with_reducible repeat (first | apply Kd.S_alloc | apply Kd.S_drewN | apply Kd.S_drew)); exact (Kd.S_mono (Kd.S_far (p := ⟨gb445, 4, none⟩) (Kd.S_far (p := ⟨gb445, 3, none⟩) (Kd.S_far (p := ⟨gb445, 2, none⟩) (Kd.S_far (p := ⟨gb445, 1, none⟩) (Kd.S_far (p := ⟨gb445, 0, none⟩) (Kd.S_types HO_431002.out BK445.out (rkE (by decide))) (fun _ hk => hk.2) (.slice Ao25 t436.length co25)) (fun _ hk => hk.2) (.int .i64 t439)) (fun _ hk => hk.2) (.int .i64 t440)) (fun _ hk => hk.2) (.slice Ao31 t441.length co31)) (fun _ hk => hk.2) (.int .i64 t444)) (fun _ h_ => h_.1))) hb); replace HO438 := am (Kd.R_below (by (with_reducible repeat (first | apply Kd.R_alloc | apply Kd.R_drewN | apply Kd.R_drew)); exact (Kd.R_mono (Kd.R_far (p := ⟨gb445, 4, none⟩) (Kd.R_far (p := ⟨gb445, 3, none⟩) (Kd.R_far (p := ⟨gb445, 2, none⟩) (Kd.R_far (p := ⟨gb445, 1, none⟩) (Kd.R_far (p := ⟨gb445, 0, none⟩) (Kd.R_types HO438.out BK445.out (by decide)) (fun _ hk => hk.2) (.slice Ao25 t436.length co25)) (fun _ hk => hk.2) (.int .i64 t439)) (fun _ hk => hk.2) (.int .i64 t440)) (fun _ hk => hk.2) (.slice Ao31 t441.length co31)) (fun _ hk => hk.2) (.int .i64 t444)) (fun _ h_ => h_.1))) hb); replace HO443 := am (Kd.R_below (by (with_reducible repeat (first | apply Kd.R_alloc | apply Kd.R_drewN | apply Kd.R_drew)); exact (Kd.R_mono (Kd.R_far (p := ⟨gb445, 4, none⟩) (Kd.R_far (p := ⟨gb445, 3, none⟩) (Kd.R_far (p := ⟨gb445, 2, none⟩) (Kd.R_far (p := ⟨gb445, 1, none⟩) (Kd.R_far (p := ⟨gb445, 0, none⟩) (Kd.R_types HO443.out BK445.out (by decide)) (fun _ hk => hk.2) (.slice Ao25 t436.length co25)) (fun _ hk => hk.2) (.int .i64 t439)) (fun _ hk => hk.2) (.int .i64 t440)) (fun _ hk => hk.2) (.slice Ao31 t441.length co31)) (fun _ hk => hk.2) (.int .i64 t444)) (fun _ h_ => h_.1))) hb); replace HP0_ := bb2 HP0_ hb; replace BK429 := bb2 BK429 hb; replace BK430 := bb2 BK430 hb; replace BK435 := bb2 BK435 hb; replace BK445 := bo #[.slice Ao25 t436.length co25, .int .i64 t439, .int .i64 t440, .slice Ao31 t441.length co31, .int .i64 t444] BK445 hb; replace HB := bs HB hb; clear hb))
  (try simp only [Act.put, sa, sz, ss])
  have H := HC17.out
  clear HC17
  refine qT H ?_ ?_ <;> clear H <;> intro c33 H <;> subst c33
  ·refine be H ?_; clear H; intro t453 A34 H
   refine be H ?_; clear H; intro t454 A35 H
   have HC36 := am H
   clear H
   try go_wp2
   replace HO_17 := am (Kd.V_drew HO_17.out)
   replace HO_431001 := am (Kd.S_drew HO_431001.out)
   replace HO_431002 := am (Kd.S_drew HO_431002.out)
   replace HO438 := am (Kd.R_drew HO438.out)
   replace HO443 := am (Kd.R_drew HO443.out)
   replace HP0_ := am (blk_drew HP0_.out)
   replace BK429 := am (blk_drew BK429.out)
   replace BK430 := am (blk_drew BK430.out)
   replace BK435 := am (blk_drew BK435.out)
   replace BK445 := am (blk_drew BK445.out)
   replace HB := am (below_drew1 HB.out)
   refine start_ (n := 12) (S := fun w' => w'.cell? ⟨g0_, 0, none⟩ = some (.slice A0_0 l0_0.length c0_0) ∧ w'.cell? ⟨g0_, 1, none⟩ = some (.slice A0_1 l0_1.length c0_1) ∧ w'.cell? ⟨gb435, 0, none⟩ = some (.int .i64 ((rd_T59 t431 x19_1).f0)) ∧ w'.cell? ⟨gb435, 1, none⟩ = some (.int .i64 ((rd_T59 t431 x19_1).f1))) (ds := []) (bv 12 0) (by kernel_rfl) rfl (by kernel_rfl) ⟨bc HP0_ 0, bc HP0_ 1, bc BK435 0, bc BK435 1⟩ (fun hHeld => ?_); refine with_tabW impl_prog_plain.tab10 impl_prog_plain.bits10 (fun HT_ HW_ => ?_)
   generalize w32.drew = w37 at HO_17 HO_431001 HO_431002 HO438 HO443 HP0_ BK429 BK430 BK435 BK445 HB hHeld ⊢
   refine pu 0 42 12 1 HT_ ?_
   refine pu 1 43 12 3 HT_ ?_
   refine pu 2 44 12 7 HT_ ?_
   refine pu 4 46 12 23 HT_ ?_
   refine pu 5 47 12 55 HT_ ?_
   refine pu 6 48 12 119 HT_ ?_
   refine tk 7 49 12 247 HT_ HW_ hHeld ?_
   refine tk 8 50 12 503 HT_ HW_ hHeld ?_
   refine on 3 (some 45) 12 511 HT_ fun K hK => ?_
   refine goes_ Try.func40 (by kernel_rfl) rfl #[.pointer (some ⟨g0_, 0, none⟩), .int .i64 a1, .int .i64 x19_1] (by rfl) rfl rfl gl ?_
   refine (impl_prog_slots.calls g0_ A0_0 c0_0 l0_0 A0_1 c0_1 l0_1 a1 x19_1 t453 _ ?side1 ?side2 ?side3 ?side4 ?side5 A34.out).mono ?_
   (case side1 => exact (bp HP0_))
   (case side2 => exact cc (Kd.C_below HR0_0.out HB.out))
   (case side3 => exact HC0_0.out)
   (case side4 => exact cc (Kd.C_below HR0_1.out HB.out))
   (case side5 => exact HC0_1.out)
   rintro e w38 ⟨rfl, hb⟩
   refine ⟨_, rfl, ?_⟩
   replace HO_17 := am (Kd.V_below (kV HO_17) hb)
   replace HO_431001 := am (Kd.S_below (kS HO_431001) hb)
   replace HO_431002 := am (Kd.S_below (kS HO_431002) hb)
   replace HO438 := am (Kd.R_below (kR HO438) hb)
   replace HO443 := am (Kd.R_below (kR HO443) hb)
   replace HP0_ := bb HP0_ hb
   replace BK429 := bb BK429 hb
   replace BK430 := bb BK430 hb
   replace BK435 := bb BK435 hb
   replace BK445 := bb BK445 hb
   replace HB := am (below_step (bw HB) hb)
   clear hb
   refine hK.out _ _ ⟨bc HP0_ 0, bc HP0_ 1, bc BK435 0, bc BK435 1⟩ (fun hHeld => ?_)
   clear hK K
   refine nm (some 45) ?_
   refine on 9 (some 51) 12 1023 HT_ fun K hK => ?_
   refine goes_ Try.func41 (by kernel_rfl) rfl #[.agg #[.slice A0_0 l0_0.length c0_0], .agg #[.int .i64 ((rd_T59 t431 x19_1).f0), .int .i64 ((rd_T59 t431 x19_1).f1)]] (by rfl) rfl rfl gl ?_
   with_reducible refine (impl_Takes.calls k1 _ _ l0_0 ((rd_T59 t431 x19_1).f0) ((rd_T59 t431 x19_1).f1) t454 _ ?side1 ?side2 A35.out).mono ?_
   (case side1 => exact cc (Kd.C_below HR0_0.out HB.out))
   (case side2 => exact HC0_0.out)
   rintro e w39 ⟨rfl, hb⟩
   refine ⟨_, rfl, ?_⟩
   replace HO_17 := am (Kd.V_below (kV HO_17) hb)
   replace HO_431001 := am (Kd.S_below (kS HO_431001) hb)
   replace HO_431002 := am (Kd.S_below (kS HO_431002) hb)
   replace HO438 := am (Kd.R_below (kR HO438) hb)
   replace HO443 := am (Kd.R_below (kR HO443) hb)
   replace HP0_ := bb HP0_ hb
   replace BK429 := bb BK429 hb
   replace BK430 := bb BK430 hb
   replace BK435 := bb BK435 hb
   replace BK445 := bb BK445 hb
   replace HB := am (below_step (bw HB) hb)
   clear hb
   refine hK.out _ _ ⟨bc HP0_ 0, bc HP0_ 1, bc BK435 0, bc BK435 1⟩ (fun hHeld => ?_)
   clear hK K
   refine nm (some 51) ?_
   refine pu 10 10 12 2047 HT_ ?_
   refine pu 11 11 12 4095 HT_ ?_
   refine done_ (done_of HT_.out (by kernel_rfl)) ?_
   have hnb40 := NB435_0.out
   have hnc40 := NB0_435.out
   have hnb41 := NB435_429.out
   have hnc41 := NB429_435.out
   have hnb42 := NB435_430.out
   have hnc42 := NB430_435.out
   have hnb43 := NB435_445.out
   have hnc43 := NB445_435.out
   have hcz44 := bK w39 BK435
   have hfz44 := bF BK435
   go_upto_block 2 with (fail)
   go_cut [] (fun wc => ∃ (kq : Nat) (x446000_35 : List (S108)) (x446001_35 : Int) (x446002_35 : Int) (x446003_35 : List (S55)) (x446004_35 : Int) (u446000 : Value) (u446003 : Value), Aside0 (impl_prog_plain.j3 kq a1 t453 t431 (t431.length : Int) x19_1 l0_0 l0_1 a1 x431001_1 x431002_1 x446000_35 x446001_35 x446002_35 x446003_35 x446004_35 = some (r1, r2, r3)) ∧ Aside0 (kq ≤ k1) ∧ Aside0 (Kd.V k59 59 wc w.heap.size (fun k_ => some k_ ≠ (u431001 : Value).ownBlock ∧ some k_ ≠ (u431002 : Value).ownBlock ∧ some k_ ≠ (u446000 : Value).ownBlock ∧ some k_ ≠ (u446003 : Value).ownBlock ∧ k_ ≠ gb429 ∧ k_ ≠ gb430 ∧ k_ ≠ gb435 ∧ k_ ≠ gb445) (.slice (some ad434) t431.length co11) t431) ∧ Aside0 (Kd.S (rk D k50) 50 wc w.heap.size (fun k_ => some k_ ≠ (u446000 : Value).ownBlock ∧ some k_ ≠ (u446003 : Value).ownBlock ∧ k_ ≠ gb445) u431001 x431001_1) ∧ Aside0 (Kd.S (rk (nD D) (Kd.slice 55 k55)) 47 wc w.heap.size (fun k_ => some k_ ≠ (u446003 : Value).ownBlock) u431002 x431002_1) ∧ Aside0 (Kd.R k108 108 wc w.heap.size (fun _ => True) u446000 x446000_35) ∧ Aside0 (Kd.R k55 55 wc w.heap.size (fun _ => True) u446003 x446003_35) ∧ Aside0 (wc.heap[g0_]? = some (.cells #[(.slice A0_0 l0_0.length c0_0), (.slice A0_1 l0_1.length c0_1)] 88 (0, 0))) ∧ Aside0 (wc.heap[gb429]? = some (.cells #[.int .i64 0, (.slice none 0 0), (.slice none 0 0)] 29 (0, 0))) ∧ Aside0 (wc.heap[gb430]? = some (.cells #[.int .i64 a1, u431001, u431002] 29 (0, 0))) ∧ Aside0 (wc.heap[gb435]? = some (.cells #[.int .i64 ((rd_T59 t431 x19_1).f0), .int .i64 ((rd_T59 t431 x19_1).f1)] 59 (0, 0))) ∧ Aside0 (wc.heap[gb445]? = some (.cells #[u446000, .int .i64 x446001_35, .int .i64 x446002_35, u446003, .int .i64 x446004_35] 50 (0, 0))) ∧ Aside0 (Below w.heap.size w wc))
   case first =>
    have H := HC36.out
    clear HC36
    refine qE H ?_ ?_ <;> clear H
    ·intro c45b0 c45b1 H
     (first | rw [c45b0] | (simp only [i64_w, i32_w]; rw [c45b0]) | skip)
     replace H := Option.bind_eq_some_iff.mp H
     obtain ⟨⟨t455, t456⟩, A460, H⟩ := H
     replace H : ((impl_prog_plain_1.f t453 t455 t456).bind fun bt457 => (impl_prog_plain.j3 k1 a1 t453 t431 (t431.length : Int) x19_1 l0_0 l0_1 a1 x431001_1 x431002_1 bt457.1 bt457.2.1 bt457.2.2.1 bt457.2.2.2.1 bt457.2.2.2.2)) = some (r1, r2, r3) := H
     have A46 := am A460
     clear A460
     replace H := Option.bind_eq_some_iff.mp H
     obtain ⟨⟨t457, t460, t461, t462, t465⟩, A470, H⟩ := H
     replace H : (impl_prog_plain.j3 k1 a1 t453 t431 (t431.length : Int) x19_1 l0_0 l0_1 a1 x431001_1 x431002_1 t457 t460 t461 t462 t465) = some (r1, r2, r3) := H
     have A47 := am A470
     clear A470
     have H' := am H
     clear H
     have hnb48 := NB435_0.out
     have hnc48 := NB0_435.out
     have hnb49 := NB435_429.out
     have hnc49 := NB429_435.out
     have hnb50 := NB435_430.out
     have hnc50 := NB430_435.out
     have hnb51 := NB435_445.out
     have hnc51 := NB445_435.out
     have hcz52 := bK w39 BK435
     have hfz52 := bF BK435
     go_wp2_with (first | ((with_reducible refine gate_callee (f := 44) rfl ?_); refine goesL_ (some 93) rfl rfl Try.func44 (by kernel_rfl) rfl #[.int .i64 ((rd_T59 t431 x19_1).f1)] rfl gl ?_; (with_reducible refine (impl_constant.calls ((rd_T59 t431 x19_1).f1) t455 t456 _ A46.out).mono ?_); rintro e w53 ⟨rfl, hb⟩; refine ⟨_, rfl, ?_⟩; replace HO_17 := am (Kd.V_below (kV HO_17) hb); replace HO_431001 := am (Kd.S_below (kS HO_431001) hb); replace HO_431002 := am (Kd.S_below (kS HO_431002) hb); replace HO438 := am (Kd.R_below (kR HO438) hb); replace HO443 := am (Kd.R_below (kR HO443) hb); replace HP0_ := bb HP0_ hb; replace BK429 := bb BK429 hb; replace BK430 := bb BK430 hb; replace BK435 := bb BK435 hb; replace BK445 := bb BK445 hb; replace HB := bs HB hb; clear hb) | ((with_reducible refine gate_calleeT (q := .tmp 89) rfl ?_); refine goesC_ (q := .tmp 89) (cap := #[.pointer (some ⟨gb445, 0, none⟩)]) (some 94) rfl rfl Try.func42 (by kernel_rfl) rfl rfl #[.int .i64 t453, .agg #[.int .i64 t455, .int .i64 t456]] #[.int .i64 t453, .agg #[.int .i64 t455, .int .i64 t456], .pointer (some ⟨gb445, 0, none⟩)] rfl gl (by simp only [List.append_toArray, List.cons_append, List.nil_append]) ?_; (with_reducible refine (impl_prog_plain_1.clo t453 t455 t456 t457 t460 t461 t462 t465 _ A47.out (bp BK445)).mono ?_); rintro e w'_ ⟨v458, v463, w54, rfl, ho0, ho1, hb, rfl⟩; refine ⟨_, rfl, ?_⟩; replace HO_17 := am (Kd.V_mono (Kd.V_told (Kd.V_told (Kd.V_old (kV HO_17) hb) (Kd.R_base ho0)) (Kd.R_base ho1)) (fun _ h_ => h_.1)); replace HO_431001 := am (Kd.S_mono (Kd.S_told (Kd.S_told (Kd.S_old (kS HO_431001) hb) (Kd.R_base ho0)) (Kd.R_base ho1)) (fun _ h_ => h_.1)); replace HO_431002 := am (Kd.S_elder' (kS HO_431002) (Kd.R_base ho1) hb); have HO459 := am (Kd.R_lower (Kd.R_new' ho0 (Kd.R_lt (kR HO438))) (below_size (bw HB))); replace HO438 := am (Kd.R_elder' (kR HO438) (Kd.R_base ho0) hb); have HO464 := am (Kd.R_lower (Kd.R_new' ho1 (Kd.R_lt (kR HO443))) (below_size (bw HB))); replace HO443 := am (Kd.R_elder' (kR HO443) (Kd.R_base ho1) hb); replace HP0_ := bb HP0_ hb; replace BK429 := bb BK429 hb; replace BK430 := bb BK430 hb; replace BK435 := bb BK435 hb; replace BK445 := bb BK445 hb; replace HB := bs HB hb; clear hb; (try clear ho0); (try clear ho1); obtain ⟨Ao55, co55, eo55⟩ := Kd.R_slice HO459.out; subst eo55; have hnb56 := NB445_0.out; have hnc56 := NB0_445.out; have hnb57 := NB445_429.out; have hnc57 := NB429_445.out; have hnb58 := NB445_430.out; have hnc58 := NB430_445.out; have hcz59_0 := bk w54 BK445 0; have hcz59_1 := bk w54 BK445 1; have hcz59_2 := bk w54 BK445 2; have hcz59_3 := bk w54 BK445 3; have hcz59_4 := bk w54 BK445 4; have hfz59_0 := bf BK445 0; have hfz59_1 := bf BK445 1; have hfz59_2 := bf BK445 2; have hfz59_3 := bf BK445 3; have hfz59_4 := bf BK445 4; obtain ⟨Ao60, co60, eo60⟩ := Kd.R_slice HO464.out; subst eo60))
     go_meet
     case rel => exact ⟨_, (t457), (t460), (t461), (t462), (t465), (.slice Ao55 t457.length co55), (.slice Ao60 t462.length co60), H', ⟨lk1 HK1⟩, ⟨by (with_reducible repeat (first | apply Kd.V_alloc | apply Kd.V_drewN | apply Kd.V_drew)); exact Kd.V_mono (Kd.V_far (p := ⟨gb445, 4, none⟩) (Kd.V_far (p := ⟨gb445, 3, none⟩) (Kd.V_far (p := ⟨gb445, 2, none⟩) (Kd.V_far (p := ⟨gb445, 1, none⟩) (Kd.V_far (p := ⟨gb445, 0, none⟩) (Kd.V_mono HO_17.out (fun k_ hk => (⟨hk, hk.1.1.2⟩ : _ ∧ k_ ≠ gb445))) (fun _ hk => hk.2) (.slice Ao55 t457.length co55)) (fun _ hk => hk.2) (.int .i64 t460)) (fun _ hk => hk.2) (.int .i64 t461)) (fun _ hk => hk.2) (.slice Ao60 t462.length co60)) (fun _ hk => hk.2) (.int .i64 t465)) (fun _ hk => ⟨hk.1.1.1.1.1.1.1.1, ⟨hk.1.1.1.1.1.1.1.2.1, ⟨hk.1.1.2, ⟨hk.1.2, ⟨hk.1.1.1.1.1.1.1.2.2.1, ⟨hk.1.1.1.1.1.1.1.2.2.2, ⟨hk.1.1.1.1.1.1.2, hk.1.1.1.2⟩⟩⟩⟩⟩⟩⟩)⟩, ⟨by (with_reducible repeat (first | apply Kd.S_alloc | apply Kd.S_drewN | apply Kd.S_drew)); exact Kd.S_mono (Kd.S_far (p := ⟨gb445, 4, none⟩) (Kd.S_far (p := ⟨gb445, 3, none⟩) (Kd.S_far (p := ⟨gb445, 2, none⟩) (Kd.S_far (p := ⟨gb445, 1, none⟩) (Kd.S_far (p := ⟨gb445, 0, none⟩) (Kd.S_mono HO_431001.out (fun k_ hk => (⟨hk, hk.1.1.2⟩ : _ ∧ k_ ≠ gb445))) (fun _ hk => hk.2) (.slice Ao55 t457.length co55)) (fun _ hk => hk.2) (.int .i64 t460)) (fun _ hk => hk.2) (.int .i64 t461)) (fun _ hk => hk.2) (.slice Ao60 t462.length co60)) (fun _ hk => hk.2) (.int .i64 t465)) (fun _ hk => ⟨hk.1.1.2, ⟨hk.1.2, hk.1.1.1.2⟩⟩)⟩, ⟨by (with_reducible repeat (first | apply Kd.S_alloc | apply Kd.S_drewN | apply Kd.S_drew)); exact Kd.S_mono (Kd.S_far (p := ⟨gb445, 4, none⟩) (Kd.S_far (p := ⟨gb445, 3, none⟩) (Kd.S_far (p := ⟨gb445, 2, none⟩) (Kd.S_far (p := ⟨gb445, 1, none⟩) (Kd.S_far (p := ⟨gb445, 0, none⟩) (Kd.S_types HO_431002.out BK445.out (rkE (by decide))) (fun _ hk => hk.2) (.slice Ao55 t457.length co55)) (fun _ hk => hk.2) (.int .i64 t460)) (fun _ hk => hk.2) (.int .i64 t461)) (fun _ hk => hk.2) (.slice Ao60 t462.length co60)) (fun _ hk => hk.2) (.int .i64 t465)) (fun _ hk => hk.1.2)⟩, ⟨by (with_reducible repeat (first | apply Kd.R_alloc | apply Kd.R_drewN | apply Kd.R_drew)); exact Kd.R_mono (Kd.R_far (p := ⟨gb445, 4, none⟩) (Kd.R_far (p := ⟨gb445, 3, none⟩) (Kd.R_far (p := ⟨gb445, 2, none⟩) (Kd.R_far (p := ⟨gb445, 1, none⟩) (Kd.R_far (p := ⟨gb445, 0, none⟩) (Kd.R_types HO459.out BK445.out (by decide)) (fun _ hk => hk.2) (.slice Ao55 t457.length co55)) (fun _ hk => hk.2) (.int .i64 t460)) (fun _ hk => hk.2) (.int .i64 t461)) (fun _ hk => hk.2) (.slice Ao60 t462.length co60)) (fun _ hk => hk.2) (.int .i64 t465)) (fun _ hk => trivial)⟩, ⟨by (with_reducible repeat (first | apply Kd.R_alloc | apply Kd.R_drewN | apply Kd.R_drew)); exact Kd.R_mono (Kd.R_far (p := ⟨gb445, 4, none⟩) (Kd.R_far (p := ⟨gb445, 3, none⟩) (Kd.R_far (p := ⟨gb445, 2, none⟩) (Kd.R_far (p := ⟨gb445, 1, none⟩) (Kd.R_far (p := ⟨gb445, 0, none⟩) (Kd.R_types HO464.out BK445.out (by decide)) (fun _ hk => hk.2) (.slice Ao55 t457.length co55)) (fun _ hk => hk.2) (.int .i64 t460)) (fun _ hk => hk.2) (.int .i64 t461)) (fun _ hk => hk.2) (.slice Ao60 t462.length co60)) (fun _ hk => hk.2) (.int .i64 t465)) (fun _ hk => trivial)⟩, ⟨by (with_reducible repeat (first | apply dN | apply dW | apply dA)); refine blk_far ?_ NB0_445.out _; (with_reducible repeat (first | apply dN | apply dW | apply dA)); refine blk_far ?_ NB0_445.out _; (with_reducible repeat (first | apply dN | apply dW | apply dA)); refine blk_far ?_ NB0_445.out _; (with_reducible repeat (first | apply dN | apply dW | apply dA)); refine blk_far ?_ NB0_445.out _; (with_reducible repeat (first | apply dN | apply dW | apply dA)); refine blk_far ?_ NB0_445.out _; exact bp HP0_⟩, ⟨by (with_reducible repeat (first | apply dN | apply dW | apply dA)); refine blk_far ?_ NB429_445.out _; (with_reducible repeat (first | apply dN | apply dW | apply dA)); refine blk_far ?_ NB429_445.out _; (with_reducible repeat (first | apply dN | apply dW | apply dA)); refine blk_far ?_ NB429_445.out _; (with_reducible repeat (first | apply dN | apply dW | apply dA)); refine blk_far ?_ NB429_445.out _; (with_reducible repeat (first | apply dN | apply dW | apply dA)); refine blk_far ?_ NB429_445.out _; exact bp BK429⟩, ⟨by (with_reducible repeat (first | apply dN | apply dW | apply dA)); refine blk_far ?_ NB430_445.out _; (with_reducible repeat (first | apply dN | apply dW | apply dA)); refine blk_far ?_ NB430_445.out _; (with_reducible repeat (first | apply dN | apply dW | apply dA)); refine blk_far ?_ NB430_445.out _; (with_reducible repeat (first | apply dN | apply dW | apply dA)); refine blk_far ?_ NB430_445.out _; (with_reducible repeat (first | apply dN | apply dW | apply dA)); refine blk_far ?_ NB430_445.out _; exact bp BK430⟩, ⟨by (with_reducible repeat (first | apply dN | apply dW | apply dA)); refine blk_far ?_ NB435_445.out _; (with_reducible repeat (first | apply dN | apply dW | apply dA)); refine blk_far ?_ NB435_445.out _; (with_reducible repeat (first | apply dN | apply dW | apply dA)); refine blk_far ?_ NB435_445.out _; (with_reducible repeat (first | apply dN | apply dW | apply dA)); refine blk_far ?_ NB435_445.out _; (with_reducible repeat (first | apply dN | apply dW | apply dA)); refine blk_far ?_ NB435_445.out _; exact bp BK435⟩, ⟨by (with_reducible repeat (first | apply dN | apply dW | apply dA)); refine blk_put (cs := #[.slice Ao55 t457.length co55, .int .i64 t460, .int .i64 t461, .slice Ao60 t462.length co60, .int .i64 t444]) ?_ 4 _ rfl; (with_reducible repeat (first | apply dN | apply dW | apply dA)); refine blk_put (cs := #[.slice Ao55 t457.length co55, .int .i64 t460, .int .i64 t461, .slice Ao31 t441.length co31, .int .i64 t444]) ?_ 3 _ rfl; (with_reducible repeat (first | apply dN | apply dW | apply dA)); refine blk_put (cs := #[.slice Ao55 t457.length co55, .int .i64 t460, .int .i64 t440, .slice Ao31 t441.length co31, .int .i64 t444]) ?_ 2 _ rfl; (with_reducible repeat (first | apply dN | apply dW | apply dA)); refine blk_put (cs := #[.slice Ao55 t457.length co55, .int .i64 t439, .int .i64 t440, .slice Ao31 t441.length co31, .int .i64 t444]) ?_ 1 _ rfl; (with_reducible repeat (first | apply dN | apply dW | apply dA)); refine blk_put (cs := #[.slice Ao25 t436.length co25, .int .i64 t439, .int .i64 t440, .slice Ao31 t441.length co31, .int .i64 t444]) ?_ 0 _ rfl; exact bp BK445⟩, ⟨bw HB⟩⟩
    intro c45 c45b0 c45b1 H
    (first | rw [c45b0] | (simp only [i64_w, i32_w]; rw [c45b0]) | skip)
    refine qE H ?_ ?_ <;> clear H
    ·intro c61b0 c61b1 H
     refine be H ?_; clear H; intro t466 A62 H
     replace H := Option.bind_eq_some_iff.mp H
     obtain ⟨⟨t467, t468⟩, A630, H⟩ := H
     replace H : ((impl_prog_plain_1.f t453 t467 t468).bind fun bt469 => (impl_prog_plain.j3 k1 a1 t453 t431 (t431.length : Int) x19_1 l0_0 l0_1 a1 x431001_1 x431002_1 bt469.1 bt469.2.1 bt469.2.2.1 bt469.2.2.2.1 bt469.2.2.2.2)) = some (r1, r2, r3) := H
     have A63 := am A630
     clear A630
     replace H := Option.bind_eq_some_iff.mp H
     obtain ⟨⟨t469, t472, t473, t474, t477⟩, A640, H⟩ := H
     replace H : (impl_prog_plain.j3 k1 a1 t453 t431 (t431.length : Int) x19_1 l0_0 l0_1 a1 x431001_1 x431002_1 t469 t472 t473 t474 t477) = some (r1, r2, r3) := H
     have A64 := am A640
     clear A640
     have H' := am H
     clear H
     have hnb65 := NB435_0.out
     have hnc65 := NB0_435.out
     have hnb66 := NB435_429.out
     have hnc66 := NB429_435.out
     have hnb67 := NB435_430.out
     have hnc67 := NB430_435.out
     have hnb68 := NB435_445.out
     have hnc68 := NB445_435.out
     have hcz69 := bK w39 BK435
     have hfz69 := bF BK435
     go_wp2_with (first | ((with_reducible refine gate_callee (f := 43) rfl ?_); refine goesL_ (some 101) rfl rfl Try.func43 (by kernel_rfl) rfl #[.int .i64 ((rd_T59 t431 x19_1).f1)] rfl gl ?_; (with_reducible refine (impl_memory.calls ((rd_T59 t431 x19_1).f1) t466 _ A62.out).mono ?_); rintro e w' ⟨rfl, ⟨nd, rfl⟩⟩; refine ⟨_, rfl, ?_⟩; (try (rw [drewN_self w39]; generalize hq_ : World.drewN w39 _ = w39; have n0_ : Aside0 (Kd.R k108 108 w39 w.heap.size (fun _ => True) (.slice Ao25 t436.length co25) t436) := ⟨by rw [← hq_]; exact (kR HO438)⟩; have n1_ : Aside0 (Kd.R k55 55 w39 w.heap.size (fun _ => True) (.slice Ao31 t441.length co31) t441) := ⟨by rw [← hq_]; exact (kR HO443)⟩; have n2_ : Aside0 (Kd.V k59 59 w39 w.heap.size (fun k_ => some k_ ≠ (.slice Ao25 t436.length co25 : Value).ownBlock ∧ some k_ ≠ (.slice Ao31 t441.length co31 : Value).ownBlock ∧ some k_ ≠ (u431001 : Value).ownBlock ∧ some k_ ≠ (u431002 : Value).ownBlock ∧ k_ ≠ gb429 ∧ k_ ≠ gb430 ∧ k_ ≠ gb435 ∧ k_ ≠ gb445) (.slice (some ad434) t431.length co11) t431) := ⟨by rw [← hq_]; exact (by (with_reducible repeat (first | apply Kd.V_alloc | apply Kd.V_drewN | apply Kd.V_drew)); exact Kd.V_mono HO_17.out (fun _ hk => ⟨hk.1.1.2, ⟨hk.1.2, ⟨hk.1.1.1.1.1, ⟨hk.1.1.1.1.2.1, ⟨hk.1.1.1.1.2.2.1, ⟨hk.1.1.1.1.2.2.2, ⟨hk.1.1.1.2, hk.2⟩⟩⟩⟩⟩⟩⟩))⟩; have n3_ : Aside0 (Kd.S (rk D k50) 50 w39 w.heap.size (fun k_ => some k_ ≠ (.slice Ao25 t436.length co25 : Value).ownBlock ∧ some k_ ≠ (.slice Ao31 t441.length co31 : Value).ownBlock ∧ k_ ≠ gb445) u431001 x431001_1) := ⟨by rw [← hq_]; exact (by (with_reducible repeat (first | apply Kd.S_alloc | apply Kd.S_drewN | apply Kd.S_drew)); exact Kd.S_mono HO_431001.out (fun _ hk => ⟨hk.1.1.2, ⟨hk.1.2, hk.2⟩⟩))⟩; have n4_ : Aside0 (Kd.S (rk (nD D) (Kd.slice 55 k55)) 47 w39 w.heap.size (fun k_ => some k_ ≠ (.slice Ao31 t441.length co31 : Value).ownBlock) u431002 x431002_1) := ⟨by rw [← hq_]; exact (by (with_reducible repeat (first | apply Kd.S_alloc | apply Kd.S_drewN | apply Kd.S_drew)); exact Kd.S_mono HO_431002.out (fun _ hk => hk.2))⟩; have n5_ : Aside0 (w39.heap[gb429]? = some (.cells #[.int .i64 0, .slice none 0 0, .slice none 0 0] 29 (0, 0))) := ⟨by rw [← hq_]; exact (bp BK429)⟩; have n6_ : Aside0 (w39.heap[gb430]? = some (.cells #[.int .i64 a1, u431001, u431002] 29 (0, 0))) := ⟨by rw [← hq_]; exact (bp BK430)⟩; have n7_ : Aside0 (w39.heap[gb435]? = some (.cells #[.int .i64 ((rd_T59 t431 x19_1).f0), .int .i64 ((rd_T59 t431 x19_1).f1)] 59 (0, 0))) := ⟨by rw [← hq_]; exact (bp BK435)⟩; have n8_ : Aside0 (w39.heap[gb445]? = some (.cells #[.slice Ao25 t436.length co25, .int .i64 t439, .int .i64 t440, .slice Ao31 t441.length co31, .int .i64 t444] 50 (0, 0))) := ⟨by rw [← hq_]; exact (bp BK445)⟩; have n9_ : Aside0 (w39.heap[g0_]? = some (.cells #[.slice A0_0 l0_0.length c0_0, .slice A0_1 l0_1.length c0_1] 88 (0, 0))) := ⟨by rw [← hq_]; exact (bp HP0_)⟩; have n10_ : Aside0 (Below w.heap.size w w39) := ⟨by rw [← hq_]; exact (bw HB)⟩; clear HO438 HO443 HO_17 HO_431001 HO_431002 BK429 BK430 BK435 BK445 HP0_ HB hq_; have HO438 := n0_; have HO443 := n1_; have HO_17 := n2_; have HO_431001 := n3_; have HO_431002 := n4_; have BK429 := n5_; have BK430 := n6_; have BK435 := n7_; have BK445 := n8_; have HP0_ := n9_; have HB := n10_; clear n0_ n1_ n2_ n3_ n4_ n5_ n6_ n7_ n8_ n9_ n10_))) | ((with_reducible refine gate_callee (f := 45) rfl ?_); refine goesL_ (some 102) rfl rfl Try.func45 (by kernel_rfl) rfl #[.int .i64 t466] rfl gl ?_; (with_reducible refine (impl_loc.calls t466 t467 t468 _ A63.out).mono ?_); rintro e w70 ⟨rfl, hb⟩; refine ⟨_, rfl, ?_⟩; replace HO_17 := am (Kd.V_below (kV HO_17) hb); replace HO_431001 := am (Kd.S_below (kS HO_431001) hb); replace HO_431002 := am (Kd.S_below (kS HO_431002) hb); replace HO438 := am (Kd.R_below (kR HO438) hb); replace HO443 := am (Kd.R_below (kR HO443) hb); replace HP0_ := bb HP0_ hb; replace BK429 := bb BK429 hb; replace BK430 := bb BK430 hb; replace BK435 := bb BK435 hb; replace BK445 := bb BK445 hb; replace HB := bs HB hb; clear hb) | ((with_reducible refine gate_calleeT (q := .tmp 97) rfl ?_); refine goesC_ (q := .tmp 97) (cap := #[.pointer (some ⟨gb445, 0, none⟩)]) (some 103) rfl rfl Try.func42 (by kernel_rfl) rfl rfl #[.int .i64 t453, .agg #[.int .i64 t467, .int .i64 t468]] #[.int .i64 t453, .agg #[.int .i64 t467, .int .i64 t468], .pointer (some ⟨gb445, 0, none⟩)] rfl gl (by simp only [List.append_toArray, List.cons_append, List.nil_append]) ?_; (with_reducible refine (impl_prog_plain_1.clo t453 t467 t468 t469 t472 t473 t474 t477 _ A64.out (bp BK445)).mono ?_); rintro e w'_ ⟨v470, v475, w71, rfl, ho0, ho1, hb, rfl⟩; refine ⟨_, rfl, ?_⟩; replace HO_17 := am (Kd.V_mono (Kd.V_told (Kd.V_told (Kd.V_old (kV HO_17) hb) (Kd.R_base ho0)) (Kd.R_base ho1)) (fun _ h_ => h_.1)); replace HO_431001 := am (Kd.S_mono (Kd.S_told (Kd.S_told (Kd.S_old (kS HO_431001) hb) (Kd.R_base ho0)) (Kd.R_base ho1)) (fun _ h_ => h_.1)); replace HO_431002 := am (Kd.S_elder' (kS HO_431002) (Kd.R_base ho1) hb); have HO471 := am (Kd.R_lower (Kd.R_new' ho0 (Kd.R_lt (kR HO438))) (below_size (bw HB))); replace HO438 := am (Kd.R_elder' (kR HO438) (Kd.R_base ho0) hb); have HO476 := am (Kd.R_lower (Kd.R_new' ho1 (Kd.R_lt (kR HO443))) (below_size (bw HB))); replace HO443 := am (Kd.R_elder' (kR HO443) (Kd.R_base ho1) hb); replace HP0_ := bb HP0_ hb; replace BK429 := bb BK429 hb; replace BK430 := bb BK430 hb; replace BK435 := bb BK435 hb; replace BK445 := bb BK445 hb; replace HB := bs HB hb; clear hb; (try clear ho0); (try clear ho1); obtain ⟨Ao72, co72, eo72⟩ := Kd.R_slice HO471.out; subst eo72; have hnb73 := NB445_0.out; have hnc73 := NB0_445.out; have hnb74 := NB445_429.out; have hnc74 := NB429_445.out; have hnb75 := NB445_430.out; have hnc75 := NB430_445.out; have hcz76_0 := bk w71 BK445 0; have hcz76_1 := bk w71 BK445 1; have hcz76_2 := bk w71 BK445 2; have hcz76_3 := bk w71 BK445 3; have hcz76_4 := bk w71 BK445 4; have hfz76_0 := bf BK445 0; have hfz76_1 := bf BK445 1; have hfz76_2 := bf BK445 2; have hfz76_3 := bf BK445 3; have hfz76_4 := bf BK445 4; obtain ⟨Ao77, co77, eo77⟩ := Kd.R_slice HO476.out; subst eo77))
     go_meet
     case rel => exact ⟨_, (t469), (t472), (t473), (t474), (t477), (.slice Ao72 t469.length co72), (.slice Ao77 t474.length co77), H', ⟨lk1 HK1⟩, ⟨by (with_reducible repeat (first | apply Kd.V_alloc | apply Kd.V_drewN | apply Kd.V_drew)); exact Kd.V_mono (Kd.V_far (p := ⟨gb445, 4, none⟩) (Kd.V_far (p := ⟨gb445, 3, none⟩) (Kd.V_far (p := ⟨gb445, 2, none⟩) (Kd.V_far (p := ⟨gb445, 1, none⟩) (Kd.V_far (p := ⟨gb445, 0, none⟩) (Kd.V_mono HO_17.out (fun k_ hk => (⟨hk, hk.1.1.2.2.2.2.2.2.2⟩ : _ ∧ k_ ≠ gb445))) (fun _ hk => hk.2) (.slice Ao72 t469.length co72)) (fun _ hk => hk.2) (.int .i64 t472)) (fun _ hk => hk.2) (.int .i64 t473)) (fun _ hk => hk.2) (.slice Ao77 t474.length co77)) (fun _ hk => hk.2) (.int .i64 t477)) (fun _ hk => ⟨hk.1.1.1.2.2.1, ⟨hk.1.1.1.2.2.2.1, ⟨hk.1.1.2, ⟨hk.1.2, ⟨hk.1.1.1.2.2.2.2.1, ⟨hk.1.1.1.2.2.2.2.2.1, ⟨hk.1.1.1.2.2.2.2.2.2.1, hk.1.1.1.2.2.2.2.2.2.2⟩⟩⟩⟩⟩⟩⟩)⟩, ⟨by (with_reducible repeat (first | apply Kd.S_alloc | apply Kd.S_drewN | apply Kd.S_drew)); exact Kd.S_mono (Kd.S_far (p := ⟨gb445, 4, none⟩) (Kd.S_far (p := ⟨gb445, 3, none⟩) (Kd.S_far (p := ⟨gb445, 2, none⟩) (Kd.S_far (p := ⟨gb445, 1, none⟩) (Kd.S_far (p := ⟨gb445, 0, none⟩) (Kd.S_mono HO_431001.out (fun k_ hk => (⟨hk, hk.1.1.2.2⟩ : _ ∧ k_ ≠ gb445))) (fun _ hk => hk.2) (.slice Ao72 t469.length co72)) (fun _ hk => hk.2) (.int .i64 t472)) (fun _ hk => hk.2) (.int .i64 t473)) (fun _ hk => hk.2) (.slice Ao77 t474.length co77)) (fun _ hk => hk.2) (.int .i64 t477)) (fun _ hk => ⟨hk.1.1.2, ⟨hk.1.2, hk.1.1.1.2.2⟩⟩)⟩, ⟨by (with_reducible repeat (first | apply Kd.S_alloc | apply Kd.S_drewN | apply Kd.S_drew)); exact Kd.S_mono (Kd.S_far (p := ⟨gb445, 4, none⟩) (Kd.S_far (p := ⟨gb445, 3, none⟩) (Kd.S_far (p := ⟨gb445, 2, none⟩) (Kd.S_far (p := ⟨gb445, 1, none⟩) (Kd.S_far (p := ⟨gb445, 0, none⟩) (Kd.S_types HO_431002.out BK445.out (rkE (by decide))) (fun _ hk => hk.2) (.slice Ao72 t469.length co72)) (fun _ hk => hk.2) (.int .i64 t472)) (fun _ hk => hk.2) (.int .i64 t473)) (fun _ hk => hk.2) (.slice Ao77 t474.length co77)) (fun _ hk => hk.2) (.int .i64 t477)) (fun _ hk => hk.1.2)⟩, ⟨by (with_reducible repeat (first | apply Kd.R_alloc | apply Kd.R_drewN | apply Kd.R_drew)); exact Kd.R_mono (Kd.R_far (p := ⟨gb445, 4, none⟩) (Kd.R_far (p := ⟨gb445, 3, none⟩) (Kd.R_far (p := ⟨gb445, 2, none⟩) (Kd.R_far (p := ⟨gb445, 1, none⟩) (Kd.R_far (p := ⟨gb445, 0, none⟩) (Kd.R_types HO471.out BK445.out (by decide)) (fun _ hk => hk.2) (.slice Ao72 t469.length co72)) (fun _ hk => hk.2) (.int .i64 t472)) (fun _ hk => hk.2) (.int .i64 t473)) (fun _ hk => hk.2) (.slice Ao77 t474.length co77)) (fun _ hk => hk.2) (.int .i64 t477)) (fun _ hk => trivial)⟩, ⟨by (with_reducible repeat (first | apply Kd.R_alloc | apply Kd.R_drewN | apply Kd.R_drew)); exact Kd.R_mono (Kd.R_far (p := ⟨gb445, 4, none⟩) (Kd.R_far (p := ⟨gb445, 3, none⟩) (Kd.R_far (p := ⟨gb445, 2, none⟩) (Kd.R_far (p := ⟨gb445, 1, none⟩) (Kd.R_far (p := ⟨gb445, 0, none⟩) (Kd.R_types HO476.out BK445.out (by decide)) (fun _ hk => hk.2) (.slice Ao72 t469.length co72)) (fun _ hk => hk.2) (.int .i64 t472)) (fun _ hk => hk.2) (.int .i64 t473)) (fun _ hk => hk.2) (.slice Ao77 t474.length co77)) (fun _ hk => hk.2) (.int .i64 t477)) (fun _ hk => trivial)⟩, ⟨by (with_reducible repeat (first | apply dN | apply dW | apply dA)); refine blk_far ?_ NB0_445.out _; (with_reducible repeat (first | apply dN | apply dW | apply dA)); refine blk_far ?_ NB0_445.out _; (with_reducible repeat (first | apply dN | apply dW | apply dA)); refine blk_far ?_ NB0_445.out _; (with_reducible repeat (first | apply dN | apply dW | apply dA)); refine blk_far ?_ NB0_445.out _; (with_reducible repeat (first | apply dN | apply dW | apply dA)); refine blk_far ?_ NB0_445.out _; exact bp HP0_⟩, ⟨by (with_reducible repeat (first | apply dN | apply dW | apply dA)); refine blk_far ?_ NB429_445.out _; (with_reducible repeat (first | apply dN | apply dW | apply dA)); refine blk_far ?_ NB429_445.out _; (with_reducible repeat (first | apply dN | apply dW | apply dA)); refine blk_far ?_ NB429_445.out _; (with_reducible repeat (first | apply dN | apply dW | apply dA)); refine blk_far ?_ NB429_445.out _; (with_reducible repeat (first | apply dN | apply dW | apply dA)); refine blk_far ?_ NB429_445.out _; exact bp BK429⟩, ⟨by (with_reducible repeat (first | apply dN | apply dW | apply dA)); refine blk_far ?_ NB430_445.out _; (with_reducible repeat (first | apply dN | apply dW | apply dA)); refine blk_far ?_ NB430_445.out _; (with_reducible repeat (first | apply dN | apply dW | apply dA)); refine blk_far ?_ NB430_445.out _; (with_reducible repeat (first | apply dN | apply dW | apply dA)); refine blk_far ?_ NB430_445.out _; (with_reducible repeat (first | apply dN | apply dW | apply dA)); refine blk_far ?_ NB430_445.out _; exact bp BK430⟩, ⟨by (with_reducible repeat (first | apply dN | apply dW | apply dA)); refine blk_far ?_ NB435_445.out _; (with_reducible repeat (first | apply dN | apply dW | apply dA)); refine blk_far ?_ NB435_445.out _; (with_reducible repeat (first | apply dN | apply dW | apply dA)); refine blk_far ?_ NB435_445.out _; (with_reducible repeat (first | apply dN | apply dW | apply dA)); refine blk_far ?_ NB435_445.out _; (with_reducible repeat (first | apply dN | apply dW | apply dA)); refine blk_far ?_ NB435_445.out _; exact bp BK435⟩, ⟨by (with_reducible repeat (first | apply dN | apply dW | apply dA)); refine blk_put (cs := #[.slice Ao72 t469.length co72, .int .i64 t472, .int .i64 t473, .slice Ao77 t474.length co77, .int .i64 t444]) ?_ 4 _ rfl; (with_reducible repeat (first | apply dN | apply dW | apply dA)); refine blk_put (cs := #[.slice Ao72 t469.length co72, .int .i64 t472, .int .i64 t473, .slice Ao31 t441.length co31, .int .i64 t444]) ?_ 3 _ rfl; (with_reducible repeat (first | apply dN | apply dW | apply dA)); refine blk_put (cs := #[.slice Ao72 t469.length co72, .int .i64 t472, .int .i64 t440, .slice Ao31 t441.length co31, .int .i64 t444]) ?_ 2 _ rfl; (with_reducible repeat (first | apply dN | apply dW | apply dA)); refine blk_put (cs := #[.slice Ao72 t469.length co72, .int .i64 t439, .int .i64 t440, .slice Ao31 t441.length co31, .int .i64 t444]) ?_ 1 _ rfl; (with_reducible repeat (first | apply dN | apply dW | apply dA)); refine blk_put (cs := #[.slice Ao25 t436.length co25, .int .i64 t439, .int .i64 t440, .slice Ao31 t441.length co31, .int .i64 t444]) ?_ 0 _ rfl; exact bp BK445⟩, ⟨bw HB⟩⟩
    intro c61 c61b0 c61b1 H
    refine qE H ?_ ?_ <;> clear H
    ·intro c78b0 c78b1 H
     refine be H ?_; clear H; intro t478 A79 H
     replace H := Option.bind_eq_some_iff.mp H
     obtain ⟨⟨t479, t480⟩, A800, H⟩ := H
     replace H : ((impl_prog_plain_1.f ((rd_T59 t431 x19_1).f1) t479 t480).bind fun bt481 => (impl_prog_plain.j3 k1 a1 t453 t431 (t431.length : Int) x19_1 l0_0 l0_1 a1 x431001_1 x431002_1 bt481.1 bt481.2.1 bt481.2.2.1 bt481.2.2.2.1 bt481.2.2.2.2)) = some (r1, r2, r3) := H
     have A80 := am A800
     clear A800
     replace H := Option.bind_eq_some_iff.mp H
     obtain ⟨⟨t481, t484, t485, t486, t489⟩, A810, H⟩ := H
     replace H : (impl_prog_plain.j3 k1 a1 t453 t431 (t431.length : Int) x19_1 l0_0 l0_1 a1 x431001_1 x431002_1 t481 t484 t485 t486 t489) = some (r1, r2, r3) := H
     have A81 := am A810
     clear A810
     have H' := am H
     clear H
     try go_wp2
     replace HO_17 := am (Kd.V_drew HO_17.out)
     replace HO_431001 := am (Kd.S_drew HO_431001.out)
     replace HO_431002 := am (Kd.S_drew HO_431002.out)
     replace HO438 := am (Kd.R_drew HO438.out)
     replace HO443 := am (Kd.R_drew HO443.out)
     replace HP0_ := am (blk_drew HP0_.out)
     replace BK429 := am (blk_drew BK429.out)
     replace BK430 := am (blk_drew BK430.out)
     replace BK435 := am (blk_drew BK435.out)
     replace BK445 := am (blk_drew BK445.out)
     replace HB := am (below_drew1 HB.out)
     refine start_ (n := 8) (S := fun w' => w'.cell? ⟨gb435, 0, none⟩ = some (.int .i64 ((rd_T59 t431 x19_1).f0)) ∧ w'.cell? ⟨gb435, 1, none⟩ = some (.int .i64 ((rd_T59 t431 x19_1).f1))) (ds := []) (bv 8 0) (by kernel_rfl) rfl (by kernel_rfl) ⟨bc BK435 0, bc BK435 1⟩ (fun hHeld => ?_); refine with_tabW impl_prog_plain.tab23 impl_prog_plain.bits23 (fun HT_ HW_ => ?_)
     generalize w39.drew = w82 at HO_17 HO_431001 HO_431002 HO438 HO443 HP0_ BK429 BK430 BK435 BK445 HB hHeld ⊢
     refine pu 0 106 8 1 HT_ ?_
     refine pu 1 107 8 3 HT_ ?_
     refine pu 3 109 8 11 HT_ ?_
     refine pu 4 110 8 27 HT_ ?_
     refine tk 2 108 8 31 HT_ HW_ hHeld ?_
     refine on 5 (some 111) 8 63 HT_ fun K hK => ?_
     refine goes_ Try.func43 (by kernel_rfl) rfl #[.int .i64 (wrap64 (t453 - 1))] (by rfl) rfl rfl gl ?_
     with_reducible refine (impl_memory.calls (wrap64 (t453 - 1)) t478 _ A79.out).mono ?_
     rintro e w' ⟨rfl, ⟨nd, rfl⟩⟩
     refine ⟨_, rfl, ?_⟩
     refine hK.out _ _ ⟨bc BK435 0, bc BK435 1⟩ (fun hHeld => ?_)
     clear hK K
     refine nm (some 111) ?_
     refine on 6 (some 112) 8 127 HT_ fun K hK => ?_
     refine goes_ Try.func45 (by kernel_rfl) rfl #[.int .i64 t478] (by rfl) rfl rfl gl ?_
     with_reducible refine (impl_loc.calls t478 t479 t480 _ A80.out).mono ?_
     rintro e w83 ⟨rfl, hb⟩
     refine ⟨_, rfl, ?_⟩
     replace HO_17 := am (Kd.V_below (kV HO_17) hb)
     replace HO_431001 := am (Kd.S_below (kS HO_431001) hb)
     replace HO_431002 := am (Kd.S_below (kS HO_431002) hb)
     replace HO438 := am (Kd.R_below (kR HO438) hb)
     replace HO443 := am (Kd.R_below (kR HO443) hb)
     replace HP0_ := bb HP0_ hb
     replace BK429 := bb BK429 hb
     replace BK430 := bb BK430 hb
     replace BK435 := bb BK435 hb
     replace BK445 := bb BK445 hb
     replace HB := am (below_step (bw HB) hb)
     clear hb
     refine hK.out _ _ ⟨bc BK435 0, bc BK435 1⟩ (fun hHeld => ?_)
     clear hK K
     refine nm (some 112) ?_
     refine on 7 (some 113) 8 255 HT_ fun K hK => ?_
     refine goesCQ_ (q := .tmp 106) (cap := #[.pointer (some ⟨gb445, 0, none⟩)]) Try.func42 (by kernel_rfl) rfl #[.int .i64 ((rd_T59 t431 x19_1).f1), .agg #[.int .i64 t479, .int .i64 t480]] #[.int .i64 ((rd_T59 t431 x19_1).f1), .agg #[.int .i64 t479, .int .i64 t480], .pointer (some ⟨gb445, 0, none⟩)] (by rfl) rfl rfl gl (by simp only [List.append_toArray, List.cons_append, List.nil_append]) ?_ (by rfl)
     with_reducible refine (impl_prog_plain_1.clo ((rd_T59 t431 x19_1).f1) t479 t480 t481 t484 t485 t486 t489 _ A81.out (bp BK445)).mono ?_
     rintro e w'_ ⟨v482, v487, w84, rfl, ho0, ho1, hb, rfl⟩
     refine ⟨_, rfl, ?_⟩
     have n0_ := am (Kd.V_mono (Kd.V_told (Kd.V_told (Kd.V_old (kV HO_17) hb) (Kd.R_base ho0)) (Kd.R_base ho1)) (fun _ h_ => h_.1))
     have n1_ := am (Kd.S_mono (Kd.S_told (Kd.S_told (Kd.S_old (kS HO_431001) hb) (Kd.R_base ho0)) (Kd.R_base ho1)) (fun _ h_ => h_.1))
     have n2_ := am (Kd.S_elder' (kS HO_431002) (Kd.R_base ho1) hb)
     have n3_ := am (Kd.R_elder' (kR HO438) (Kd.R_base ho0) hb)
     have n4_ := am (Kd.R_elder' (kR HO443) (Kd.R_base ho1) hb)
     have n5_ := am (Kd.R_lower (Kd.R_new' ho0 (Kd.R_lt (kR HO438))) (below_size (bw HB)))
     have n6_ := am (Kd.R_lower (Kd.R_new' ho1 (Kd.R_lt (kR HO443))) (below_size (bw HB)))
     have n7_ := bb HP0_ hb
     have n8_ := bb BK429 hb
     have n9_ := bb BK430 hb
     have n10_ := bb BK435 hb
     have n11_ := bb BK445 hb
     have n12_ := am (below_step (bw HB) hb)
     clear HO_17
     clear HO_431001
     clear HO_431002
     clear HO438
     clear HO443
     clear HP0_
     clear BK429
     clear BK430
     clear BK435
     clear BK445
     clear HB
     have HO_17 := n0_
     have HO_431001 := n1_
     have HO_431002 := n2_
     have HO438 := n3_
     have HO443 := n4_
     have HO483 := n5_
     have HO488 := n6_
     have HP0_ := n7_
     have BK429 := n8_
     have BK430 := n9_
     have BK435 := n10_
     have BK445 := n11_
     have HB := n12_
     clear n0_ n1_ n2_ n3_ n4_ n5_ n6_ n7_ n8_ n9_ n10_ n11_ n12_
     clear hb
     (try clear ho0)
     (try clear ho1)
     obtain ⟨Ao85, co85, eo85⟩ := Kd.R_slice HO483.out
     (first | subst eo85 | (injection eo85 with f1_ f2_ f3_; have f4_ := f1_.symm; have f5_ := f3_.symm; clear f1_ f2_ f3_; subst f4_; subst f5_))
     obtain ⟨Ao89, co89, eo89⟩ := Kd.R_slice HO488.out
     (first | subst eo89 | (injection eo89 with f1_ f2_ f3_; have f4_ := f1_.symm; have f5_ := f3_.symm; clear f1_ f2_ f3_; subst f4_; subst f5_))
     refine hK.out _ _ ⟨((cell_far (p := ⟨gb445, _, none⟩) NB435_445.out _).trans (((cell_far (p := ⟨gb445, _, none⟩) NB435_445.out _).trans (((cell_far (p := ⟨gb445, _, none⟩) NB435_445.out _).trans (((cell_far (p := ⟨gb445, _, none⟩) NB435_445.out _).trans (((cell_far (p := ⟨gb445, _, none⟩) NB435_445.out _).trans (bc BK435 0)))))))))), ((cell_far (p := ⟨gb445, _, none⟩) NB435_445.out _).trans (((cell_far (p := ⟨gb445, _, none⟩) NB435_445.out _).trans (((cell_far (p := ⟨gb445, _, none⟩) NB435_445.out _).trans (((cell_far (p := ⟨gb445, _, none⟩) NB435_445.out _).trans (((cell_far (p := ⟨gb445, _, none⟩) NB435_445.out _).trans (bc BK435 1))))))))))⟩ (fun hHeld => ?_)
     clear hK K
     refine nm (some 113) ?_
     refine done_ (done_of HT_.out (by kernel_rfl)) ?_
     try go_wp2
     go_meet
     case rel => exact ⟨_, (t481), (t484), (t485), (t486), (t489), (.slice Ao85 t481.length co85), (.slice Ao89 t486.length co89), H', ⟨lk1 HK1⟩, ⟨by (with_reducible repeat (first | apply Kd.V_alloc | apply Kd.V_drewN | apply Kd.V_drew)); exact Kd.V_mono (Kd.V_far (p := ⟨gb445, 4, none⟩) (Kd.V_far (p := ⟨gb445, 3, none⟩) (Kd.V_far (p := ⟨gb445, 2, none⟩) (Kd.V_far (p := ⟨gb445, 1, none⟩) (Kd.V_far (p := ⟨gb445, 0, none⟩) (Kd.V_mono HO_17.out (fun k_ hk => (⟨hk, hk.1.1.2⟩ : _ ∧ k_ ≠ gb445))) (fun _ hk => hk.2) (.slice Ao85 t481.length co85)) (fun _ hk => hk.2) (.int .i64 t484)) (fun _ hk => hk.2) (.int .i64 t485)) (fun _ hk => hk.2) (.slice Ao89 t486.length co89)) (fun _ hk => hk.2) (.int .i64 t489)) (fun _ hk => ⟨hk.1.1.1.1.1.1.1.1, ⟨hk.1.1.1.1.1.1.1.2.1, ⟨hk.1.1.2, ⟨hk.1.2, ⟨hk.1.1.1.1.1.1.1.2.2.1, ⟨hk.1.1.1.1.1.1.1.2.2.2, ⟨hk.1.1.1.1.1.1.2, hk.1.1.1.2⟩⟩⟩⟩⟩⟩⟩)⟩, ⟨by (with_reducible repeat (first | apply Kd.S_alloc | apply Kd.S_drewN | apply Kd.S_drew)); exact Kd.S_mono (Kd.S_far (p := ⟨gb445, 4, none⟩) (Kd.S_far (p := ⟨gb445, 3, none⟩) (Kd.S_far (p := ⟨gb445, 2, none⟩) (Kd.S_far (p := ⟨gb445, 1, none⟩) (Kd.S_far (p := ⟨gb445, 0, none⟩) (Kd.S_mono HO_431001.out (fun k_ hk => (⟨hk, hk.1.1.2⟩ : _ ∧ k_ ≠ gb445))) (fun _ hk => hk.2) (.slice Ao85 t481.length co85)) (fun _ hk => hk.2) (.int .i64 t484)) (fun _ hk => hk.2) (.int .i64 t485)) (fun _ hk => hk.2) (.slice Ao89 t486.length co89)) (fun _ hk => hk.2) (.int .i64 t489)) (fun _ hk => ⟨hk.1.1.2, ⟨hk.1.2, hk.1.1.1.2⟩⟩)⟩, ⟨by (with_reducible repeat (first | apply Kd.S_alloc | apply Kd.S_drewN | apply Kd.S_drew)); exact Kd.S_mono (Kd.S_far (p := ⟨gb445, 4, none⟩) (Kd.S_far (p := ⟨gb445, 3, none⟩) (Kd.S_far (p := ⟨gb445, 2, none⟩) (Kd.S_far (p := ⟨gb445, 1, none⟩) (Kd.S_far (p := ⟨gb445, 0, none⟩) (Kd.S_types HO_431002.out BK445.out (rkE (by decide))) (fun _ hk => hk.2) (.slice Ao85 t481.length co85)) (fun _ hk => hk.2) (.int .i64 t484)) (fun _ hk => hk.2) (.int .i64 t485)) (fun _ hk => hk.2) (.slice Ao89 t486.length co89)) (fun _ hk => hk.2) (.int .i64 t489)) (fun _ hk => hk.1.2)⟩, ⟨by (with_reducible repeat (first | apply Kd.R_alloc | apply Kd.R_drewN | apply Kd.R_drew)); exact Kd.R_mono (Kd.R_far (p := ⟨gb445, 4, none⟩) (Kd.R_far (p := ⟨gb445, 3, none⟩) (Kd.R_far (p := ⟨gb445, 2, none⟩) (Kd.R_far (p := ⟨gb445, 1, none⟩) (Kd.R_far (p := ⟨gb445, 0, none⟩) (Kd.R_types HO483.out BK445.out (by decide)) (fun _ hk => hk.2) (.slice Ao85 t481.length co85)) (fun _ hk => hk.2) (.int .i64 t484)) (fun _ hk => hk.2) (.int .i64 t485)) (fun _ hk => hk.2) (.slice Ao89 t486.length co89)) (fun _ hk => hk.2) (.int .i64 t489)) (fun _ hk => trivial)⟩, ⟨by (with_reducible repeat (first | apply Kd.R_alloc | apply Kd.R_drewN | apply Kd.R_drew)); exact Kd.R_mono (Kd.R_far (p := ⟨gb445, 4, none⟩) (Kd.R_far (p := ⟨gb445, 3, none⟩) (Kd.R_far (p := ⟨gb445, 2, none⟩) (Kd.R_far (p := ⟨gb445, 1, none⟩) (Kd.R_far (p := ⟨gb445, 0, none⟩) (Kd.R_types HO488.out BK445.out (by decide)) (fun _ hk => hk.2) (.slice Ao85 t481.length co85)) (fun _ hk => hk.2) (.int .i64 t484)) (fun _ hk => hk.2) (.int .i64 t485)) (fun _ hk => hk.2) (.slice Ao89 t486.length co89)) (fun _ hk => hk.2) (.int .i64 t489)) (fun _ hk => trivial)⟩, ⟨by (with_reducible repeat (first | apply dN | apply dW | apply dA)); refine blk_far ?_ NB0_445.out _; (with_reducible repeat (first | apply dN | apply dW | apply dA)); refine blk_far ?_ NB0_445.out _; (with_reducible repeat (first | apply dN | apply dW | apply dA)); refine blk_far ?_ NB0_445.out _; (with_reducible repeat (first | apply dN | apply dW | apply dA)); refine blk_far ?_ NB0_445.out _; (with_reducible repeat (first | apply dN | apply dW | apply dA)); refine blk_far ?_ NB0_445.out _; exact bp HP0_⟩, ⟨by (with_reducible repeat (first | apply dN | apply dW | apply dA)); refine blk_far ?_ NB429_445.out _; (with_reducible repeat (first | apply dN | apply dW | apply dA)); refine blk_far ?_ NB429_445.out _; (with_reducible repeat (first | apply dN | apply dW | apply dA)); refine blk_far ?_ NB429_445.out _; (with_reducible repeat (first | apply dN | apply dW | apply dA)); refine blk_far ?_ NB429_445.out _; (with_reducible repeat (first | apply dN | apply dW | apply dA)); refine blk_far ?_ NB429_445.out _; exact bp BK429⟩, ⟨by (with_reducible repeat (first | apply dN | apply dW | apply dA)); refine blk_far ?_ NB430_445.out _; (with_reducible repeat (first | apply dN | apply dW | apply dA)); refine blk_far ?_ NB430_445.out _; (with_reducible repeat (first | apply dN | apply dW | apply dA)); refine blk_far ?_ NB430_445.out _; (with_reducible repeat (first | apply dN | apply dW | apply dA)); refine blk_far ?_ NB430_445.out _; (with_reducible repeat (first | apply dN | apply dW | apply dA)); refine blk_far ?_ NB430_445.out _; exact bp BK430⟩, ⟨by (with_reducible repeat (first | apply dN | apply dW | apply dA)); refine blk_far ?_ NB435_445.out _; (with_reducible repeat (first | apply dN | apply dW | apply dA)); refine blk_far ?_ NB435_445.out _; (with_reducible repeat (first | apply dN | apply dW | apply dA)); refine blk_far ?_ NB435_445.out _; (with_reducible repeat (first | apply dN | apply dW | apply dA)); refine blk_far ?_ NB435_445.out _; (with_reducible repeat (first | apply dN | apply dW | apply dA)); refine blk_far ?_ NB435_445.out _; exact bp BK435⟩, ⟨by (with_reducible repeat (first | apply dN | apply dW | apply dA)); refine blk_put (cs := #[.slice Ao85 t481.length co85, .int .i64 t484, .int .i64 t485, .slice Ao89 t486.length co89, .int .i64 t444]) ?_ 4 _ rfl; (with_reducible repeat (first | apply dN | apply dW | apply dA)); refine blk_put (cs := #[.slice Ao85 t481.length co85, .int .i64 t484, .int .i64 t485, .slice Ao31 t441.length co31, .int .i64 t444]) ?_ 3 _ rfl; (with_reducible repeat (first | apply dN | apply dW | apply dA)); refine blk_put (cs := #[.slice Ao85 t481.length co85, .int .i64 t484, .int .i64 t440, .slice Ao31 t441.length co31, .int .i64 t444]) ?_ 2 _ rfl; (with_reducible repeat (first | apply dN | apply dW | apply dA)); refine blk_put (cs := #[.slice Ao85 t481.length co85, .int .i64 t439, .int .i64 t440, .slice Ao31 t441.length co31, .int .i64 t444]) ?_ 1 _ rfl; (with_reducible repeat (first | apply dN | apply dW | apply dA)); refine blk_put (cs := #[.slice Ao25 t436.length co25, .int .i64 t439, .int .i64 t440, .slice Ao31 t441.length co31, .int .i64 t444]) ?_ 0 _ rfl; exact bp BK445⟩, ⟨bw HB⟩⟩
    intro c78 c78b0 c78b1 H
    refine qE H ?_ ?_ <;> clear H
    ·intro c92b0 c92b1 H
     refine be H ?_; clear H; intro t490 A93 H
     replace H := Option.bind_eq_some_iff.mp H
     obtain ⟨⟨t491, t492⟩, A940, H⟩ := H
     replace H : ((impl_prog_plain_1.f t453 t491 t492).bind fun bt493 => (impl_prog_plain.j3 k1 a1 t453 t431 (t431.length : Int) x19_1 l0_0 l0_1 a1 x431001_1 x431002_1 bt493.1 bt493.2.1 bt493.2.2.1 bt493.2.2.2.1 bt493.2.2.2.2)) = some (r1, r2, r3) := H
     have A94 := am A940
     clear A940
     replace H := Option.bind_eq_some_iff.mp H
     obtain ⟨⟨t493, t496, t497, t498, t501⟩, A950, H⟩ := H
     replace H : (impl_prog_plain.j3 k1 a1 t453 t431 (t431.length : Int) x19_1 l0_0 l0_1 a1 x431001_1 x431002_1 t493 t496 t497 t498 t501) = some (r1, r2, r3) := H
     have A95 := am A950
     clear A950
     have H' := am H
     clear H
     go_wp2_with (first | ((with_reducible refine gate_callee (f := 43) rfl ?_); refine goesL_ (some 120) rfl rfl Try.func43 (by kernel_rfl) rfl #[.int .i64 (wrap64 (t453 - 1))] rfl gl ?_; (with_reducible refine (impl_memory.calls (wrap64 (t453 - 1)) t490 _ A93.out).mono ?_); rintro e w' ⟨rfl, ⟨nd, rfl⟩⟩; refine ⟨_, rfl, ?_⟩; (try (rw [drewN_self w39]; generalize hq_ : World.drewN w39 _ = w39; have n0_ : Aside0 (Kd.R k108 108 w39 w.heap.size (fun _ => True) (.slice Ao25 t436.length co25) t436) := ⟨by rw [← hq_]; exact (kR HO438)⟩; have n1_ : Aside0 (Kd.R k55 55 w39 w.heap.size (fun _ => True) (.slice Ao31 t441.length co31) t441) := ⟨by rw [← hq_]; exact (kR HO443)⟩; have n2_ : Aside0 (Kd.V k59 59 w39 w.heap.size (fun k_ => some k_ ≠ (.slice Ao25 t436.length co25 : Value).ownBlock ∧ some k_ ≠ (.slice Ao31 t441.length co31 : Value).ownBlock ∧ some k_ ≠ (u431001 : Value).ownBlock ∧ some k_ ≠ (u431002 : Value).ownBlock ∧ k_ ≠ gb429 ∧ k_ ≠ gb430 ∧ k_ ≠ gb435 ∧ k_ ≠ gb445) (.slice (some ad434) t431.length co11) t431) := ⟨by rw [← hq_]; exact (by (with_reducible repeat (first | apply Kd.V_alloc | apply Kd.V_drewN | apply Kd.V_drew)); exact Kd.V_mono HO_17.out (fun _ hk => ⟨hk.1.1.2, ⟨hk.1.2, ⟨hk.1.1.1.1.1, ⟨hk.1.1.1.1.2.1, ⟨hk.1.1.1.1.2.2.1, ⟨hk.1.1.1.1.2.2.2, ⟨hk.1.1.1.2, hk.2⟩⟩⟩⟩⟩⟩⟩))⟩; have n3_ : Aside0 (Kd.S (rk D k50) 50 w39 w.heap.size (fun k_ => some k_ ≠ (.slice Ao25 t436.length co25 : Value).ownBlock ∧ some k_ ≠ (.slice Ao31 t441.length co31 : Value).ownBlock ∧ k_ ≠ gb445) u431001 x431001_1) := ⟨by rw [← hq_]; exact (by (with_reducible repeat (first | apply Kd.S_alloc | apply Kd.S_drewN | apply Kd.S_drew)); exact Kd.S_mono HO_431001.out (fun _ hk => ⟨hk.1.1.2, ⟨hk.1.2, hk.2⟩⟩))⟩; have n4_ : Aside0 (Kd.S (rk (nD D) (Kd.slice 55 k55)) 47 w39 w.heap.size (fun k_ => some k_ ≠ (.slice Ao31 t441.length co31 : Value).ownBlock) u431002 x431002_1) := ⟨by rw [← hq_]; exact (by (with_reducible repeat (first | apply Kd.S_alloc | apply Kd.S_drewN | apply Kd.S_drew)); exact Kd.S_mono HO_431002.out (fun _ hk => hk.2))⟩; have n5_ : Aside0 (w39.heap[gb429]? = some (.cells #[.int .i64 0, .slice none 0 0, .slice none 0 0] 29 (0, 0))) := ⟨by rw [← hq_]; exact (bp BK429)⟩; have n6_ : Aside0 (w39.heap[gb430]? = some (.cells #[.int .i64 a1, u431001, u431002] 29 (0, 0))) := ⟨by rw [← hq_]; exact (bp BK430)⟩; have n7_ : Aside0 (w39.heap[gb435]? = some (.cells #[.int .i64 ((rd_T59 t431 x19_1).f0), .int .i64 ((rd_T59 t431 x19_1).f1)] 59 (0, 0))) := ⟨by rw [← hq_]; exact (bp BK435)⟩; have n8_ : Aside0 (w39.heap[gb445]? = some (.cells #[.slice Ao25 t436.length co25, .int .i64 t439, .int .i64 t440, .slice Ao31 t441.length co31, .int .i64 t444] 50 (0, 0))) := ⟨by rw [← hq_]; exact (bp BK445)⟩; have n9_ : Aside0 (w39.heap[g0_]? = some (.cells #[.slice A0_0 l0_0.length c0_0, .slice A0_1 l0_1.length c0_1] 88 (0, 0))) := ⟨by rw [← hq_]; exact (bp HP0_)⟩; have n10_ : Aside0 (Below w.heap.size w w39) := ⟨by rw [← hq_]; exact (bw HB)⟩; clear HO438 HO443 HO_17 HO_431001 HO_431002 BK429 BK430 BK435 BK445 HP0_ HB hq_; have HO438 := n0_; have HO443 := n1_; have HO_17 := n2_; have HO_431001 := n3_; have HO_431002 := n4_; have BK429 := n5_; have BK430 := n6_; have BK435 := n7_; have BK445 := n8_; have HP0_ := n9_; have HB := n10_; clear n0_ n1_ n2_ n3_ n4_ n5_ n6_ n7_ n8_ n9_ n10_))) | ((with_reducible refine gate_callee (f := 45) rfl ?_); refine goesL_ (some 121) rfl rfl Try.func45 (by kernel_rfl) rfl #[.int .i64 t490] rfl gl ?_; (with_reducible refine (impl_loc.calls t490 t491 t492 _ A94.out).mono ?_); rintro e w96 ⟨rfl, hb⟩; refine ⟨_, rfl, ?_⟩; replace HO_17 := am (Kd.V_below (kV HO_17) hb); replace HO_431001 := am (Kd.S_below (kS HO_431001) hb); replace HO_431002 := am (Kd.S_below (kS HO_431002) hb); replace HO438 := am (Kd.R_below (kR HO438) hb); replace HO443 := am (Kd.R_below (kR HO443) hb); replace HP0_ := bb HP0_ hb; replace BK429 := bb BK429 hb; replace BK430 := bb BK430 hb; replace BK435 := bb BK435 hb; replace BK445 := bb BK445 hb; replace HB := bs HB hb; clear hb) | ((with_reducible refine gate_calleeT (q := .tmp 116) rfl ?_); refine goesC_ (q := .tmp 116) (cap := #[.pointer (some ⟨gb445, 0, none⟩)]) (some 122) rfl rfl Try.func42 (by kernel_rfl) rfl rfl #[.int .i64 t453, .agg #[.int .i64 t491, .int .i64 t492]] #[.int .i64 t453, .agg #[.int .i64 t491, .int .i64 t492], .pointer (some ⟨gb445, 0, none⟩)] rfl gl (by simp only [List.append_toArray, List.cons_append, List.nil_append]) ?_; (with_reducible refine (impl_prog_plain_1.clo t453 t491 t492 t493 t496 t497 t498 t501 _ A95.out (bp BK445)).mono ?_); rintro e w'_ ⟨v494, v499, w97, rfl, ho0, ho1, hb, rfl⟩; refine ⟨_, rfl, ?_⟩; replace HO_17 := am (Kd.V_mono (Kd.V_told (Kd.V_told (Kd.V_old (kV HO_17) hb) (Kd.R_base ho0)) (Kd.R_base ho1)) (fun _ h_ => h_.1)); replace HO_431001 := am (Kd.S_mono (Kd.S_told (Kd.S_told (Kd.S_old (kS HO_431001) hb) (Kd.R_base ho0)) (Kd.R_base ho1)) (fun _ h_ => h_.1)); replace HO_431002 := am (Kd.S_elder' (kS HO_431002) (Kd.R_base ho1) hb); have HO495 := am (Kd.R_lower (Kd.R_new' ho0 (Kd.R_lt (kR HO438))) (below_size (bw HB))); replace HO438 := am (Kd.R_elder' (kR HO438) (Kd.R_base ho0) hb); have HO500 := am (Kd.R_lower (Kd.R_new' ho1 (Kd.R_lt (kR HO443))) (below_size (bw HB))); replace HO443 := am (Kd.R_elder' (kR HO443) (Kd.R_base ho1) hb); replace HP0_ := bb HP0_ hb; replace BK429 := bb BK429 hb; replace BK430 := bb BK430 hb; replace BK435 := bb BK435 hb; replace BK445 := bb BK445 hb; replace HB := bs HB hb; clear hb; (try clear ho0); (try clear ho1); obtain ⟨Ao98, co98, eo98⟩ := Kd.R_slice HO495.out; subst eo98; have hnb99 := NB445_0.out; have hnc99 := NB0_445.out; have hnb100 := NB445_429.out; have hnc100 := NB429_445.out; have hnb101 := NB445_430.out; have hnc101 := NB430_445.out; have hnb102 := NB445_435.out; have hnc102 := NB435_445.out; have hcz103_0 := bk w97 BK445 0; have hcz103_1 := bk w97 BK445 1; have hcz103_2 := bk w97 BK445 2; have hcz103_3 := bk w97 BK445 3; have hcz103_4 := bk w97 BK445 4; have hfz103_0 := bf BK445 0; have hfz103_1 := bf BK445 1; have hfz103_2 := bf BK445 2; have hfz103_3 := bf BK445 3; have hfz103_4 := bf BK445 4; obtain ⟨Ao104, co104, eo104⟩ := Kd.R_slice HO500.out; subst eo104))
     go_meet
     case rel => exact ⟨_, (t493), (t496), (t497), (t498), (t501), (.slice Ao98 t493.length co98), (.slice Ao104 t498.length co104), H', ⟨lk1 HK1⟩, ⟨by (with_reducible repeat (first | apply Kd.V_alloc | apply Kd.V_drewN | apply Kd.V_drew)); exact Kd.V_mono (Kd.V_far (p := ⟨gb445, 4, none⟩) (Kd.V_far (p := ⟨gb445, 3, none⟩) (Kd.V_far (p := ⟨gb445, 2, none⟩) (Kd.V_far (p := ⟨gb445, 1, none⟩) (Kd.V_far (p := ⟨gb445, 0, none⟩) (Kd.V_mono HO_17.out (fun k_ hk => (⟨hk, hk.1.1.2.2.2.2.2.2.2⟩ : _ ∧ k_ ≠ gb445))) (fun _ hk => hk.2) (.slice Ao98 t493.length co98)) (fun _ hk => hk.2) (.int .i64 t496)) (fun _ hk => hk.2) (.int .i64 t497)) (fun _ hk => hk.2) (.slice Ao104 t498.length co104)) (fun _ hk => hk.2) (.int .i64 t501)) (fun _ hk => ⟨hk.1.1.1.2.2.1, ⟨hk.1.1.1.2.2.2.1, ⟨hk.1.1.2, ⟨hk.1.2, ⟨hk.1.1.1.2.2.2.2.1, ⟨hk.1.1.1.2.2.2.2.2.1, ⟨hk.1.1.1.2.2.2.2.2.2.1, hk.1.1.1.2.2.2.2.2.2.2⟩⟩⟩⟩⟩⟩⟩)⟩, ⟨by (with_reducible repeat (first | apply Kd.S_alloc | apply Kd.S_drewN | apply Kd.S_drew)); exact Kd.S_mono (Kd.S_far (p := ⟨gb445, 4, none⟩) (Kd.S_far (p := ⟨gb445, 3, none⟩) (Kd.S_far (p := ⟨gb445, 2, none⟩) (Kd.S_far (p := ⟨gb445, 1, none⟩) (Kd.S_far (p := ⟨gb445, 0, none⟩) (Kd.S_mono HO_431001.out (fun k_ hk => (⟨hk, hk.1.1.2.2⟩ : _ ∧ k_ ≠ gb445))) (fun _ hk => hk.2) (.slice Ao98 t493.length co98)) (fun _ hk => hk.2) (.int .i64 t496)) (fun _ hk => hk.2) (.int .i64 t497)) (fun _ hk => hk.2) (.slice Ao104 t498.length co104)) (fun _ hk => hk.2) (.int .i64 t501)) (fun _ hk => ⟨hk.1.1.2, ⟨hk.1.2, hk.1.1.1.2.2⟩⟩)⟩, ⟨by (with_reducible repeat (first | apply Kd.S_alloc | apply Kd.S_drewN | apply Kd.S_drew)); exact Kd.S_mono (Kd.S_far (p := ⟨gb445, 4, none⟩) (Kd.S_far (p := ⟨gb445, 3, none⟩) (Kd.S_far (p := ⟨gb445, 2, none⟩) (Kd.S_far (p := ⟨gb445, 1, none⟩) (Kd.S_far (p := ⟨gb445, 0, none⟩) (Kd.S_types HO_431002.out BK445.out (rkE (by decide))) (fun _ hk => hk.2) (.slice Ao98 t493.length co98)) (fun _ hk => hk.2) (.int .i64 t496)) (fun _ hk => hk.2) (.int .i64 t497)) (fun _ hk => hk.2) (.slice Ao104 t498.length co104)) (fun _ hk => hk.2) (.int .i64 t501)) (fun _ hk => hk.1.2)⟩, ⟨by (with_reducible repeat (first | apply Kd.R_alloc | apply Kd.R_drewN | apply Kd.R_drew)); exact Kd.R_mono (Kd.R_far (p := ⟨gb445, 4, none⟩) (Kd.R_far (p := ⟨gb445, 3, none⟩) (Kd.R_far (p := ⟨gb445, 2, none⟩) (Kd.R_far (p := ⟨gb445, 1, none⟩) (Kd.R_far (p := ⟨gb445, 0, none⟩) (Kd.R_types HO495.out BK445.out (by decide)) (fun _ hk => hk.2) (.slice Ao98 t493.length co98)) (fun _ hk => hk.2) (.int .i64 t496)) (fun _ hk => hk.2) (.int .i64 t497)) (fun _ hk => hk.2) (.slice Ao104 t498.length co104)) (fun _ hk => hk.2) (.int .i64 t501)) (fun _ hk => trivial)⟩, ⟨by (with_reducible repeat (first | apply Kd.R_alloc | apply Kd.R_drewN | apply Kd.R_drew)); exact Kd.R_mono (Kd.R_far (p := ⟨gb445, 4, none⟩) (Kd.R_far (p := ⟨gb445, 3, none⟩) (Kd.R_far (p := ⟨gb445, 2, none⟩) (Kd.R_far (p := ⟨gb445, 1, none⟩) (Kd.R_far (p := ⟨gb445, 0, none⟩) (Kd.R_types HO500.out BK445.out (by decide)) (fun _ hk => hk.2) (.slice Ao98 t493.length co98)) (fun _ hk => hk.2) (.int .i64 t496)) (fun _ hk => hk.2) (.int .i64 t497)) (fun _ hk => hk.2) (.slice Ao104 t498.length co104)) (fun _ hk => hk.2) (.int .i64 t501)) (fun _ hk => trivial)⟩, ⟨by (with_reducible repeat (first | apply dN | apply dW | apply dA)); refine blk_far ?_ NB0_445.out _; (with_reducible repeat (first | apply dN | apply dW | apply dA)); refine blk_far ?_ NB0_445.out _; (with_reducible repeat (first | apply dN | apply dW | apply dA)); refine blk_far ?_ NB0_445.out _; (with_reducible repeat (first | apply dN | apply dW | apply dA)); refine blk_far ?_ NB0_445.out _; (with_reducible repeat (first | apply dN | apply dW | apply dA)); refine blk_far ?_ NB0_445.out _; exact bp HP0_⟩, ⟨by (with_reducible repeat (first | apply dN | apply dW | apply dA)); refine blk_far ?_ NB429_445.out _; (with_reducible repeat (first | apply dN | apply dW | apply dA)); refine blk_far ?_ NB429_445.out _; (with_reducible repeat (first | apply dN | apply dW | apply dA)); refine blk_far ?_ NB429_445.out _; (with_reducible repeat (first | apply dN | apply dW | apply dA)); refine blk_far ?_ NB429_445.out _; (with_reducible repeat (first | apply dN | apply dW | apply dA)); refine blk_far ?_ NB429_445.out _; exact bp BK429⟩, ⟨by (with_reducible repeat (first | apply dN | apply dW | apply dA)); refine blk_far ?_ NB430_445.out _; (with_reducible repeat (first | apply dN | apply dW | apply dA)); refine blk_far ?_ NB430_445.out _; (with_reducible repeat (first | apply dN | apply dW | apply dA)); refine blk_far ?_ NB430_445.out _; (with_reducible repeat (first | apply dN | apply dW | apply dA)); refine blk_far ?_ NB430_445.out _; (with_reducible repeat (first | apply dN | apply dW | apply dA)); refine blk_far ?_ NB430_445.out _; exact bp BK430⟩, ⟨by (with_reducible repeat (first | apply dN | apply dW | apply dA)); refine blk_far ?_ NB435_445.out _; (with_reducible repeat (first | apply dN | apply dW | apply dA)); refine blk_far ?_ NB435_445.out _; (with_reducible repeat (first | apply dN | apply dW | apply dA)); refine blk_far ?_ NB435_445.out _; (with_reducible repeat (first | apply dN | apply dW | apply dA)); refine blk_far ?_ NB435_445.out _; (with_reducible repeat (first | apply dN | apply dW | apply dA)); refine blk_far ?_ NB435_445.out _; exact bp BK435⟩, ⟨by (with_reducible repeat (first | apply dN | apply dW | apply dA)); refine blk_put (cs := #[.slice Ao98 t493.length co98, .int .i64 t496, .int .i64 t497, .slice Ao104 t498.length co104, .int .i64 t444]) ?_ 4 _ rfl; (with_reducible repeat (first | apply dN | apply dW | apply dA)); refine blk_put (cs := #[.slice Ao98 t493.length co98, .int .i64 t496, .int .i64 t497, .slice Ao31 t441.length co31, .int .i64 t444]) ?_ 3 _ rfl; (with_reducible repeat (first | apply dN | apply dW | apply dA)); refine blk_put (cs := #[.slice Ao98 t493.length co98, .int .i64 t496, .int .i64 t440, .slice Ao31 t441.length co31, .int .i64 t444]) ?_ 2 _ rfl; (with_reducible repeat (first | apply dN | apply dW | apply dA)); refine blk_put (cs := #[.slice Ao98 t493.length co98, .int .i64 t439, .int .i64 t440, .slice Ao31 t441.length co31, .int .i64 t444]) ?_ 1 _ rfl; (with_reducible repeat (first | apply dN | apply dW | apply dA)); refine blk_put (cs := #[.slice Ao25 t436.length co25, .int .i64 t439, .int .i64 t440, .slice Ao31 t441.length co31, .int .i64 t444]) ?_ 0 _ rfl; exact bp BK445⟩, ⟨bw HB⟩⟩
    intro c92 c92b0 c92b1 H
    refine qE H ?_ ?_ <;> clear H
    ·intro c105b0 c105b1 H
     have H' := am H
     clear H
     go_wp2
     go_meet
     case rel => exact ⟨_, (t436), (t439), (t440), (t441), (t444), (.slice Ao25 t436.length co25), (.slice Ao31 t441.length co31), H', ⟨lk1 HK1⟩, ⟨by (with_reducible repeat (first | apply Kd.V_alloc | apply Kd.V_drewN | apply Kd.V_drew)); exact Kd.V_mono HO_17.out (fun _ hk => ⟨hk.1.1.1.1.1, ⟨hk.1.1.1.1.2.1, ⟨hk.1.1.2, ⟨hk.1.2, ⟨hk.1.1.1.1.2.2.1, ⟨hk.1.1.1.1.2.2.2, ⟨hk.1.1.1.2, hk.2⟩⟩⟩⟩⟩⟩⟩)⟩, ⟨by (with_reducible repeat (first | apply Kd.S_alloc | apply Kd.S_drewN | apply Kd.S_drew)); exact Kd.S_mono HO_431001.out (fun _ hk => ⟨hk.1.1.2, ⟨hk.1.2, hk.2⟩⟩)⟩, ⟨by (with_reducible repeat (first | apply Kd.S_alloc | apply Kd.S_drewN | apply Kd.S_drew)); exact Kd.S_mono HO_431002.out (fun _ hk => hk.2)⟩, ⟨kR HO438⟩, ⟨kR HO443⟩, ⟨bp HP0_⟩, ⟨bp BK429⟩, ⟨bp BK430⟩, ⟨bp BK435⟩, ⟨bp BK445⟩, ⟨bw HB⟩⟩
    intro c105 c105b0 c105b1 H
    refine be H ?_; clear H; intro t502 A106 H
    refine be H ?_; clear H; intro t505 A107 H
    have HC108 := am H
    clear H
    try go_wp2
    replace HO_17 := am (Kd.V_drew HO_17.out)
    replace HO_431001 := am (Kd.S_drew HO_431001.out)
    replace HO_431002 := am (Kd.S_drew HO_431002.out)
    replace HO438 := am (Kd.R_drew HO438.out)
    replace HO443 := am (Kd.R_drew HO443.out)
    replace HP0_ := am (blk_drew HP0_.out)
    replace BK429 := am (blk_drew BK429.out)
    replace BK430 := am (blk_drew BK430.out)
    replace BK435 := am (blk_drew BK435.out)
    replace BK445 := am (blk_drew BK445.out)
    replace HB := am (below_drew1 HB.out)
    refine start_ (n := 9) (S := fun w' => w'.cell? ⟨gb435, 0, none⟩ = some (.int .i64 ((rd_T59 t431 x19_1).f0)) ∧ w'.cell? ⟨gb435, 1, none⟩ = some (.int .i64 ((rd_T59 t431 x19_1).f1))) (ds := []) (bv 9 0) (by kernel_rfl) rfl (by kernel_rfl) ⟨bc BK435 0, bc BK435 1⟩ (fun hHeld => ?_); refine with_tabW impl_prog_plain.tab13 impl_prog_plain.bits13 (fun HT_ HW_ => ?_)
    generalize w39.drew = w109 at HO_17 HO_431001 HO_431002 HO438 HO443 HP0_ BK429 BK430 BK435 BK445 HB hHeld ⊢
    refine pu 0 55 9 1 HT_ ?_
    refine pu 2 57 9 5 HT_ ?_
    refine pu 3 58 9 13 HT_ ?_
    refine pu 4 59 9 29 HT_ ?_
    refine pu 5 60 9 61 HT_ ?_
    refine tk 1 56 9 63 HT_ HW_ hHeld ?_
    refine on 6 (some 61) 9 127 HT_ fun K hK => ?_
    refine goes_ Try.func46 (by kernel_rfl) rfl #[.int .i64 (wrap64 (t453 - t454)), .int .i64 t454] (by rfl) rfl rfl gl ?_
    with_reducible refine (impl_memories.calls k1 (wrap64 (t453 - t454)) t454 t502 _ A106.out).mono ?_
    rintro e w110 ⟨v503, rfl, ho0, hb⟩
    refine ⟨_, rfl, ?_⟩
    have n0_ := am (Kd.V_elder' (kV HO_17) (Kd.R_base ho0) hb)
    have n1_ := am (Kd.S_elder' (kS HO_431001) (Kd.R_base ho0) hb)
    have n2_ := am (Kd.S_elder' (kS HO_431002) (Kd.R_base ho0) hb)
    have n3_ := am (Kd.R_below (kR HO438) hb)
    have n4_ := am (Kd.R_elder' (kR HO443) (Kd.R_base ho0) hb)
    have n5_ := am (Kd.R_lower (Kd.R_new' ho0 (Kd.R_lt (kR HO443))) (below_size (bw HB)))
    have n6_ := bb HP0_ hb
    have n7_ := bb BK429 hb
    have n8_ := bb BK430 hb
    have n9_ := bb BK435 hb
    have n10_ := bb BK445 hb
    have n11_ := am (below_step (bw HB) hb)
    clear HO_17
    clear HO_431001
    clear HO_431002
    clear HO438
    clear HO443
    clear HP0_
    clear BK429
    clear BK430
    clear BK435
    clear BK445
    clear HB
    have HO_17 := n0_
    have HO_431001 := n1_
    have HO_431002 := n2_
    have HO438 := n3_
    have HO443 := n4_
    have HO504 := n5_
    have HP0_ := n6_
    have BK429 := n7_
    have BK430 := n8_
    have BK435 := n9_
    have BK445 := n10_
    have HB := n11_
    clear n0_ n1_ n2_ n3_ n4_ n5_ n6_ n7_ n8_ n9_ n10_ n11_
    clear hb
    (try clear ho0)
    obtain ⟨Ao111, co111, eo111⟩ := Kd.R_slice HO504.out
    (first | subst eo111 | (injection eo111 with f1_ f2_ f3_; have f4_ := f1_.symm; have f5_ := f3_.symm; clear f1_ f2_ f3_; subst f4_; subst f5_))
    refine hK.out _ _ ⟨bc BK435 0, bc BK435 1⟩ (fun hHeld => ?_)
    clear hK K
    refine nm (some 61) ?_
    refine pu 7 62 9 255 HT_ ?_
    refine on 8 none 9 511 HT_ fun K hK => ?_
    have hs112 := bk w110 BK445 0
    have hfs112 := bf BK445 0
    have hns112_0 := NB0_445.out
    have hns112_1 := NB429_445.out
    have hns112_2 := NB430_445.out
    have hns112_3 := NB435_445.out
    have hms112_0 := NB445_0.out
    have hms112_1 := NB445_429.out
    have hms112_2 := NB445_430.out
    have hms112_3 := NB445_435.out
    have hs113 := bk w110 BK445 1
    have hfs113 := bf BK445 1
    have hns113_0 := NB0_445.out
    have hns113_1 := NB429_445.out
    have hns113_2 := NB430_445.out
    have hns113_3 := NB435_445.out
    have hms113_0 := NB445_0.out
    have hms113_1 := NB445_429.out
    have hms113_2 := NB445_430.out
    have hms113_3 := NB445_435.out
    have hs114 := bk w110 BK445 2
    have hfs114 := bf BK445 2
    have hns114_0 := NB0_445.out
    have hns114_1 := NB429_445.out
    have hns114_2 := NB430_445.out
    have hns114_3 := NB435_445.out
    have hms114_0 := NB445_0.out
    have hms114_1 := NB445_429.out
    have hms114_2 := NB445_430.out
    have hms114_3 := NB445_435.out
    have hs115 := bk w110 BK445 3
    have hfs115 := bf BK445 3
    have hns115_0 := NB0_445.out
    have hns115_1 := NB429_445.out
    have hns115_2 := NB430_445.out
    have hns115_3 := NB435_445.out
    have hms115_0 := NB445_0.out
    have hms115_1 := NB445_429.out
    have hms115_2 := NB445_430.out
    have hms115_3 := NB445_435.out
    have hs116 := bk w110 BK445 4
    have hfs116 := bf BK445 4
    have hns116_0 := NB0_445.out
    have hns116_1 := NB429_445.out
    have hns116_2 := NB430_445.out
    have hns116_3 := NB435_445.out
    have hms116_0 := NB445_0.out
    have hms116_1 := NB445_429.out
    have hms116_2 := NB445_430.out
    have hms116_3 := NB445_435.out
    refine skip_ (w1 := ?_) (by rfl) rfl ?_ ?_
    rotate_left
    ·go_simp
     rfl
    refine hK.out _ _ ⟨((cell_far (p := ⟨gb445, _, none⟩) NB435_445.out _).trans (((cell_far (p := ⟨gb445, _, none⟩) NB435_445.out _).trans (((cell_far (p := ⟨gb445, _, none⟩) NB435_445.out _).trans (((cell_far (p := ⟨gb445, _, none⟩) NB435_445.out _).trans (((cell_far (p := ⟨gb445, _, none⟩) NB435_445.out _).trans (hHeld.1)))))))))), ((cell_far (p := ⟨gb445, _, none⟩) NB435_445.out _).trans (((cell_far (p := ⟨gb445, _, none⟩) NB435_445.out _).trans (((cell_far (p := ⟨gb445, _, none⟩) NB435_445.out _).trans (((cell_far (p := ⟨gb445, _, none⟩) NB435_445.out _).trans (((cell_far (p := ⟨gb445, _, none⟩) NB435_445.out _).trans (hHeld.2))))))))))⟩ (fun hHeld => ?_)
    clear hK K
    refine done_ (done_of HT_.out (by kernel_rfl)) ?_
    have hnb117 := NB435_0.out
    have hnc117 := NB0_435.out
    have hnb118 := NB435_429.out
    have hnc118 := NB429_435.out
    have hnb119 := NB435_430.out
    have hnc119 := NB430_435.out
    have hnb120 := NB435_445.out
    have hnc120 := NB445_435.out
    have hcz121 := bK w110 BK435
    have hfz121 := bF BK435
    go_upto_if 65 with (first | ((with_reducible refine gate_callee (f := 47) rfl ?_); refine goesL_ (some 64) rfl rfl Try.func47 (by kernel_rfl) rfl #[.agg #[.int .i64 ((rd_T59 t431 x19_1).f0), .int .i64 ((rd_T59 t431 x19_1).f1)]] rfl gl ?_; (with_reducible refine (impl_Puts.calls k1 ((rd_T59 t431 x19_1).f0) ((rd_T59 t431 x19_1).f1) t505 _ A107.out).mono ?_); rintro e w122 ⟨rfl, hb⟩; refine ⟨_, rfl, ?_⟩; replace HO_17 := am (Kd.V_below (by (with_reducible repeat (first | apply Kd.V_alloc | apply Kd.V_drewN | apply Kd.V_drew)); exact (Kd.V_mono (Kd.V_far (p := ⟨gb445, 4, none⟩) (Kd.V_far (p := ⟨gb445, 3, none⟩) (Kd.V_far (p := ⟨gb445, 2, none⟩) (Kd.V_far (p := ⟨gb445, 1, none⟩) (Kd.V_far (p := ⟨gb445, 0, none⟩) (Kd.V_mono HO_17.out (fun k_ hk => (⟨hk, hk.1.2⟩ : _ ∧ k_ ≠ gb445))) (fun _ hk => hk.2) (.slice none 0 0)) (fun _ hk => hk.2) (.int .i64 ((rd_T59 t431 x19_1).f0))) (fun _ hk => hk.2) (.int .i64 (-1))) (fun _ hk => hk.2) (.slice Ao111 t502.length co111)) (fun _ hk => hk.2) (.int .i64 0)) (fun _ h_ => h_.1))) hb); replace HO_431001 := am (Kd.S_below (by (with_reducible repeat (first | apply Kd.S_alloc | apply Kd.S_drewN | apply Kd.S_drew)); exact (Kd.S_mono (Kd.S_far (p := ⟨gb445, 4, none⟩) (Kd.S_far (p := ⟨gb445, 3, none⟩) (Kd.S_far (p := ⟨gb445, 2, none⟩) (Kd.S_far (p := ⟨gb445, 1, none⟩) (Kd.S_far (p := ⟨gb445, 0, none⟩) (Kd.S_mono HO_431001.out (fun k_ hk => (⟨hk, hk.1.2⟩ : _ ∧ k_ ≠ gb445))) (fun _ hk => hk.2) (.slice none 0 0)) (fun _ hk => hk.2) (.int .i64 ((rd_T59 t431 x19_1).f0))) (fun _ hk => hk.2) (.int .i64 (-1))) (fun _ hk => hk.2) (.slice Ao111 t502.length co111)) (fun _ hk => hk.2) (.int .i64 0)) (fun _ h_ => h_.1))) hb); replace HO_431002 := am (Kd.S_below (by (with_reducible repeat (first | apply Kd.S_alloc | apply Kd.S_drewN | apply Kd.S_drew)); exact (Kd.S_mono (Kd.S_far (p := ⟨gb445, 4, none⟩) (Kd.S_far (p := ⟨gb445, 3, none⟩) (Kd.S_far (p := ⟨gb445, 2, none⟩) (Kd.S_far (p := ⟨gb445, 1, none⟩) (Kd.S_far (p := ⟨gb445, 0, none⟩) (Kd.S_types HO_431002.out BK445.out (rkE (by decide))) (fun _ hk => hk.2) (.slice none 0 0)) (fun _ hk => hk.2) (.int .i64 ((rd_T59 t431 x19_1).f0))) (fun _ hk => hk.2) (.int .i64 (-1))) (fun _ hk => hk.2) (.slice Ao111 t502.length co111)) (fun _ hk => hk.2) (.int .i64 0)) (fun _ h_ => h_.1))) hb); replace HO438 := am (Kd.R_below (by (with_reducible repeat (first | apply Kd.R_alloc | apply Kd.R_drewN | apply Kd.R_drew)); exact (Kd.R_mono (Kd.R_far (p := ⟨gb445, 4, none⟩) (Kd.R_far (p := ⟨gb445, 3, none⟩) (Kd.R_far (p := ⟨gb445, 2, none⟩) (Kd.R_far (p := ⟨gb445, 1, none⟩) (Kd.R_far (p := ⟨gb445, 0, none⟩) (Kd.R_types HO438.out BK445.out (by decide)) (fun _ hk => hk.2) (.slice none 0 0)) (fun _ hk => hk.2) (.int .i64 ((rd_T59 t431 x19_1).f0))) (fun _ hk => hk.2) (.int .i64 (-1))) (fun _ hk => hk.2) (.slice Ao111 t502.length co111)) (fun _ hk => hk.2) (.int .i64 0)) (fun _ h_ => h_.1))) hb); replace HO443 := am (Kd.R_below (by (with_reducible repeat (first | apply Kd.R_alloc | apply Kd.R_drewN | apply Kd.R_drew)); exact (Kd.R_mono (Kd.R_far (p := ⟨gb445, 4, none⟩) (Kd.R_far (p := ⟨gb445, 3, none⟩) (Kd.R_far (p := ⟨gb445, 2, none⟩) (Kd.R_far (p := ⟨gb445, 1, none⟩) (Kd.R_far (p := ⟨gb445, 0, none⟩) (Kd.R_types HO443.out BK445.out (by decide)) (fun _ hk => hk.2) (.slice none 0 0)) (fun _ hk => hk.2) (.int .i64 ((rd_T59 t431 x19_1).f0))) (fun _ hk => hk.2) (.int .i64 (-1))) (fun _ hk => hk.2) (.slice Ao111 t502.length co111)) (fun _ hk => hk.2) (.int .i64 0)) (fun _ h_ => h_.1))) hb); replace HO504 := am (Kd.R_below (by (with_reducible repeat (first | apply Kd.R_alloc | apply Kd.R_drewN | apply Kd.R_drew)); exact (Kd.R_mono (Kd.R_far (p := ⟨gb445, 4, none⟩) (Kd.R_far (p := ⟨gb445, 3, none⟩) (Kd.R_far (p := ⟨gb445, 2, none⟩) (Kd.R_far (p := ⟨gb445, 1, none⟩) (Kd.R_far (p := ⟨gb445, 0, none⟩) (Kd.R_types HO504.out BK445.out (by decide)) (fun _ hk => hk.2) (.slice none 0 0)) (fun _ hk => hk.2) (.int .i64 ((rd_T59 t431 x19_1).f0))) (fun _ hk => hk.2) (.int .i64 (-1))) (fun _ hk => hk.2) (.slice Ao111 t502.length co111)) (fun _ hk => hk.2) (.int .i64 0)) (fun _ h_ => h_.1))) hb); replace HP0_ := bb2 HP0_ hb; replace BK429 := bb2 BK429 hb; replace BK430 := bb2 BK430 hb; replace BK435 := bb2 BK435 hb; replace BK445 := bo #[.slice none 0 0, .int .i64 ((rd_T59 t431 x19_1).f0), .int .i64 (-1), .slice Ao111 t502.length co111, .int .i64 0] BK445 hb; replace HB := bs HB hb; clear hb))
    (try simp only [Act.put, sa, sz, ss])
    go_cut [] (fun wc => ∃ (kq : Nat) (x446002_107 : Int), Aside0 (impl_prog_plain.j1 kq a1 t453 t431 (t431.length : Int) x19_1 l0_0 l0_1 a1 x431001_1 x431002_1 ((rd_T59 t431 x19_1).f0) ((rd_T59 t431 x19_1).f1) ((rd_T59 t431 x19_1).f0) x446002_107 t502 0 = some (r1, r2, r3)) ∧ Aside0 (kq ≤ k1) ∧ Aside0 (Kd.V k59 59 wc w.heap.size (fun k_ => some k_ ≠ (u431001 : Value).ownBlock ∧ some k_ ≠ (u431002 : Value).ownBlock ∧ some k_ ≠ ((.slice Ao111 t502.length co111) : Value).ownBlock ∧ k_ ≠ gb429 ∧ k_ ≠ gb430 ∧ k_ ≠ gb435 ∧ k_ ≠ gb445) (.slice (some ad434) t431.length co11) t431) ∧ Aside0 (Kd.S (rk D k50) 50 wc w.heap.size (fun k_ => some k_ ≠ ((.slice Ao111 t502.length co111) : Value).ownBlock ∧ k_ ≠ gb445) u431001 x431001_1) ∧ Aside0 (Kd.S (rk (nD D) (Kd.slice 55 k55)) 47 wc w.heap.size (fun k_ => some k_ ≠ ((.slice Ao111 t502.length co111) : Value).ownBlock) u431002 x431002_1) ∧ Aside0 (Kd.R k55 55 wc w.heap.size (fun _ => True) (.slice Ao111 t502.length co111) t502) ∧ Aside0 (wc.heap[g0_]? = some (.cells #[(.slice A0_0 l0_0.length c0_0), (.slice A0_1 l0_1.length c0_1)] 88 (0, 0))) ∧ Aside0 (wc.heap[gb429]? = some (.cells #[.int .i64 0, (.slice none 0 0), (.slice none 0 0)] 29 (0, 0))) ∧ Aside0 (wc.heap[gb430]? = some (.cells #[.int .i64 a1, u431001, u431002] 29 (0, 0))) ∧ Aside0 (wc.heap[gb435]? = some (.cells #[.int .i64 ((rd_T59 t431 x19_1).f0), .int .i64 ((rd_T59 t431 x19_1).f1)] 59 (0, 0))) ∧ Aside0 (wc.heap[gb445]? = some (.cells #[(.slice none 0 0), .int .i64 ((rd_T59 t431 x19_1).f0), .int .i64 x446002_107, (.slice Ao111 t502.length co111), .int .i64 0] 50 (0, 0))) ∧ Aside0 (Below w.heap.size w wc))
    case first =>
     have H := HC108.out
     clear HC108
     refine qG H ?_ ?_ <;> clear H <;> intro c123b0 H
     ·(first | rw [c123b0] | (simp only [i64_w, i32_w]; rw [c123b0]) | skip)
      refine be H ?_; clear H; intro t506 A124 H
      have H' := am H
      clear H
      go_wp2_with (first | ((with_reducible refine gate_callee (f := 43) rfl ?_); refine goesL_ (some 69) rfl rfl Try.func43 (by kernel_rfl) rfl #[.int .i64 (wrap64 (t453 - t454))] rfl gl ?_; (with_reducible refine (impl_memory.calls (wrap64 (t453 - t454)) t506 _ A124.out).mono ?_); rintro e w' ⟨rfl, ⟨nd, rfl⟩⟩; refine ⟨_, rfl, ?_⟩; (try (rw [drewN_self w122]; generalize hq_ : World.drewN w122 _ = w122; have n0_ : Aside0 (Kd.R k108 108 w122 w.heap.size (fun _ => True) (.slice Ao25 t436.length co25) t436) := ⟨by rw [← hq_]; exact (kR HO438)⟩; have n1_ : Aside0 (Kd.R k55 55 w122 w.heap.size (fun k_ => some k_ ≠ (.slice Ao111 t502.length co111 : Value).ownBlock) (.slice Ao31 t441.length co31) t441) := ⟨by rw [← hq_]; exact (by (with_reducible repeat (first | apply Kd.R_alloc | apply Kd.R_drewN | apply Kd.R_drew)); exact Kd.R_mono HO443.out (fun _ hk => hk.2))⟩; have n2_ : Aside0 (Kd.R k55 55 w122 w.heap.size (fun k_ => some k_ ≠ (.slice Ao31 t441.length co31 : Value).ownBlock) (.slice Ao111 t502.length co111) t502) := ⟨by rw [← hq_]; exact (by (with_reducible repeat (first | apply Kd.R_alloc | apply Kd.R_drewN | apply Kd.R_drew)); exact Kd.R_mono HO504.out (fun _ hk => hk.2))⟩; have n3_ : Aside0 (Kd.V k59 59 w122 w.heap.size (fun k_ => some k_ ≠ (.slice Ao25 t436.length co25 : Value).ownBlock ∧ some k_ ≠ (.slice Ao31 t441.length co31 : Value).ownBlock ∧ some k_ ≠ (.slice Ao111 t502.length co111 : Value).ownBlock ∧ some k_ ≠ (u431001 : Value).ownBlock ∧ some k_ ≠ (u431002 : Value).ownBlock ∧ k_ ≠ gb429 ∧ k_ ≠ gb430 ∧ k_ ≠ gb435 ∧ k_ ≠ gb445) (.slice (some ad434) t431.length co11) t431) := ⟨by rw [← hq_]; exact (by (with_reducible repeat (first | apply Kd.V_alloc | apply Kd.V_drewN | apply Kd.V_drew)); exact Kd.V_mono HO_17.out (fun _ hk => ⟨hk.1.1.1.2, ⟨hk.1.1.2, ⟨hk.2, ⟨hk.1.1.1.1.1.1, ⟨hk.1.1.1.1.1.2.1, ⟨hk.1.1.1.1.1.2.2.1, ⟨hk.1.1.1.1.1.2.2.2, ⟨hk.1.1.1.1.2, hk.1.2⟩⟩⟩⟩⟩⟩⟩⟩))⟩; have n4_ : Aside0 (Kd.S (rk D k50) 50 w122 w.heap.size (fun k_ => some k_ ≠ (.slice Ao25 t436.length co25 : Value).ownBlock ∧ some k_ ≠ (.slice Ao31 t441.length co31 : Value).ownBlock ∧ some k_ ≠ (.slice Ao111 t502.length co111 : Value).ownBlock ∧ k_ ≠ gb445) u431001 x431001_1) := ⟨by rw [← hq_]; exact (by (with_reducible repeat (first | apply Kd.S_alloc | apply Kd.S_drewN | apply Kd.S_drew)); exact Kd.S_mono HO_431001.out (fun _ hk => ⟨hk.1.1.1.2, ⟨hk.1.1.2, ⟨hk.2, hk.1.2⟩⟩⟩))⟩; have n5_ : Aside0 (Kd.S (rk (nD D) (Kd.slice 55 k55)) 47 w122 w.heap.size (fun k_ => some k_ ≠ (.slice Ao31 t441.length co31 : Value).ownBlock ∧ some k_ ≠ (.slice Ao111 t502.length co111 : Value).ownBlock) u431002 x431002_1) := ⟨by rw [← hq_]; exact (by (with_reducible repeat (first | apply Kd.S_alloc | apply Kd.S_drewN | apply Kd.S_drew)); exact Kd.S_mono HO_431002.out (fun _ hk => ⟨hk.1.2, hk.2⟩))⟩; have n6_ : Aside0 (w122.heap[gb429]? = some (.cells #[.int .i64 0, .slice none 0 0, .slice none 0 0] 29 (0, 0))) := ⟨by rw [← hq_]; exact (bp BK429)⟩; have n7_ : Aside0 (w122.heap[gb430]? = some (.cells #[.int .i64 a1, u431001, u431002] 29 (0, 0))) := ⟨by rw [← hq_]; exact (bp BK430)⟩; have n8_ : Aside0 (w122.heap[gb435]? = some (.cells #[.int .i64 ((rd_T59 t431 x19_1).f0), .int .i64 ((rd_T59 t431 x19_1).f1)] 59 (0, 0))) := ⟨by rw [← hq_]; exact (bp BK435)⟩; have n9_ : Aside0 (w122.heap[gb445]? = some (.cells #[.slice none 0 0, .int .i64 ((rd_T59 t431 x19_1).f0), .int .i64 (-1), .slice Ao111 t502.length co111, .int .i64 0] 50 (0, 0))) := ⟨by rw [← hq_]; exact (bp BK445)⟩; have n10_ : Aside0 (w122.heap[g0_]? = some (.cells #[.slice A0_0 l0_0.length c0_0, .slice A0_1 l0_1.length c0_1] 88 (0, 0))) := ⟨by rw [← hq_]; exact (bp HP0_)⟩; have n11_ : Aside0 (Below w.heap.size w w122) := ⟨by rw [← hq_]; exact (bw HB)⟩; clear HO438 HO443 HO504 HO_17 HO_431001 HO_431002 BK429 BK430 BK435 BK445 HP0_ HB hq_; have HO438 := n0_; have HO443 := n1_; have HO504 := n2_; have HO_17 := n3_; have HO_431001 := n4_; have HO_431002 := n5_; have BK429 := n6_; have BK430 := n7_; have BK435 := n8_; have BK445 := n9_; have HP0_ := n10_; have HB := n11_; clear n0_ n1_ n2_ n3_ n4_ n5_ n6_ n7_ n8_ n9_ n10_ n11_)); have hnb125 := NB445_0.out; have hnc125 := NB0_445.out; have hnb126 := NB445_429.out; have hnc126 := NB429_445.out; have hnb127 := NB445_430.out; have hnc127 := NB430_445.out; have hnb128 := NB445_435.out; have hnc128 := NB435_445.out; have hcz129_0 := bk w122 BK445 0; have hcz129_1 := bk w122 BK445 1; have hcz129_2 := bk w122 BK445 2; have hcz129_3 := bk w122 BK445 3; have hcz129_4 := bk w122 BK445 4; have hfz129_0 := bf BK445 0; have hfz129_1 := bf BK445 1; have hfz129_2 := bf BK445 2; have hfz129_3 := bf BK445 3; have hfz129_4 := bf BK445 4))
      go_meet
      case rel => exact ⟨_, (t506), H', ⟨lk1 HK1⟩, ⟨by (with_reducible repeat (first | apply Kd.V_alloc | apply Kd.V_drewN | apply Kd.V_drew)); exact Kd.V_mono (Kd.V_far (p := ⟨gb445, 2, none⟩) (Kd.V_mono HO_17.out (fun k_ hk => (⟨hk, hk.2.2.2.2.2.2.2.2⟩ : _ ∧ k_ ≠ gb445))) (fun _ hk => hk.2) (.int .i64 t506)) (fun _ hk => ⟨hk.1.2.2.2.1, ⟨hk.1.2.2.2.2.1, ⟨hk.1.2.2.1, ⟨hk.1.2.2.2.2.2.1, ⟨hk.1.2.2.2.2.2.2.1, ⟨hk.1.2.2.2.2.2.2.2.1, hk.1.2.2.2.2.2.2.2.2⟩⟩⟩⟩⟩⟩)⟩, ⟨by (with_reducible repeat (first | apply Kd.S_alloc | apply Kd.S_drewN | apply Kd.S_drew)); exact Kd.S_mono (Kd.S_far (p := ⟨gb445, 2, none⟩) (Kd.S_mono HO_431001.out (fun k_ hk => (⟨hk, hk.2.2.2⟩ : _ ∧ k_ ≠ gb445))) (fun _ hk => hk.2) (.int .i64 t506)) (fun _ hk => ⟨hk.1.2.2.1, hk.1.2.2.2⟩)⟩, ⟨by (with_reducible repeat (first | apply Kd.S_alloc | apply Kd.S_drewN | apply Kd.S_drew)); exact Kd.S_mono (Kd.S_far (p := ⟨gb445, 2, none⟩) (Kd.S_types HO_431002.out BK445.out (rkE (by decide))) (fun _ hk => hk.2) (.int .i64 t506)) (fun _ hk => hk.1.2)⟩, ⟨by (with_reducible repeat (first | apply Kd.R_alloc | apply Kd.R_drewN | apply Kd.R_drew)); exact Kd.R_mono (Kd.R_far (p := ⟨gb445, 2, none⟩) (Kd.R_types HO504.out BK445.out (by decide)) (fun _ hk => hk.2) (.int .i64 t506)) (fun _ hk => trivial)⟩, ⟨by (with_reducible repeat (first | apply dN | apply dW | apply dA)); refine blk_far ?_ NB0_445.out _; exact bp HP0_⟩, ⟨by (with_reducible repeat (first | apply dN | apply dW | apply dA)); refine blk_far ?_ NB429_445.out _; exact bp BK429⟩, ⟨by (with_reducible repeat (first | apply dN | apply dW | apply dA)); refine blk_far ?_ NB430_445.out _; exact bp BK430⟩, ⟨by (with_reducible repeat (first | apply dN | apply dW | apply dA)); refine blk_far ?_ NB435_445.out _; exact bp BK435⟩, ⟨by (with_reducible repeat (first | apply dN | apply dW | apply dA)); refine blk_put (cs := #[.slice none 0 0, .int .i64 ((rd_T59 t431 x19_1).f0), .int .i64 (-1), .slice Ao111 t502.length co111, .int .i64 0]) ?_ 2 _ rfl; exact bp BK445⟩, ⟨bw HB⟩⟩
     (first | rw [c123b0] | (simp only [i64_w, i32_w]; rw [c123b0]) | skip)
     have H' := am H
     clear H
     go_wp2
     go_meet
     case rel => exact ⟨_, ((-1)), H', ⟨lk1 HK1⟩, ⟨by (with_reducible repeat (first | apply Kd.V_alloc | apply Kd.V_drewN | apply Kd.V_drew)); exact Kd.V_mono HO_17.out (fun _ hk => ⟨hk.1.1.1.1.1.1, ⟨hk.1.1.1.1.1.2.1, ⟨hk.2, ⟨hk.1.1.1.1.1.2.2.1, ⟨hk.1.1.1.1.1.2.2.2, ⟨hk.1.1.1.1.2, hk.1.2⟩⟩⟩⟩⟩⟩)⟩, ⟨by (with_reducible repeat (first | apply Kd.S_alloc | apply Kd.S_drewN | apply Kd.S_drew)); exact Kd.S_mono HO_431001.out (fun _ hk => ⟨hk.2, hk.1.2⟩)⟩, ⟨by (with_reducible repeat (first | apply Kd.S_alloc | apply Kd.S_drewN | apply Kd.S_drew)); exact Kd.S_mono HO_431002.out (fun _ hk => hk.2)⟩, ⟨by (with_reducible repeat (first | apply Kd.R_alloc | apply Kd.R_drewN | apply Kd.R_drew)); exact Kd.R_mono HO504.out (fun _ hk => trivial)⟩, ⟨bp HP0_⟩, ⟨bp BK429⟩, ⟨bp BK430⟩, ⟨bp BK435⟩, ⟨bp BK445⟩, ⟨bw HB⟩⟩
    clear HC108
    (try clear c1); (try clear c4); (try clear c5); (try clear p6); (try clear c9); (try clear c10); (try clear c11); (try clear c12); (try clear c42); (try clear c43); (try clear c44); (try clear c45); (try clear c45b0); (try clear c45b1); (try clear c46); (try clear c47); (try clear c48); (try clear c49); (try clear c50); (try clear c51); (try clear c56); (try clear c57); (try clear c58); (try clear c61); (try clear c61b0); (try clear c61b1); (try clear p64); (try clear c65); (try clear c66); (try clear c67); (try clear c68); (try clear c73); (try clear c74); (try clear c75); (try clear c78); (try clear c78b0); (try clear c78b1); (try clear c92); (try clear c92b0); (try clear c92b1); (try clear c99); (try clear c100); (try clear c101); (try clear c102); (try clear c105); (try clear c105b0); (try clear c105b1); (try clear c117); (try clear c118); (try clear c119); (try clear c120); (try clear c123); (try clear c123b0); (try clear c125); (try clear c126); (try clear c127); (try clear c128); (try clear hcz103_0); (try clear hcz103_1); (try clear hcz103_2); (try clear hcz103_3); (try clear hcz103_4); (try clear hcz121); (try clear hcz129_0); (try clear hcz129_1); (try clear hcz129_2); (try clear hcz129_3); (try clear hcz129_4); (try clear hcz52); (try clear hcz59_0); (try clear hcz59_1); (try clear hcz59_2); (try clear hcz59_3); (try clear hcz59_4); (try clear hcz69); (try clear hcz76_0); (try clear hcz76_1); (try clear hcz76_2); (try clear hcz76_3); (try clear hcz76_4); (try clear hfz103_0); (try clear hfz103_1); (try clear hfz103_2); (try clear hfz103_3); (try clear hfz103_4); (try clear hfz121); (try clear hfz129_0); (try clear hfz129_1); (try clear hfz129_2); (try clear hfz129_3); (try clear hfz129_4); (try clear hfz52); (try clear hfz59_0); (try clear hfz59_1); (try clear hfz59_2); (try clear hfz59_3); (try clear hfz59_4); (try clear hfz69); (try clear hfz76_0); (try clear hfz76_1); (try clear hfz76_2); (try clear hfz76_3); (try clear hfz76_4)
    obtain ⟨kq, x446002_107, HA, HJ107, HO_17, HO_431001, HO_431002, HO_446003, HP0_, BK429, BK430, BK435, BK445, HB⟩ := hcut
    rcases kq with _ | kj107
    ·exact absurd HA.out (by simp [impl_prog_plain.j1])
    have H := HA.out
    clear HA
    simp only [impl_prog_plain.j1] at H
    have HC130 := am H
    clear H
    go_upto_region 16 with (fail)
    go_cut [83] (fun v83 wc => ∃ (kq : Nat) (x83_129 : Bool), v83 = .bool x83_129 ∧ Aside0 (impl_prog_plain.j2 kq a1 t453 t431 (t431.length : Int) x19_1 x83_129 l0_0 l0_1 a1 x431001_1 x431002_1 ((rd_T59 t431 x19_1).f0) ((rd_T59 t431 x19_1).f1) ((rd_T59 t431 x19_1).f0) x446002_107 t502 0 = some (r1, r2, r3)) ∧ Aside0 (kq ≤ kj107) ∧ Aside0 (Kd.V k59 59 wc w.heap.size (fun k_ => some k_ ≠ (u431001 : Value).ownBlock ∧ some k_ ≠ (u431002 : Value).ownBlock ∧ some k_ ≠ ((.slice Ao111 t502.length co111) : Value).ownBlock ∧ k_ ≠ gb429 ∧ k_ ≠ gb430 ∧ k_ ≠ gb435 ∧ k_ ≠ gb445) (.slice (some ad434) t431.length co11) t431) ∧ Aside0 (Kd.S (rk D k50) 50 wc w.heap.size (fun k_ => some k_ ≠ ((.slice Ao111 t502.length co111) : Value).ownBlock ∧ k_ ≠ gb445) u431001 x431001_1) ∧ Aside0 (Kd.S (rk (nD D) (Kd.slice 55 k55)) 47 wc w.heap.size (fun k_ => some k_ ≠ ((.slice Ao111 t502.length co111) : Value).ownBlock) u431002 x431002_1) ∧ Aside0 (Kd.R k55 55 wc w.heap.size (fun _ => True) (.slice Ao111 t502.length co111) t502) ∧ Aside0 (wc.heap[g0_]? = some (.cells #[(.slice A0_0 l0_0.length c0_0), (.slice A0_1 l0_1.length c0_1)] 88 (0, 0))) ∧ Aside0 (wc.heap[gb429]? = some (.cells #[.int .i64 0, (.slice none 0 0), (.slice none 0 0)] 29 (0, 0))) ∧ Aside0 (wc.heap[gb430]? = some (.cells #[.int .i64 a1, u431001, u431002] 29 (0, 0))) ∧ Aside0 (wc.heap[gb435]? = some (.cells #[.int .i64 ((rd_T59 t431 x19_1).f0), .int .i64 ((rd_T59 t431 x19_1).f1)] 59 (0, 0))) ∧ Aside0 (wc.heap[gb445]? = some (.cells #[(.slice none 0 0), .int .i64 ((rd_T59 t431 x19_1).f0), .int .i64 x446002_107, (.slice Ao111 t502.length co111), .int .i64 0] 50 (0, 0))) ∧ Aside0 (Below w.heap.size w wc))
    case first =>
     have H := HC130.out
     clear HC130
     refine qE H ?_ ?_ <;> clear H
     ·intro c131b0 c131b1 H
      (first | rw [c131b0] | (simp only [i64_w, i32_w]; rw [c131b0]) | skip)
      have H' := am H
      clear H
      have hnb132 := NB435_0.out
      have hnc132 := NB0_435.out
      have hnb133 := NB435_429.out
      have hnc133 := NB429_435.out
      have hnb134 := NB435_430.out
      have hnc134 := NB430_435.out
      have hnb135 := NB435_445.out
      have hnc135 := NB445_435.out
      have hcz136 := bK wc BK435
      have hfz136 := bF BK435
      go_wp2
      go_meet
      case rel => exact ⟨_, (true), dr, H', ⟨lk2 HK1 HJ107⟩, ⟨kV HO_17⟩, ⟨kS HO_431001⟩, ⟨kS HO_431002⟩, ⟨kR HO_446003⟩, ⟨bp HP0_⟩, ⟨bp BK429⟩, ⟨bp BK430⟩, ⟨bp BK435⟩, ⟨bp BK445⟩, ⟨bw HB⟩⟩
     intro c131 c131b0 c131b1 H
     (first | rw [c131b0] | (simp only [i64_w, i32_w]; rw [c131b0]) | skip)
     refine qE H ?_ ?_ <;> clear H
     ·intro c137b0 c137b1 H
      have H' := am H
      clear H
      have hnb138 := NB435_0.out
      have hnc138 := NB0_435.out
      have hnb139 := NB435_429.out
      have hnc139 := NB429_435.out
      have hnb140 := NB435_430.out
      have hnc140 := NB430_435.out
      have hnb141 := NB435_445.out
      have hnc141 := NB445_435.out
      have hcz142 := bK wc BK435
      have hfz142 := bF BK435
      go_wp2
      go_meet
      case rel => exact ⟨_, (true), dr, H', ⟨lk2 HK1 HJ107⟩, ⟨kV HO_17⟩, ⟨kS HO_431001⟩, ⟨kS HO_431002⟩, ⟨kR HO_446003⟩, ⟨bp HP0_⟩, ⟨bp BK429⟩, ⟨bp BK430⟩, ⟨bp BK435⟩, ⟨bp BK445⟩, ⟨bw HB⟩⟩
     intro c137 c137b0 c137b1 H
     have H' := am H
     clear H
     have hnb143 := NB435_0.out
     have hnc143 := NB0_435.out
     have hnb144 := NB435_429.out
     have hnc144 := NB429_435.out
     have hnb145 := NB435_430.out
     have hnc145 := NB430_435.out
     have hnb146 := NB435_445.out
     have hnc146 := NB445_435.out
     have hcz147 := bK wc BK435
     have hfz147 := bF BK435
     go_wp2
     go_meet
     case rel => exact ⟨_, ((((rd_T59 t431 x19_1).f0) == 32)), dr, H', ⟨lk2 HK1 HJ107⟩, ⟨kV HO_17⟩, ⟨kS HO_431001⟩, ⟨kS HO_431002⟩, ⟨kR HO_446003⟩, ⟨bp HP0_⟩, ⟨bp BK429⟩, ⟨bp BK430⟩, ⟨bp BK435⟩, ⟨bp BK445⟩, ⟨bw HB⟩⟩
    clear HC130
    (try clear c13); (try clear c14); (try clear c131); (try clear c131b0); (try clear c131b1); (try clear c132); (try clear c133); (try clear c134); (try clear c135); (try clear c137); (try clear c137b0); (try clear c137b1); (try clear c138); (try clear c139); (try clear c140); (try clear c141); (try clear c143); (try clear c144); (try clear c145); (try clear c146); (try clear hcz136); (try clear hcz142); (try clear hcz147); (try clear hfz136); (try clear hfz142); (try clear hfz147)
    obtain ⟨kq, x83_129, rfl, HA, HJ129, HO_17, HO_431001, HO_431002, HO_446003, HP0_, BK429, BK430, BK435, BK445, HB⟩ := hcut
    rcases kq with _ | kj129
    ·exact absurd HA.out (by simp [impl_prog_plain.j2])
    have H := HA.out
    clear HA
    simp only [impl_prog_plain.j2] at H
    refine qT H ?_ ?_ <;> clear H <;> intro c148 H <;> subst c148
    ·have H' := am H
     clear H
     have hnb149 := NB435_0.out
     have hnc149 := NB0_435.out
     have hnb150 := NB435_429.out
     have hnc150 := NB429_435.out
     have hnb151 := NB435_430.out
     have hnc151 := NB430_435.out
     have hnb152 := NB435_445.out
     have hnc152 := NB445_435.out
     have hcz153 := bK wc BK435
     have hfz153 := bF BK435
     have hnb154 := NB445_0.out
     have hnc154 := NB0_445.out
     have hnb155 := NB445_429.out
     have hnc155 := NB429_445.out
     have hnb156 := NB445_430.out
     have hnc156 := NB430_445.out
     have hcz157_0 := bk wc BK445 0
     have hcz157_1 := bk wc BK445 1
     have hcz157_2 := bk wc BK445 2
     have hcz157_3 := bk wc BK445 3
     have hcz157_4 := bk wc BK445 4
     have hfz157_0 := bf BK445 0
     have hfz157_1 := bf BK445 1
     have hfz157_2 := bf BK445 2
     have hfz157_3 := bf BK445 3
     have hfz157_4 := bf BK445 4
     go_wp2
     go_meet
     case rel => exact ⟨_, (([] : List (S108))), (((rd_T59 t431 x19_1).f0)), (x446002_107), (t502), (((rd_T59 t431 x19_1).f1)), (.slice none 0 0), (.slice Ao111 t502.length co111), H', ⟨lk3 HK1 HJ107 HJ129⟩, ⟨by (with_reducible repeat (first | apply Kd.V_alloc | apply Kd.V_drewN | apply Kd.V_drew)); exact Kd.V_mono (Kd.V_far (p := ⟨gb445, 4, none⟩) (Kd.V_mono HO_17.out (fun k_ hk => (⟨hk, hk.2.2.2.2.2.2⟩ : _ ∧ k_ ≠ gb445))) (fun _ hk => hk.2) (.int .i64 ((rd_T59 t431 x19_1).f1))) (fun _ hk => ⟨hk.1.1, ⟨hk.1.2.1, ⟨(by simp [Value.ownBlock]), ⟨hk.1.2.2.1, ⟨hk.1.2.2.2.1, ⟨hk.1.2.2.2.2.1, ⟨hk.1.2.2.2.2.2.1, hk.1.2.2.2.2.2.2⟩⟩⟩⟩⟩⟩⟩)⟩, ⟨by (with_reducible repeat (first | apply Kd.S_alloc | apply Kd.S_drewN | apply Kd.S_drew)); exact Kd.S_mono (Kd.S_far (p := ⟨gb445, 4, none⟩) (Kd.S_mono HO_431001.out (fun k_ hk => (⟨hk, hk.2⟩ : _ ∧ k_ ≠ gb445))) (fun _ hk => hk.2) (.int .i64 ((rd_T59 t431 x19_1).f1))) (fun _ hk => ⟨(by simp [Value.ownBlock]), ⟨hk.1.1, hk.1.2⟩⟩)⟩, ⟨by (with_reducible repeat (first | apply Kd.S_alloc | apply Kd.S_drewN | apply Kd.S_drew)); exact Kd.S_mono (Kd.S_far (p := ⟨gb445, 4, none⟩) (Kd.S_types HO_431002.out BK445.out (rkE (by decide))) (fun _ hk => hk.2) (.int .i64 ((rd_T59 t431 x19_1).f1))) (fun _ hk => hk.1)⟩, ⟨by first | exact Kd.R_nil _ _ _ _ _ | exact Kd.N_nil _ _ _ _ _ | exact Kd.V_nil _ _ _ _ _ | exact Kd.Q_nil _ _ _ _ _ | exact Kd.S_nil _ _ _ _ _⟩, ⟨by (with_reducible repeat (first | apply Kd.R_alloc | apply Kd.R_drewN | apply Kd.R_drew)); exact Kd.R_mono (Kd.R_far (p := ⟨gb445, 4, none⟩) (Kd.R_types HO_446003.out BK445.out (by decide)) (fun _ hk => hk.2) (.int .i64 ((rd_T59 t431 x19_1).f1))) (fun _ hk => trivial)⟩, ⟨by (with_reducible repeat (first | apply dN | apply dW | apply dA)); refine blk_far ?_ NB0_445.out _; exact bp HP0_⟩, ⟨by (with_reducible repeat (first | apply dN | apply dW | apply dA)); refine blk_far ?_ NB429_445.out _; exact bp BK429⟩, ⟨by (with_reducible repeat (first | apply dN | apply dW | apply dA)); refine blk_far ?_ NB430_445.out _; exact bp BK430⟩, ⟨by (with_reducible repeat (first | apply dN | apply dW | apply dA)); refine blk_far ?_ NB435_445.out _; exact bp BK435⟩, ⟨by (with_reducible repeat (first | apply dN | apply dW | apply dA)); refine blk_put (cs := #[.slice none 0 0, .int .i64 ((rd_T59 t431 x19_1).f0), .int .i64 x446002_107, .slice Ao111 t502.length co111, .int .i64 0]) ?_ 4 _ rfl; exact bp BK445⟩, ⟨bw HB⟩⟩
    have H' := am H
    clear H
    go_wp2
    go_meet
    case rel => exact ⟨_, (([] : List (S108))), (((rd_T59 t431 x19_1).f0)), (x446002_107), (t502), (0), (.slice none 0 0), (.slice Ao111 t502.length co111), H', ⟨lk3 HK1 HJ107 HJ129⟩, ⟨by (with_reducible repeat (first | apply Kd.V_alloc | apply Kd.V_drewN | apply Kd.V_drew)); exact Kd.V_mono HO_17.out (fun _ hk => ⟨hk.1, ⟨hk.2.1, ⟨(by simp [Value.ownBlock]), ⟨hk.2.2.1, ⟨hk.2.2.2.1, ⟨hk.2.2.2.2.1, ⟨hk.2.2.2.2.2.1, hk.2.2.2.2.2.2⟩⟩⟩⟩⟩⟩⟩)⟩, ⟨by (with_reducible repeat (first | apply Kd.S_alloc | apply Kd.S_drewN | apply Kd.S_drew)); exact Kd.S_mono HO_431001.out (fun _ hk => ⟨(by simp [Value.ownBlock]), ⟨hk.1, hk.2⟩⟩)⟩, ⟨kS HO_431002⟩, ⟨by first | exact Kd.R_nil _ _ _ _ _ | exact Kd.N_nil _ _ _ _ _ | exact Kd.V_nil _ _ _ _ _ | exact Kd.Q_nil _ _ _ _ _ | exact Kd.S_nil _ _ _ _ _⟩, ⟨kR HO_446003⟩, ⟨bp HP0_⟩, ⟨bp BK429⟩, ⟨bp BK430⟩, ⟨bp BK435⟩, ⟨bp BK445⟩, ⟨bw HB⟩⟩
   clear HC36
   (try clear c1); (try clear c4); (try clear c5); (try clear p6); (try clear c9); (try clear c10); (try clear c11); (try clear c12); (try clear c13); (try clear c14); (try clear c15); (try clear c42); (try clear c43); (try clear c44); (try clear c45); (try clear c45b0); (try clear c45b1); (try clear c46); (try clear c47); (try clear c48); (try clear c49); (try clear c50); (try clear c51); (try clear c56); (try clear c57); (try clear c58); (try clear c61); (try clear c61b0); (try clear c61b1); (try clear p64); (try clear c65); (try clear c66); (try clear c67); (try clear c68); (try clear c73); (try clear c74); (try clear c75); (try clear c78); (try clear c78b0); (try clear c78b1); (try clear c92); (try clear c92b0); (try clear c92b1); (try clear c99); (try clear c100); (try clear c101); (try clear c102); (try clear c105); (try clear c105b0); (try clear c105b1); (try clear c117); (try clear c118); (try clear c119); (try clear c120); (try clear c123); (try clear c123b0); (try clear c125); (try clear c126); (try clear c127); (try clear c128); (try clear c131); (try clear c131b0); (try clear c131b1); (try clear c132); (try clear c133); (try clear c134); (try clear c135); (try clear c137); (try clear c137b0); (try clear c137b1); (try clear c138); (try clear c139); (try clear c140); (try clear c141); (try clear c143); (try clear c144); (try clear c145); (try clear c146); (try clear c148); (try clear c149); (try clear c150); (try clear c151); (try clear c152); (try clear c154); (try clear c155); (try clear c156); (try clear hcz103_0); (try clear hcz103_1); (try clear hcz103_2); (try clear hcz103_3); (try clear hcz103_4); (try clear hcz121); (try clear hcz129_0); (try clear hcz129_1); (try clear hcz129_2); (try clear hcz129_3); (try clear hcz129_4); (try clear hcz136); (try clear hcz142); (try clear hcz147); (try clear hcz153); (try clear hcz157_0); (try clear hcz157_1); (try clear hcz157_2); (try clear hcz157_3); (try clear hcz157_4); (try clear hcz52); (try clear hcz59_0); (try clear hcz59_1); (try clear hcz59_2); (try clear hcz59_3); (try clear hcz59_4); (try clear hcz69); (try clear hcz76_0); (try clear hcz76_1); (try clear hcz76_2); (try clear hcz76_3); (try clear hcz76_4); (try clear hfz103_0); (try clear hfz103_1); (try clear hfz103_2); (try clear hfz103_3); (try clear hfz103_4); (try clear hfz121); (try clear hfz129_0); (try clear hfz129_1); (try clear hfz129_2); (try clear hfz129_3); (try clear hfz129_4); (try clear hfz136); (try clear hfz142); (try clear hfz147); (try clear hfz153); (try clear hfz157_0); (try clear hfz157_1); (try clear hfz157_2); (try clear hfz157_3); (try clear hfz157_4); (try clear hfz52); (try clear hfz59_0); (try clear hfz59_1); (try clear hfz59_2); (try clear hfz59_3); (try clear hfz59_4); (try clear hfz69); (try clear hfz76_0); (try clear hfz76_1); (try clear hfz76_2); (try clear hfz76_3); (try clear hfz76_4); (try clear p6); (try clear p64)
   obtain ⟨kq, x446000_35, x446001_35, x446002_35, x446003_35, x446004_35, u446000, u446003, HA, HJ35, HO_17, HO_431001, HO_431002, HO_446000, HO_446003, HP0_, BK429, BK430, BK435, BK445, HB⟩ := hcut
   rcases kq with _ | kj35
   ·exact absurd HA.out (by simp [impl_prog_plain.j3])
   have H := HA.out
   clear HA
   simp only [impl_prog_plain.j3] at H
   refine iN H ?_; clear H; intro c158 H
   have LMc158 := am c158
   clear c158
   obtain ⟨y507, hy507⟩ : ∃ y_ : List (S50), y_ = (x431001_1 ++ [(⟨x446000_35, x446001_35, x446002_35, x446003_35, x446004_35⟩ : S50)]) := ⟨_, rfl⟩
   replace H : ((impl_memories.f kj35 0 t453).bind fun t510 => (if x431002_1.length < 5864062014805 then (impl_prog_plain.l0 kj35 a1 t431 (t431.length : Int) (wrap64 (x19_1 + 1)) l0_0 l0_1 a1 y507 (x431002_1 ++ [t510])) else (none))) = some (r1, r2, r3) := by first | (rw [hy507]; with_reducible exact H) | (have H2_ := (Option.bind_some _ _).symm.trans H; rw [hy507]; with_reducible exact H2_) | (have H2_ := (Option.bind_some _ _).symm.trans H; with_reducible exact H2_) | with_reducible exact H | (rw [hy507]; exact H) | exact H
   have Ny507 := am hy507
   clear hy507
   refine be H ?_; clear H; intro t510 A159 H
   refine iN H ?_; clear H; intro c160 H
   have LMc160 := am c160
   clear c160
   obtain ⟨y513, hy513⟩ : ∃ y_ : List (List (S55)), y_ = (x431002_1 ++ [t510]) := ⟨_, rfl⟩
   replace H : (impl_prog_plain.l0 kj35 a1 t431 (t431.length : Int) (wrap64 (x19_1 + 1)) l0_0 l0_1 a1 y507 y513) = some (r1, r2, r3) := by first | (rw [hy513]; with_reducible exact H) | (have H2_ := (Option.bind_some _ _).symm.trans H; rw [hy513]; with_reducible exact H2_) | (have H2_ := (Option.bind_some _ _).symm.trans H; with_reducible exact H2_) | with_reducible exact H | (rw [hy513]; exact H) | exact H
   have Ny513 := am hy513
   clear hy513
   have H' := am H
   clear H
   have hnb161 := NB430_0.out
   have hnc161 := NB0_430.out
   have hnb162 := NB430_429.out
   have hnc162 := NB429_430.out
   have hnb163 := NB430_435.out
   have hnc163 := NB435_430.out
   have hnb164 := NB430_445.out
   have hnc164 := NB445_430.out
   have hcz165 := bK wc BK430
   have hfz165 := bF BK430
   have hnb166 := NB445_0.out
   have hnc166 := NB0_445.out
   have hnb167 := NB445_429.out
   have hnc167 := NB429_445.out
   have hnb168 := NB445_435.out
   have hnc168 := NB435_445.out
   have hcz169_0 := bk wc BK445 0
   have hcz169_1 := bk wc BK445 1
   have hcz169_2 := bk wc BK445 2
   have hcz169_3 := bk wc BK445 3
   have hcz169_4 := bk wc BK445 4
   have hfz169_0 := bf BK445 0
   have hfz169_1 := bf BK445 1
   have hfz169_2 := bf BK445 2
   have hfz169_3 := bf BK445 3
   have hfz169_4 := bf BK445 4
   obtain ⟨Ao171, co171, eo171⟩ := Kd.R_slice HO_446000.out
   subst eo171
   obtain ⟨Ao172, co172, eo172⟩ := Kd.R_slice HO_446003.out
   subst eo172
   obtain ⟨D1, hD1, n1_, n2_⟩ := rk_grow (vP := .slice Ao171 x446000_35.length co171) (vL := .slice Ao172 x446003_35.length co172) (Kd.R_typed HO_446000.out) (fun k hk => by first | exact hk | exact hk.2 | exact hk.1 | exact hk.1.2 | exact hk.1.1 | exact hk.1.1.2) HO_431001.out HO_431002.out
   replace HO_431001 := am n1_
   replace HO_431002 := am n2_
   clear n1_ n2_
   try go_wp2_with (first | ((with_reducible refine gate_builtin (b := .append) (xs := #[.tmp 126, .tmp 128]) rfl ?_); at_builtin; refine Kd.S_append (rk D1 k50) (w0 := w) w.heap.size rfl (.tmp 126) (.tmp 128) 26 50 (.agg #[(.slice none 0 0), (.int .i64 0), (.int .i64 0), (.slice none 0 0), (.int .i64 0)]) 72 rfl Try.underlying26 info50 rfl (rkz (by decide)) (by omega) u431001 x431001_1 (⟨x446000_35, x446001_35, x446002_35, x446003_35, x446004_35⟩ : S50) [.slice Ao171 x446000_35.length co171, .int .i64 x446001_35, .int .i64 x446002_35, .slice Ao172 x446003_35.length co172, .int .i64 x446004_35] (fun k_ => k_ ≠ gb445) (fun k_ => some k_ = (.slice Ao171 x446000_35.length co171 : Value).ownBlock ∨ some k_ = (.slice Ao172 x446003_35.length co172 : Value).ownBlock) rfl rfl ?aP (fun k_ hk_ => hk_.elim (fun h_ => ((Kd.R_mono (ok' := fun k_ => ((fun k_ => k_ ≠ gb445)) k_ ∧ some k_ ≠ (u431001 : Value).ownBlock) (Kd.R_types (Kd.R_apart' (HO_446000.out) (Kd.S_typed HO_431001.out) (by decide)) BK445.out (by decide)) (fun k_ hk => ⟨hk.2, hk.1.2⟩))).1 k_ h_.symm) (fun h_ => ((Kd.R_mono (ok' := fun k_ => ((fun k_ => k_ ≠ gb445)) k_ ∧ some k_ ≠ (u431001 : Value).ownBlock) (Kd.R_types (Kd.R_apart' (HO_446003.out) (Kd.S_typed HO_431001.out) (by decide)) BK445.out (by decide)) (fun k_ hk => ⟨hk.2, hk.1.2⟩))).1 k_ h_.symm)) ?aF ?aO ?aB ?aS ?aL ?_; (case aP => exact k50_mkM _ _ _ (⟨x446000_35, x446001_35, x446002_35, x446003_35, x446004_35⟩ : S50) (Kd.R_mono (Kd.R_tight rfl (Kd.R_mono (ok' := fun k_ => ((fun k_ => k_ ≠ gb445)) k_ ∧ some k_ ≠ (u431001 : Value).ownBlock) (Kd.R_types (Kd.R_apart' (HO_446000.out) (Kd.S_typed HO_431001.out) (by decide)) BK445.out (by decide)) (fun k_ hk => ⟨hk.2, hk.1.2⟩))) (fun _ h_ => ⟨Or.inl h_, hD1 _ (Or.inl h_)⟩)) (Kd.R_mono (Kd.R_tight rfl (Kd.R_mono (ok' := fun k_ => ((fun k_ => k_ ≠ gb445)) k_ ∧ some k_ ≠ (u431001 : Value).ownBlock) (Kd.R_types (Kd.R_apart' (HO_446003.out) (Kd.S_typed HO_431001.out) (by decide)) BK445.out (by decide)) (fun k_ hk => ⟨hk.2, hk.1.2⟩))) (fun _ h_ => ⟨Or.inr (h_), hD1 _ (Or.inr h_)⟩))); (case aB => exact (bw HB)); (case aF => exact (fun k_ hk => Kd.freshB (g := gb445) (o := .cells #[.slice Ao171 x446000_35.length co171, .int .i64 x446001_35, .int .i64 x446002_35, .slice Ao172 x446003_35.length co172, .int .i64 x446004_35] 50 (0, 0)) (bp BK445) k_ hk)); (case aO => exact (by (with_reducible repeat (first | apply Kd.S_alloc | apply Kd.S_drewN | apply Kd.S_drew)); exact Kd.S_mono HO_431001.out (fun k_ hk => ⟨hk.2.2, fun e_ => e_.elim (fun h_ => hk.1 h_) (fun h_ => hk.2.1 h_)⟩))); (case aS => exact (below_size (bw HB))); (case aL => have := LMc158.out; omega); intro v508 w170 ho hb hg hat; rw [← Ny507.out] at ho; replace HO_17 := am (Kd.V_afterv (ok := (fun k_ => some k_ ≠ (u431002 : Value).ownBlock ∧ some k_ ≠ (.slice Ao171 x446000_35.length co171 : Value).ownBlock ∧ some k_ ≠ (.slice Ao172 x446003_35.length co172 : Value).ownBlock ∧ k_ ≠ gb429 ∧ k_ ≠ gb430 ∧ k_ ≠ gb435 ∧ k_ ≠ gb445)) (by (with_reducible repeat (first | apply Kd.V_alloc | apply Kd.V_drewN | apply Kd.V_drew)); exact Kd.V_mono HO_17.out (fun _ hk => ⟨⟨hk.2.1, ⟨hk.2.2.1, ⟨hk.2.2.2.1, ⟨hk.2.2.2.2.1, ⟨hk.2.2.2.2.2.1, ⟨hk.2.2.2.2.2.2.1, hk.2.2.2.2.2.2.2⟩⟩⟩⟩⟩⟩, hk.1⟩)) hg hat); replace HO_431002 := am (Kd.S_over' (kS HO_431002) (Kd.S_typed (kS HO_431001)) (rkE (by decide)) hg); replace HP0_ := bg HP0_ hg (Kd.S_ne HO_431001.out HP0_.out (by decide)); replace BK429 := bg BK429 hg (Kd.S_ne HO_431001.out BK429.out (by decide)); replace BK430 := bg BK430 hg (Kd.S_ne HO_431001.out BK430.out (by decide)); replace BK435 := bg BK435 hg (Kd.S_ne HO_431001.out BK435.out (by decide)); replace BK445 := bg BK445 hg (Kd.S_away HO_431001.out (fun _ hk => hk.2.2)); replace HB := am (hb); have HO509 := am (ho); clear HO_431001; clear HO_446000; clear HO_446003; clear ho hb hg hat; obtain ⟨Ao173, co173, eo173⟩ := Kd.S_slice HO509.out; subst eo173; have hcz174 := bK w170 BK430; have hfz174 := bF BK430))
   replace HO_17 : Aside0 (Kd.V k59 59 (w170.setCell ⟨gb430, 1, none⟩ (.slice Ao173 y507.length co173)) w.heap.size (fun k_ => some k_ ≠ (u431002 : Value).ownBlock ∧ some k_ ≠ (.slice Ao173 y507.length co173 : Value).ownBlock ∧ k_ ≠ gb429 ∧ k_ ≠ gb430 ∧ k_ ≠ gb435 ∧ k_ ≠ gb445) (.slice (some ad434) t431.length co11) t431) := ⟨by (with_reducible repeat (first | apply Kd.V_alloc | apply Kd.V_drewN | apply Kd.V_drew)); exact Kd.V_mono (Kd.V_far (p := ⟨gb430, 1, none⟩) (Kd.V_mono HO_17.out (fun k_ hk => (⟨hk, hk.1.2.2.2.2.1⟩ : _ ∧ k_ ≠ gb430))) (fun _ hk => hk.2) (.slice Ao173 y507.length co173)) (fun _ hk => ⟨hk.1.1.1, ⟨hk.1.2, ⟨hk.1.1.2.2.2.1, ⟨hk.1.1.2.2.2.2.1, ⟨hk.1.1.2.2.2.2.2.1, hk.1.1.2.2.2.2.2.2⟩⟩⟩⟩⟩)⟩
   replace HO_431002 : Aside0 (Kd.S (rk (nD D1) (Kd.slice 55 k55)) 47 (w170.setCell ⟨gb430, 1, none⟩ (.slice Ao173 y507.length co173)) w.heap.size (fun _ => True) u431002 x431002_1) := ⟨by (with_reducible repeat (first | apply Kd.S_alloc | apply Kd.S_drewN | apply Kd.S_drew)); exact Kd.S_mono (Kd.S_far (p := ⟨gb430, 1, none⟩) (Kd.S_types HO_431002.out BK430.out (rkE (by decide))) (fun _ hk => hk.2) (.slice Ao173 y507.length co173)) (fun _ hk => trivial)⟩
   replace HO509 : Aside0 (Kd.S (rk D1 k50) 50 (w170.setCell ⟨gb430, 1, none⟩ (.slice Ao173 y507.length co173)) w.heap.size (fun k_ => k_ ≠ gb445) (.slice Ao173 y507.length co173) y507) := ⟨by (with_reducible repeat (first | apply Kd.S_alloc | apply Kd.S_drewN | apply Kd.S_drew)); exact Kd.S_mono (Kd.S_far (p := ⟨gb430, 1, none⟩) (Kd.S_types HO509.out BK430.out (rkE (by decide))) (fun _ hk => hk.2) (.slice Ao173 y507.length co173)) (fun _ hk => hk.1)⟩
   replace HP0_ : Aside0 ((w170.setCell ⟨gb430, 1, none⟩ (.slice Ao173 y507.length co173)).heap[g0_]? = some (.cells #[.slice A0_0 l0_0.length c0_0, .slice A0_1 l0_1.length c0_1] 88 (0, 0))) := ⟨by (with_reducible repeat (first | apply dN | apply dW | apply dA)); refine blk_far ?_ NB0_430.out _; exact bp HP0_⟩
   replace BK429 : Aside0 ((w170.setCell ⟨gb430, 1, none⟩ (.slice Ao173 y507.length co173)).heap[gb429]? = some (.cells #[.int .i64 0, .slice none 0 0, .slice none 0 0] 29 (0, 0))) := ⟨by (with_reducible repeat (first | apply dN | apply dW | apply dA)); refine blk_far ?_ NB429_430.out _; exact bp BK429⟩
   replace BK430 : Aside0 ((w170.setCell ⟨gb430, 1, none⟩ (.slice Ao173 y507.length co173)).heap[gb430]? = some (.cells #[.int .i64 a1, .slice Ao173 y507.length co173, u431002] 29 (0, 0))) := ⟨by (with_reducible repeat (first | apply dN | apply dW | apply dA)); refine blk_put (cs := #[.int .i64 a1, u431001, u431002]) ?_ 1 _ rfl; exact bp BK430⟩
   replace BK435 : Aside0 ((w170.setCell ⟨gb430, 1, none⟩ (.slice Ao173 y507.length co173)).heap[gb435]? = some (.cells #[.int .i64 ((rd_T59 t431 x19_1).f0), .int .i64 ((rd_T59 t431 x19_1).f1)] 59 (0, 0))) := ⟨by (with_reducible repeat (first | apply dN | apply dW | apply dA)); refine blk_far ?_ NB435_430.out _; exact bp BK435⟩
   replace BK445 : Aside0 ((w170.setCell ⟨gb430, 1, none⟩ (.slice Ao173 y507.length co173)).heap[gb445]? = some (.cells #[.slice Ao171 x446000_35.length co171, .int .i64 x446001_35, .int .i64 x446002_35, .slice Ao172 x446003_35.length co172, .int .i64 x446004_35] 50 (0, 0))) := ⟨by (with_reducible repeat (first | apply dN | apply dW | apply dA)); refine blk_far ?_ NB445_430.out _; exact bp BK445⟩
   replace HB : Aside0 (Below w.heap.size w (w170.setCell ⟨gb430, 1, none⟩ (.slice Ao173 y507.length co173))) := ⟨bw HB⟩
   generalize (w170.setCell ⟨gb430, 1, none⟩ (.slice Ao173 y507.length co173)) = w175 at HO_17 HO_431002 HO509 HP0_ BK429 BK430 BK435 BK445 HB ⊢
   replace HO_17 := am (Kd.V_drew HO_17.out)
   replace HO_431002 := am (Kd.S_drew HO_431002.out)
   replace HO509 := am (Kd.S_drew HO509.out)
   replace HP0_ := am (blk_drew HP0_.out)
   replace BK429 := am (blk_drew BK429.out)
   replace BK430 := am (blk_drew BK430.out)
   replace BK435 := am (blk_drew BK435.out)
   replace BK445 := am (blk_drew BK445.out)
   replace HB := am (below_drew1 HB.out)
   refine start_ (n := 8) (S := fun w' => w'.cell? ⟨gb430, 0, none⟩ = some (.int .i64 a1) ∧ w'.cell? ⟨gb430, 1, none⟩ = some (.slice Ao173 y507.length co173) ∧ w'.cell? ⟨gb430, 2, none⟩ = some (u431002)) (ds := [7]) (bv 8 0) (by kernel_rfl) rfl (by kernel_rfl) ⟨bc BK430 0, bc BK430 1, bc BK430 2⟩ (fun hHeld => ?_); refine with_tabW impl_prog_plain.tab28 impl_prog_plain.bits28 (fun HT_ HW_ => ?_)
   generalize w175.drew = w176 at HO_17 HO_431002 HO509 HP0_ BK429 BK430 BK435 BK445 HB hHeld ⊢
   refine pu 0 131 8 1 HT_ ?_
   refine pu 2 133 8 5 HT_ ?_
   refine tk 1 132 8 7 HT_ HW_ hHeld ?_
   refine on 3 (some 134) 8 15 HT_ fun K hK => ?_
   refine goes_ Try.func46 (by kernel_rfl) rfl #[.int .i64 0, .int .i64 t453] (by rfl) rfl rfl gl ?_
   with_reducible refine (impl_memories.calls kj35 0 t453 t510 _ A159.out).mono ?_
   rintro e w177 ⟨v511, rfl, ho0, hb⟩
   refine ⟨_, rfl, ?_⟩
   have n0_ := am (Kd.V_elder' (kV HO_17) (Kd.R_base ho0) hb)
   have n1_ := am (Kd.S_elder' (kS HO_431002) (Kd.R_base ho0) hb)
   have n2_ := am (Kd.S_elder' (kS HO509) (Kd.R_base ho0) hb)
   have n3_ := am (Kd.R_lower ho0 (below_size (bw HB)))
   have n4_ := bb HP0_ hb
   have n5_ := bb BK429 hb
   have n6_ := bb BK430 hb
   have n7_ := bb BK435 hb
   have n8_ := bb BK445 hb
   have n9_ := am (below_step (bw HB) hb)
   clear HO_17
   clear HO_431002
   clear HO509
   clear HP0_
   clear BK429
   clear BK430
   clear BK435
   clear BK445
   clear HB
   have HO_17 := n0_
   have HO_431002 := n1_
   have HO509 := n2_
   have HO512 := n3_
   have HP0_ := n4_
   have BK429 := n5_
   have BK430 := n6_
   have BK435 := n7_
   have BK445 := n8_
   have HB := n9_
   clear n0_ n1_ n2_ n3_ n4_ n5_ n6_ n7_ n8_ n9_
   clear hb
   (try clear ho0)
   obtain ⟨Ao179, co179, eo179⟩ := Kd.R_slice HO512.out
   (first | subst eo179 | (injection eo179 with f1_ f2_ f3_; have f4_ := f1_.symm; have f5_ := f3_.symm; clear f1_ f2_ f3_; subst f4_; subst f5_))
   refine hK.out _ _ ⟨bc BK430 0, bc BK430 1, bc BK430 2⟩ (fun hHeld => ?_)
   clear hK K
   refine nm (some 134) ?_
   refine on 4 (some 135) 8 31 HT_ fun K hK => ?_
   refine value_ (w1 := ?_) (v := ?_) (by rfl) rfl ?_ ?_
   rotate_left 2
   ·go_simp
    constructor
    ·rfl
    rfl
   refine hK.out _ _ ⟨(blk_cell (blk_alloc BK430.out _) 0).trans rfl, (blk_cell (blk_alloc BK430.out _) 1).trans rfl, (blk_cell (blk_alloc BK430.out _) 2).trans rfl⟩ (fun hHeld => ?_)
   clear hK K
   refine nm (some 135) ?_
   refine on 5 (some 136) 8 63 HT_ fun K hK => ?_
   obtain ⟨D2, hD2, n1_, n2_⟩ := rk_less (v := .slice Ao179 t510.length co179) (fun k hk => by first | exact hk | exact hk.2 | exact hk.1 | exact hk.1.2) HO509.out HO_431002.out
   replace HO509 := am n1_
   replace HO_431002 := am n2_
   clear n1_ n2_
   refine Kd.S_append_step (rk (nD D2) (Kd.slice 55 k55)) (w0 := w) w.heap.size (by rfl) (.tmp 132) (.tmp 135) 27 47 (.slice none 0 0) 24 rfl Try.underlying27 info47 rfl (rkz (by decide)) (by omega) u431002 x431002_1 t510 [.slice Ao179 t510.length co179] (fun _ => True) (fun k_ => some k_ = (.slice Ao179 t510.length co179 : Value).ownBlock) rfl rfl ?aP (fun k_ hk_ => ((Kd.R_mono (ok' := fun k_ => ((fun _ => True)) k_ ∧ some k_ ≠ (u431002 : Value).ownBlock) (Kd.R_apart' (HO512.out) (Kd.S_typed HO_431002.out) (by decide)) (fun k_ hk => ⟨trivial, hk.2⟩))).1 k_ hk_.symm) ?aF ?aO ?aB ?aS ?aL ?_
   (case aP => exact Kd.M_row (Kd.R_mono (Kd.R_tight rfl (Kd.R_mono (ok' := fun k_ => ((fun _ => True)) k_ ∧ some k_ ≠ (u431002 : Value).ownBlock) (Kd.R_apart' (HO512.out) (Kd.S_typed HO_431002.out) (by decide)) (fun k_ hk => ⟨trivial, hk.2⟩))) (fun k_ h_ => ⟨h_, hD2 k_ h_⟩)))
   (case aB => exact (bw HB))
   (case aF => exact (fun _ _ => trivial))
   (case aO => exact (by (with_reducible repeat (first | apply Kd.S_alloc | apply Kd.S_drewN | apply Kd.S_drew)); exact Kd.S_mono HO_431002.out (fun k_ hk => ⟨trivial, fun e_ => hk.2 e_⟩)))
   (case aS => exact (below_size (bw HB)))
   (case aL => have := LMc160.out; omega)
   intro v514 w178 ho hb hg hat
   rw [← Ny513.out] at ho
   have n0_ := am (Kd.V_afterv (ok := (fun k_ => some k_ ≠ (.slice Ao173 y507.length co173 : Value).ownBlock ∧ some k_ ≠ (.slice Ao179 t510.length co179 : Value).ownBlock ∧ k_ ≠ gb429 ∧ k_ ≠ gb430 ∧ k_ ≠ gb435 ∧ k_ ≠ gb445)) (by (with_reducible repeat (first | apply Kd.V_alloc | apply Kd.V_drewN | apply Kd.V_drew)); exact Kd.V_mono HO_17.out (fun _ hk => ⟨⟨hk.1.2.1, ⟨hk.2, ⟨hk.1.2.2.1, ⟨hk.1.2.2.2.1, ⟨hk.1.2.2.2.2.1, hk.1.2.2.2.2.2⟩⟩⟩⟩⟩, hk.1.1⟩)) hg hat)
   have n1_ := bg HP0_ hg (Kd.S_ne HO_431002.out HP0_.out (by decide))
   have n2_ := bg BK429 hg (Kd.S_ne HO_431002.out BK429.out (by decide))
   have n3_ := bg BK430 hg (Kd.S_ne HO_431002.out BK430.out (by decide))
   have n4_ := bg BK435 hg (Kd.S_ne HO_431002.out BK435.out (by decide))
   have n5_ := bg BK445 hg (Kd.S_ne HO_431002.out BK445.out (by decide))
   have n6_ := am (Kd.S_over' (kS HO509) (Kd.S_typed (kS HO_431002)) (rkE (by decide)) hg)
   have n7_ := am (hb)
   have n8_ := am (ho)
   clear HO_17
   clear HP0_
   clear BK429
   clear BK430
   clear BK435
   clear BK445
   clear HO509
   clear HB
   clear HO_431002
   clear HO512
   have HO_17 := n0_
   have HP0_ := n1_
   have BK429 := n2_
   have BK430 := n3_
   have BK435 := n4_
   have BK445 := n5_
   have HO509 := n6_
   have HB := n7_
   have HO515 := n8_
   clear n0_ n1_ n2_ n3_ n4_ n5_ n6_ n7_ n8_
   clear ho hb hg hat
   obtain ⟨Ao180, co180, eo180⟩ := Kd.S_slice HO515.out
   (first | subst eo180 | (injection eo180 with f1_ f2_ f3_; have f4_ := f1_.symm; have f5_ := f3_.symm; clear f1_ f2_ f3_; subst f4_; subst f5_))
   refine hK.out _ _ ⟨bc BK430 0, bc BK430 1, bc BK430 2⟩ (fun hHeld => ?_)
   clear hK K
   refine nm (some 136) ?_
   refine pu 6 137 8 127 HT_ ?_
   refine last_ (i := 7) (N := none) (bv 8 255) rfl rfl (one_of HT_.out (by kernel_rfl)) (by decide) (fun K hK => ?_)
   have hs181 := bk w178 BK430 2
   have hfs181 := bf BK430 2
   have hns181_0 := NB0_430.out
   have hns181_1 := NB429_430.out
   have hns181_3 := NB435_430.out
   have hns181_4 := NB445_430.out
   have hms181_0 := NB430_0.out
   have hms181_1 := NB430_429.out
   have hms181_3 := NB430_435.out
   have hms181_4 := NB430_445.out
   refine skip_ (w1 := ?_) (by rfl) rfl ?_ ?_
   rotate_left
   ·go_simp
    rfl
   refine hK.out _ _ ?_
   clear hK K
   refine done_ (done_of HT_.out (by kernel_rfl)) ?_
   try go_wp2
   go_roundg kj35
   case measure => have := HK1.out; have := HJ35.out; omega
   case rel => exact ⟨D2, (wrap64 (x19_1 + 1)), (y507), (y513), (.slice Ao173 y507.length co173), (.slice Ao180 y513.length co180), dr, H', ⟨by have := HK1.out; have := HJ35.out; omega⟩, ⟨by (with_reducible repeat (first | apply Kd.V_alloc | apply Kd.V_drewN | apply Kd.V_drew)); exact Kd.V_mono (Kd.V_far (p := ⟨gb430, 2, none⟩) (Kd.V_mono HO_17.out (fun k_ hk => (⟨hk, hk.1.2.2.2.1⟩ : _ ∧ k_ ≠ gb430))) (fun _ hk => hk.2) (.slice Ao180 y513.length co180)) (fun _ hk => ⟨hk.1.1.1, ⟨hk.1.2, ⟨hk.1.1.2.2.1, hk.1.1.2.2.2.1⟩⟩⟩)⟩, ⟨by (with_reducible repeat (first | apply Kd.S_alloc | apply Kd.S_drewN | apply Kd.S_drew)); exact Kd.S_mono (Kd.S_far (p := ⟨gb430, 2, none⟩) (Kd.S_types HO509.out BK430.out (rkE (by decide))) (fun _ hk => hk.2) (.slice Ao180 y513.length co180)) (fun _ hk => trivial)⟩, ⟨by (with_reducible repeat (first | apply Kd.S_alloc | apply Kd.S_drewN | apply Kd.S_drew)); exact Kd.S_mono (Kd.S_far (p := ⟨gb430, 2, none⟩) (Kd.S_types HO515.out BK430.out (rkE (by decide))) (fun _ hk => hk.2) (.slice Ao180 y513.length co180)) (fun _ hk => trivial)⟩, ⟨by (with_reducible repeat (first | apply dN | apply dW | apply dA)); refine blk_far ?_ NB0_430.out _; exact bp HP0_⟩, ⟨by (with_reducible repeat (first | apply dN | apply dW | apply dA)); refine blk_far ?_ NB429_430.out _; exact bp BK429⟩, ⟨by (with_reducible repeat (first | apply dN | apply dW | apply dA)); refine blk_put (cs := #[.int .i64 a1, .slice Ao173 y507.length co173, u431002]) ?_ 2 _ rfl; exact bp BK430⟩, ⟨bw HB⟩⟩
  refine iN H ?_; clear H; intro c182 H
  have LMc182 := am c182
  clear c182
  obtain ⟨y447, hy447⟩ : ∃ y_ : List (S50), y_ = (x431001_1 ++ [(⟨t436, t439, t440, t441, t444⟩ : S50)]) := ⟨_, rfl⟩
  replace H : (if x431002_1.length < 5864062014805 then (impl_prog_plain.l0 k1 a1 t431 (t431.length : Int) (wrap64 (x19_1 + 1)) l0_0 l0_1 a1 y447 (x431002_1 ++ [[]])) else (none)) = some (r1, r2, r3) := by first | (rw [hy447]; with_reducible exact H) | (have H2_ := (Option.bind_some _ _).symm.trans H; rw [hy447]; with_reducible exact H2_) | (have H2_ := (Option.bind_some _ _).symm.trans H; with_reducible exact H2_) | with_reducible exact H | (rw [hy447]; exact H) | exact H
  have Ny447 := am hy447
  clear hy447
  refine iN H ?_; clear H; intro c183 H
  have LMc183 := am c183
  clear c183
  obtain ⟨y450, hy450⟩ : ∃ y_ : List (List (S55)), y_ = (x431002_1 ++ [[]]) := ⟨_, rfl⟩
  replace H : (impl_prog_plain.l0 k1 a1 t431 (t431.length : Int) (wrap64 (x19_1 + 1)) l0_0 l0_1 a1 y447 y450) = some (r1, r2, r3) := by first | (rw [hy450]; with_reducible exact H) | (have H2_ := (Option.bind_some _ _).symm.trans H; rw [hy450]; with_reducible exact H2_) | (have H2_ := (Option.bind_some _ _).symm.trans H; with_reducible exact H2_) | with_reducible exact H | (rw [hy450]; exact H) | exact H
  have Ny450 := am hy450
  clear hy450
  have H' := am H
  clear H
  have hnb184 := NB430_0.out
  have hnc184 := NB0_430.out
  have hnb185 := NB430_429.out
  have hnc185 := NB429_430.out
  have hnb186 := NB430_435.out
  have hnc186 := NB435_430.out
  have hnb187 := NB430_445.out
  have hnc187 := NB445_430.out
  have hcz188 := bK w32 BK430
  have hfz188 := bF BK430
  have hnb189 := NB445_0.out
  have hnc189 := NB0_445.out
  have hnb190 := NB445_429.out
  have hnc190 := NB429_445.out
  have hnb191 := NB445_435.out
  have hnc191 := NB435_445.out
  have hcz192_0 := bk w32 BK445 0
  have hcz192_1 := bk w32 BK445 1
  have hcz192_2 := bk w32 BK445 2
  have hcz192_3 := bk w32 BK445 3
  have hcz192_4 := bk w32 BK445 4
  have hfz192_0 := bf BK445 0
  have hfz192_1 := bf BK445 1
  have hfz192_2 := bf BK445 2
  have hfz192_3 := bf BK445 3
  have hfz192_4 := bf BK445 4
  obtain ⟨D1, hD1, n1_, n2_⟩ := rk_grow (vP := .slice Ao25 t436.length co25) (vL := .slice Ao31 t441.length co31) (Kd.R_typed HO438.out) (fun k hk => by first | exact hk | exact hk.2 | exact hk.1 | exact hk.1.2 | exact hk.1.1 | exact hk.1.1.2) HO_431001.out HO_431002.out
  replace HO_431001 := am n1_
  replace HO_431002 := am n2_
  clear n1_ n2_
  go_wp2_with (first | ((with_reducible refine gate_builtin (b := .append) (xs := #[.tmp 32, .tmp 34]) rfl ?_); at_builtin; refine Kd.S_append (rk D1 k50) (w0 := w) w.heap.size rfl (.tmp 32) (.tmp 34) 26 50 (.agg #[(.slice none 0 0), (.int .i64 0), (.int .i64 0), (.slice none 0 0), (.int .i64 0)]) 72 rfl Try.underlying26 info50 rfl (rkz (by decide)) (by omega) u431001 x431001_1 (⟨t436, t439, t440, t441, t444⟩ : S50) [.slice Ao25 t436.length co25, .int .i64 t439, .int .i64 t440, .slice Ao31 t441.length co31, .int .i64 t444] (fun k_ => k_ ≠ gb445) (fun k_ => some k_ = (.slice Ao25 t436.length co25 : Value).ownBlock ∨ some k_ = (.slice Ao31 t441.length co31 : Value).ownBlock) rfl rfl ?aP (fun k_ hk_ => hk_.elim (fun h_ => ((Kd.R_mono (ok' := fun k_ => ((fun k_ => k_ ≠ gb445)) k_ ∧ some k_ ≠ (u431001 : Value).ownBlock) (Kd.R_types (Kd.R_apart' (HO438.out) (Kd.S_typed HO_431001.out) (by decide)) BK445.out (by decide)) (fun k_ hk => ⟨hk.2, hk.1.2⟩))).1 k_ h_.symm) (fun h_ => ((Kd.R_mono (ok' := fun k_ => ((fun k_ => k_ ≠ gb445)) k_ ∧ some k_ ≠ (u431001 : Value).ownBlock) (Kd.R_types (Kd.R_apart' (HO443.out) (Kd.S_typed HO_431001.out) (by decide)) BK445.out (by decide)) (fun k_ hk => ⟨hk.2, hk.1.2⟩))).1 k_ h_.symm)) ?aF ?aO ?aB ?aS ?aL ?_; (case aP => exact k50_mkM _ _ _ (⟨t436, t439, t440, t441, t444⟩ : S50) (Kd.R_mono (Kd.R_tight rfl (Kd.R_mono (ok' := fun k_ => ((fun k_ => k_ ≠ gb445)) k_ ∧ some k_ ≠ (u431001 : Value).ownBlock) (Kd.R_types (Kd.R_apart' (HO438.out) (Kd.S_typed HO_431001.out) (by decide)) BK445.out (by decide)) (fun k_ hk => ⟨hk.2, hk.1.2⟩))) (fun _ h_ => ⟨Or.inl h_, hD1 _ (Or.inl h_)⟩)) (Kd.R_mono (Kd.R_tight rfl (Kd.R_mono (ok' := fun k_ => ((fun k_ => k_ ≠ gb445)) k_ ∧ some k_ ≠ (u431001 : Value).ownBlock) (Kd.R_types (Kd.R_apart' (HO443.out) (Kd.S_typed HO_431001.out) (by decide)) BK445.out (by decide)) (fun k_ hk => ⟨hk.2, hk.1.2⟩))) (fun _ h_ => ⟨Or.inr (h_), hD1 _ (Or.inr h_)⟩))); (case aB => exact (bw HB)); (case aF => exact (fun k_ hk => Kd.freshB (g := gb445) (o := .cells #[.slice Ao25 t436.length co25, .int .i64 t439, .int .i64 t440, .slice Ao31 t441.length co31, .int .i64 t444] 50 (0, 0)) (bp BK445) k_ hk)); (case aO => exact (by (with_reducible repeat (first | apply Kd.S_alloc | apply Kd.S_drewN | apply Kd.S_drew)); exact Kd.S_mono HO_431001.out (fun k_ hk => ⟨hk.2, fun e_ => e_.elim (fun h_ => hk.1.1.2 h_) (fun h_ => hk.1.2 h_)⟩))); (case aS => exact (below_size (bw HB))); (case aL => have := LMc182.out; omega); intro v448 w193 ho hb hg hat; rw [← Ny447.out] at ho; replace HO_17 := am (Kd.V_afterv (ok := (fun k_ => some k_ ≠ (u431002 : Value).ownBlock ∧ some k_ ≠ (.slice Ao25 t436.length co25 : Value).ownBlock ∧ some k_ ≠ (.slice Ao31 t441.length co31 : Value).ownBlock ∧ k_ ≠ gb429 ∧ k_ ≠ gb430 ∧ k_ ≠ gb435 ∧ k_ ≠ gb445)) (by (with_reducible repeat (first | apply Kd.V_alloc | apply Kd.V_drewN | apply Kd.V_drew)); exact Kd.V_mono HO_17.out (fun _ hk => ⟨⟨hk.1.1.1.1.2.1, ⟨hk.1.1.2, ⟨hk.1.2, ⟨hk.1.1.1.1.2.2.1, ⟨hk.1.1.1.1.2.2.2, ⟨hk.1.1.1.2, hk.2⟩⟩⟩⟩⟩⟩, hk.1.1.1.1.1⟩)) hg hat); replace HO_431002 := am (Kd.S_over' (kS HO_431002) (Kd.S_typed (kS HO_431001)) (rkE (by decide)) hg); replace HP0_ := bg HP0_ hg (Kd.S_ne HO_431001.out HP0_.out (by decide)); replace BK429 := bg BK429 hg (Kd.S_ne HO_431001.out BK429.out (by decide)); replace BK430 := bg BK430 hg (Kd.S_ne HO_431001.out BK430.out (by decide)); replace BK435 := bg BK435 hg (Kd.S_ne HO_431001.out BK435.out (by decide)); replace BK445 := bg BK445 hg (Kd.S_away HO_431001.out (fun _ hk => hk.2)); replace HB := am (hb); have HO449 := am (ho); clear HO_431001; clear HO438; clear HO443; clear ho hb hg hat; obtain ⟨Ao194, co194, eo194⟩ := Kd.S_slice HO449.out; subst eo194; have hcz195 := bK w193 BK430; have hfz195 := bF BK430) | ((with_reducible refine gate_builtin (b := .append) (xs := #[.tmp 38, .tmp 39]) rfl ?_); at_builtin; refine Kd.S_append (rk (nD D1) (Kd.slice 55 k55)) (w0 := w) w.heap.size rfl (.tmp 38) (.tmp 39) 27 47 (.slice none 0 0) 24 rfl Try.underlying27 info47 rfl (rkz (by decide)) (by omega) u431002 x431002_1 ([] : List (S55)) [.slice none 0 0] (fun _ => True) (fun _ => False) rfl (by first | (go_simp; done) | (go_simp; rfl)) ?aP (fun k_ hk_ => hk_.elim) ?aF ?aO ?aB ?aS ?aL ?_; (case aP => exact Kd.M_row (Kd.R_nil _ _ _ _ _)); (case aB => exact (bw HB)); (case aF => exact (fun _ _ => trivial)); (case aO => exact (by (with_reducible repeat (first | apply Kd.S_alloc | apply Kd.S_drewN | apply Kd.S_drew)); exact Kd.S_mono (Kd.S_far (p := ⟨gb430, 1, none⟩) (Kd.S_types HO_431002.out BK430.out (rkE (by decide))) (fun _ hk => hk.2) (.slice Ao194 y447.length co194)) (fun k_ hk => ⟨trivial, fun e_ => e_⟩))); (case aS => exact (below_size (bw HB))); (case aL => have := LMc183.out; omega); intro v451 w196 ho hb hg hat; rw [← Ny450.out] at ho; replace HO_17 := am (Kd.V_afterv (ok := (fun k_ => some k_ ≠ (.slice Ao194 y447.length co194 : Value).ownBlock ∧ k_ ≠ gb429 ∧ k_ ≠ gb430 ∧ k_ ≠ gb435 ∧ k_ ≠ gb445)) (by (with_reducible repeat (first | apply Kd.V_alloc | apply Kd.V_drewN | apply Kd.V_drew)); exact Kd.V_mono (Kd.V_far (p := ⟨gb430, 1, none⟩) (Kd.V_mono HO_17.out (fun k_ hk => (⟨hk, hk.1.2.2.2.2.1⟩ : _ ∧ k_ ≠ gb430))) (fun _ hk => hk.2) (.slice Ao194 y447.length co194)) (fun _ hk => ⟨⟨hk.1.2, ⟨hk.1.1.2.2.2.1, ⟨hk.1.1.2.2.2.2.1, ⟨hk.1.1.2.2.2.2.2.1, hk.1.1.2.2.2.2.2.2⟩⟩⟩⟩, hk.1.1.1⟩)) hg hat); replace HP0_ := bO #[.slice A0_0 l0_0.length c0_0, .slice A0_1 l0_1.length c0_1] HP0_ hg (Kd.S_ne HO_431002.out HP0_.out (by decide)); replace BK429 := bO #[.int .i64 0, .slice none 0 0, .slice none 0 0] BK429 hg (Kd.S_ne HO_431002.out BK429.out (by decide)); replace BK435 := bO #[.int .i64 ((rd_T59 t431 x19_1).f0), .int .i64 ((rd_T59 t431 x19_1).f1)] BK435 hg (Kd.S_ne HO_431002.out BK435.out (by decide)); replace BK445 := bO #[.slice Ao25 t436.length co25, .int .i64 t439, .int .i64 t440, .slice Ao31 t441.length co31, .int .i64 t444] BK445 hg (Kd.S_ne HO_431002.out BK445.out (by decide)); replace HO449 := am (Kd.S_over' (by (with_reducible repeat (first | apply Kd.S_alloc | apply Kd.S_drewN | apply Kd.S_drew)); exact (Kd.S_mono (Kd.S_far (p := ⟨gb430, 1, none⟩) (Kd.S_types HO449.out BK430.out (rkE (by decide))) (fun _ hk => hk.2) (.slice Ao194 y447.length co194)) (fun _ h_ => h_.1))) (Kd.S_typed (by (with_reducible repeat (first | apply Kd.S_alloc | apply Kd.S_drewN | apply Kd.S_drew)); exact (Kd.S_mono (Kd.S_far (p := ⟨gb430, 1, none⟩) (Kd.S_types HO_431002.out BK430.out (rkE (by decide))) (fun _ hk => hk.2) (.slice Ao194 y447.length co194)) (fun _ h_ => h_.1)))) (rkE (by decide)) hg); replace BK430 := bO #[.int .i64 a1, .slice Ao194 y447.length co194, u431002] BK430 hg (Kd.S_ne HO_431002.out BK430.out (by decide)); replace HB := am (hb); have HO452 := am (ho); clear HO_431002; clear ho hb hg hat; obtain ⟨Ao197, co197, eo197⟩ := Kd.S_slice HO452.out; subst eo197; have hcz198 := bK w196 BK430; have hfz198 := bF BK430))
  go_roundg k1
  case measure => have := HK1.out; omega
  case rel => exact ⟨D1, (wrap64 (x19_1 + 1)), (y447), (y450), (.slice Ao194 y447.length co194), (.slice Ao197 y450.length co197), dr, H', ⟨by have := HK1.out; omega⟩, ⟨by (with_reducible repeat (first | apply Kd.V_alloc | apply Kd.V_drewN | apply Kd.V_drew)); exact Kd.V_mono (Kd.V_far (p := ⟨gb430, 2, none⟩) (Kd.V_mono HO_17.out (fun k_ hk => (⟨hk, hk.1.2.2.1⟩ : _ ∧ k_ ≠ gb430))) (fun _ hk => hk.2) (.slice Ao197 y450.length co197)) (fun _ hk => ⟨hk.1.1.1, ⟨hk.1.2, ⟨hk.1.1.2.1, hk.1.1.2.2.1⟩⟩⟩)⟩, ⟨by (with_reducible repeat (first | apply Kd.S_alloc | apply Kd.S_drewN | apply Kd.S_drew)); exact Kd.S_mono (Kd.S_far (p := ⟨gb430, 2, none⟩) (Kd.S_types HO449.out BK430.out (rkE (by decide))) (fun _ hk => hk.2) (.slice Ao197 y450.length co197)) (fun _ hk => trivial)⟩, ⟨by (with_reducible repeat (first | apply Kd.S_alloc | apply Kd.S_drewN | apply Kd.S_drew)); exact Kd.S_mono (Kd.S_far (p := ⟨gb430, 2, none⟩) (Kd.S_types HO452.out BK430.out (rkE (by decide))) (fun _ hk => hk.2) (.slice Ao197 y450.length co197)) (fun _ hk => trivial)⟩, ⟨by (with_reducible repeat (first | apply dN | apply dW | apply dA)); refine blk_far ?_ NB0_430.out _; exact bp HP0_⟩, ⟨by (with_reducible repeat (first | apply dN | apply dW | apply dA)); refine blk_far ?_ NB429_430.out _; exact bp BK429⟩, ⟨by (with_reducible repeat (first | apply dN | apply dW | apply dA)); refine blk_put (cs := #[.int .i64 a1, .slice Ao194 y447.length co194, u431002]) ?_ 2 _ rfl; exact bp BK430⟩, ⟨bw HB⟩⟩
 rw [if_neg c12] at H
 have c12b0 := decide_eq_false c12
 clear c12
 simp only [Option.some.injEq, Prod.mk.injEq] at H
 obtain ⟨rfl, rfl, rfl⟩ := H
 have hnb199 := NB430_0.out
 have hnc199 := NB0_430.out
 have hnb200 := NB430_429.out
 have hnc200 := NB429_430.out
 have hcz201 := bK wr BK430
 have hfz201 := bF BK430
 have hnb202 := NB429_0.out
 have hnc202 := NB0_429.out
 have hcz203 := bK wr BK429
 have hfz203 := bF BK429
 obtain ⟨Ao204, co204, eo204⟩ := Kd.S_slice HO_431001.out
 subst eo204
 obtain ⟨Ao205, co205, eo205⟩ := Kd.S_slice HO_431002.out
 subst eo205
 go_wp2
 refine bodyPost_ret (results_cell_row rfl _ _ gb429 29 #[.int .i64 a1, .slice Ao204 x431001_1.length co204, .slice Ao205 x431002_1.length co205] (0, 0) _ rfl (bt BK429) Try.underlying29 rfl (by kernel_rfl)) rfl ?_
 exact ⟨D, _, _, er, by (with_reducible repeat (first | apply Kd.S_alloc | apply Kd.S_drewN | apply Kd.S_drew)); exact Kd.S_mono (Kd.S_far (p := ⟨gb429, 2, none⟩) (Kd.S_far (p := ⟨gb429, 1, none⟩) (Kd.S_far (p := ⟨gb429, 0, none⟩) (Kd.S_types HO_431001.out BK429.out (rkE (by decide))) (fun _ hk => hk.2) (.int .i64 a1)) (fun _ hk => hk.2) (.slice Ao204 x431001_1.length co204)) (fun _ hk => hk.2) (.slice Ao205 x431002_1.length co205)) (fun _ hk => trivial), by (with_reducible repeat (first | apply Kd.S_alloc | apply Kd.S_drewN | apply Kd.S_drew)); exact Kd.S_mono (Kd.S_far (p := ⟨gb429, 2, none⟩) (Kd.S_far (p := ⟨gb429, 1, none⟩) (Kd.S_far (p := ⟨gb429, 0, none⟩) (Kd.S_types HO_431002.out BK429.out (rkE (by decide))) (fun _ hk => hk.2) (.int .i64 a1)) (fun _ hk => hk.2) (.slice Ao204 x431001_1.length co204)) (fun _ hk => hk.2) (.slice Ao205 x431002_1.length co205)) (fun _ hk => trivial), bw HB⟩

end Go.Proofs.Ytcdohkilplgmjaa.QFnExactPlain
