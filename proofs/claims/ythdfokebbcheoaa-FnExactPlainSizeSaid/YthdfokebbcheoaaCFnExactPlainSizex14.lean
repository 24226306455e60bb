import Derived.Test.YthdfokebbcheoaaCFnExactPlainSizex0
import Derived.Test.YthdfokebbcheoaaCFnExactPlainSizex9
import Derived.Test.YthdfokebbcheoaaCFnExactPlainSizex10
import Derived.Test.YthdfokebbcheoaaCFnExactPlainSizex13
namespace Go.Proofs.Ythdfokebbcheoaa.QFnExactPlainSize
open Go.RowKit Go.Proofs.YthdfokebbcheoaaW
open PrintWords PrintLast PrintMore PrintShort PrintIsh
attribute [local go_sem] max2_int min2_int max_two min_two max_three min_three max_four min_four   -- for this text's walks alone
set_option linter.unusedVariables false
set_option maxHeartbeats 8000000
set_option maxRecDepth 100000
set_option linter.unusedSimpArgs false

mutual
def impl_prog_plain.l0 : Nat → Int → List (S99) → Int → Int → List (S93) → List (List Int) → Int → List (S78) → List (List (S95)) → Option (Int × (List (S78)) × (List (List (S95))))
 | 0, _, _, _, _, _, _, _, _, _ => none
 | k + 1, x1, x17, x18, x19, x1000, x1001, x444000, x444001, x444002 => if x19 < x18 then (if 0 ≤ x19 then (if x19 < (x17.length : Int) then ((impl_bareNop.f).bind fun bt449 => ((impl_prog_reached.f x1000 x1001 x1 x19).bind fun t459 => (if t459 = true then ((impl_prog_slots.f x1000 x1001 x1 x19).bind fun t466 => ((impl_Takes.f k x1000 ((rd_T99 x17 x19).f0) ((rd_T99 x17 x19).f1)).bind fun t467 => (if ((rd_T99 x17 x19).f0) = 1 then ((impl_constant.f ((rd_T99 x17 x19).f1)).bind fun bt468 => ((impl_prog_plain_1.f t466 bt468.1 bt468.2).bind fun bt470 => (impl_prog_plain.j3 k x1 t466 x17 x18 x19 x1000 x1001 x444000 x444001 x444002 bt470.1 bt470.2.1 bt470.2.2.1 bt470.2.2.2.1 bt470.2.2.2.2))) else (if ((rd_T99 x17 x19).f0) = 2 then ((impl_memory.f ((rd_T99 x17 x19).f1)).bind fun t479 => ((impl_loc.f t479).bind fun bt480 => ((impl_prog_plain_1.f t466 bt480.1 bt480.2).bind fun bt482 => (impl_prog_plain.j3 k x1 t466 x17 x18 x19 x1000 x1001 x444000 x444001 x444002 bt482.1 bt482.2.1 bt482.2.2.1 bt482.2.2.2.1 bt482.2.2.2.2)))) else (if ((rd_T99 x17 x19).f0) = 3 then ((impl_memory.f (wrap64 (t466 - 1))).bind fun t491 => ((impl_loc.f t491).bind fun bt492 => ((impl_prog_plain_1.f ((rd_T99 x17 x19).f1) bt492.1 bt492.2).bind fun bt494 => (impl_prog_plain.j3 k x1 t466 x17 x18 x19 x1000 x1001 x444000 x444001 x444002 bt494.1 bt494.2.1 bt494.2.2.1 bt494.2.2.2.1 bt494.2.2.2.2)))) else (if ((rd_T99 x17 x19).f0) = 4 then ((impl_memory.f (wrap64 (t466 - 1))).bind fun t503 => ((impl_loc.f t503).bind fun bt504 => ((impl_prog_plain_1.f t466 bt504.1 bt504.2).bind fun bt506 => (impl_prog_plain.j3 k x1 t466 x17 x18 x19 x1000 x1001 x444000 x444001 x444002 bt506.1 bt506.2.1 bt506.2.2.1 bt506.2.2.2.1 bt506.2.2.2.2)))) else (if ((rd_T99 x17 x19).f0) = 5 then (impl_prog_plain.j3 k x1 t466 x17 x18 x19 x1000 x1001 x444000 x444001 x444002 bt449.1 bt449.2.1 bt449.2.2.1 bt449.2.2.2.1 bt449.2.2.2.2) else ((impl_memories.f k (wrap64 (t466 - t467)) t467).bind fun t515 => ((impl_Puts.f k ((rd_T99 x17 x19).f0) ((rd_T99 x17 x19).f1)).bind fun t518 => (if t518 > 0 then ((impl_memory.f (wrap64 (t466 - t467))).bind fun t519 => (impl_prog_plain.j1 k x1 t466 x17 x18 x19 x1000 x1001 x444000 x444001 x444002 ((rd_T99 x17 x19).f0) ((rd_T99 x17 x19).f1) ((rd_T99 x17 x19).f0) t519 t515 0)) else (impl_prog_plain.j1 k x1 t466 x17 x18 x19 x1000 x1001 x444000 x444001 x444002 ((rd_T99 x17 x19).f0) ((rd_T99 x17 x19).f1) ((rd_T99 x17 x19).f0) (-1) t515 0))))))))))) else (if x444001.length < 1954687338268 then (if x444002.length < 5864062014805 then (impl_prog_plain.l0 k x1 x17 x18 (wrap64 (x19 + 1)) x1000 x1001 x444000 (x444001 ++ [(⟨bt449.1, bt449.2.1, bt449.2.2.1, bt449.2.2.2.1, bt449.2.2.2.2⟩ : S78)]) (x444002 ++ [[]])) else (none)) else (none))))) else (none)) else (none)) else (some (x444000, x444001, x444002))
def impl_prog_plain.j3 : Nat → Int → Int → List (S99) → Int → Int → List (S93) → List (List Int) → Int → List (S78) → List (List (S95)) → List (S185) → Int → Int → List (S95) → Int → Option (Int × (List (S78)) × (List (List (S95))))
 | 0, _, _, _, _, _, _, _, _, _, _, _, _, _, _, _ => none
 | k + 1, x1, x10, x17, x18, x19, x1000, x1001, x444000, x444001, x444002, x459000, x459001, x459002, x459003, x459004 => if x444001.length < 1954687338268 then ((impl_memories.f k 0 x10).bind fun t523 => (if x444002.length < 5864062014805 then (impl_prog_plain.l0 k x1 x17 x18 (wrap64 (x19 + 1)) x1000 x1001 x444000 (x444001 ++ [(⟨x459000, x459001, x459002, x459003, x459004⟩ : S78)]) (x444002 ++ [t523])) else (none))) else (none)
def impl_prog_plain.j1 : Nat → Int → Int → List (S99) → Int → Int → List (S93) → List (List Int) → Int → List (S78) → List (List (S95)) → Int → Int → Int → Int → List (S95) → Int → Option (Int × (List (S78)) × (List (List (S95))))
 | 0, _, _, _, _, _, _, _, _, _, _, _, _, _, _, _, _ => none
 | k + 1, x1, x10, x17, x18, x19, x1000, x1001, x444000, x444001, x444002, x449000, x449001, x459001, x459002, x459003, x459004 => if x449000 = 30 then (impl_prog_plain.j2 k x1 x10 x17 x18 x19 true x1000 x1001 x444000 x444001 x444002 x449000 x449001 x459001 x459002 x459003 x459004) else (if x449000 = 31 then (impl_prog_plain.j2 k x1 x10 x17 x18 x19 true x1000 x1001 x444000 x444001 x444002 x449000 x449001 x459001 x459002 x459003 x459004) else (impl_prog_plain.j2 k x1 x10 x17 x18 x19 (x449000 == 32) x1000 x1001 x444000 x444001 x444002 x449000 x449001 x459001 x459002 x459003 x459004))
def impl_prog_plain.j2 : Nat → Int → Int → List (S99) → Int → Int → Bool → List (S93) → List (List Int) → Int → List (S78) → List (List (S95)) → Int → Int → Int → Int → List (S95) → Int → Option (Int × (List (S78)) × (List (List (S95))))
 | 0, _, _, _, _, _, _, _, _, _, _, _, _, _, _, _, _, _ => none
 | k + 1, x1, x10, x17, x18, x19, x83, x1000, x1001, x444000, x444001, x444002, x449000, x449001, x459001, x459002, x459003, x459004 => if x83 = true then (impl_prog_plain.j3 k x1 x10 x17 x18 x19 x1000 x1001 x444000 x444001 x444002 ([] : List (S185)) x459001 x459002 x459003 x449001) else (impl_prog_plain.j3 k x1 x10 x17 x18 x19 x1000 x1001 x444000 x444001 x444002 ([] : List (S185)) x459001 x459002 x459003 x459004)
end
def impl_prog_plain.f (k : Nat) (l0_0 : List (S93)) (l0_1 : List (List Int)) (a1 : Int) : Option (Int × (List (S78)) × (List (List (S95)))) := (impl_prog_code.f l0_0 l0_1 a1).bind fun t444 => (impl_prog_plain.l0 k a1 t444 (t444.length : Int) 0 l0_0 l0_1 a1 ([] : List (S78)) ([] : List (List (S95))))
theorem impl_prog_plain.mono_l : ∀ k, (∀ y0 y1 y2 y3 y4 y5 y6 y7 y8, LeO (impl_prog_plain.l0 k y0 y1 y2 y3 y4 y5 y6 y7 y8) (impl_prog_plain.l0 (k + 1) y0 y1 y2 y3 y4 y5 y6 y7 y8)) ∧ (∀ y0 y1 y2 y3 y4 y5 y6 y7 y8 y9 y10 y11 y12 y13 y14, LeO (impl_prog_plain.j3 k y0 y1 y2 y3 y4 y5 y6 y7 y8 y9 y10 y11 y12 y13 y14) (impl_prog_plain.j3 (k + 1) y0 y1 y2 y3 y4 y5 y6 y7 y8 y9 y10 y11 y12 y13 y14)) ∧ (∀ y0 y1 y2 y3 y4 y5 y6 y7 y8 y9 y10 y11 y12 y13 y14 y15, LeO (impl_prog_plain.j1 k y0 y1 y2 y3 y4 y5 y6 y7 y8 y9 y10 y11 y12 y13 y14 y15) (impl_prog_plain.j1 (k + 1) y0 y1 y2 y3 y4 y5 y6 y7 y8 y9 y10 y11 y12 y13 y14 y15)) ∧ (∀ y0 y1 y2 y3 y4 y5 y6 y7 y8 y9 y10 y11 y12 y13 y14 y15 y16, LeO (impl_prog_plain.j2 k y0 y1 y2 y3 y4 y5 y6 y7 y8 y9 y10 y11 y12 y13 y14 y15 y16) (impl_prog_plain.j2 (k + 1) y0 y1 y2 y3 y4 y5 y6 y7 y8 y9 y10 y11 y12 y13 y14 y15 y16))
 | 0 => ⟨fun _ _ _ _ _ _ _ _ _ r h => by simp [impl_prog_plain.l0] at h, fun _ _ _ _ _ _ _ _ _ _ _ _ _ _ _ r h => by simp [impl_prog_plain.j3] at h, fun _ _ _ _ _ _ _ _ _ _ _ _ _ _ _ _ r h => by simp [impl_prog_plain.j1] at h, fun _ _ _ _ _ _ _ _ _ _ _ _ _ _ _ _ _ r h => by simp [impl_prog_plain.j2] at h⟩
 | k + 1 => by
  obtain ⟨ih0, ih1, ih2, ih3⟩ := impl_prog_plain.mono_l k
  refine ⟨?_, ?_, ?_, ?_⟩
  ·intro y0 y1 y2 y3 y4 y5 y6 y7 y8
   unfold impl_prog_plain.l0
   with_reducible repeat' first | exact ih0 .. | exact ih1 .. | exact ih2 .. | exact ih3 .. | exact impl_Puts.mono .. | exact impl_Takes.mono .. | exact impl_memories.mono .. | exact LeO.refl _ | exact LeO.none _ | refine LeO.ite ?_ ?_ | refine LeO.bind ?_ (fun _ => ?_)
  ·intro y0 y1 y2 y3 y4 y5 y6 y7 y8 y9 y10 y11 y12 y13 y14
   unfold impl_prog_plain.j3
   with_reducible repeat' first | exact ih0 .. | exact ih1 .. | exact ih2 .. | exact ih3 .. | exact impl_Puts.mono .. | exact impl_Takes.mono .. | exact impl_memories.mono .. | exact LeO.refl _ | exact LeO.none _ | refine LeO.ite ?_ ?_ | refine LeO.bind ?_ (fun _ => ?_)
  ·intro y0 y1 y2 y3 y4 y5 y6 y7 y8 y9 y10 y11 y12 y13 y14 y15
   unfold impl_prog_plain.j1
   with_reducible repeat' first | exact ih0 .. | exact ih1 .. | exact ih2 .. | exact ih3 .. | exact impl_Puts.mono .. | exact impl_Takes.mono .. | exact impl_memories.mono .. | exact LeO.refl _ | exact LeO.none _ | refine LeO.ite ?_ ?_ | refine LeO.bind ?_ (fun _ => ?_)
  ·intro y0 y1 y2 y3 y4 y5 y6 y7 y8 y9 y10 y11 y12 y13 y14 y15 y16
   unfold impl_prog_plain.j2
   with_reducible repeat' first | exact ih0 .. | exact ih1 .. | exact ih2 .. | exact ih3 .. | exact impl_Puts.mono .. | exact impl_Takes.mono .. | exact impl_memories.mono .. | exact LeO.refl _ | exact LeO.none _ | refine LeO.ite ?_ ?_ | refine LeO.bind ?_ (fun _ => ?_)
theorem impl_prog_plain.mono : ∀ a0 a1 a2 k, LeO (impl_prog_plain.f k a0 a1 a2) (impl_prog_plain.f (k + 1) a0 a1 a2) := by
 intro a0 a1 a2 k
 obtain ⟨ih0, ih1, ih2, ih3⟩ := impl_prog_plain.mono_l k
 unfold impl_prog_plain.f
 with_reducible repeat' first | exact ih0 .. | exact ih1 .. | exact ih2 .. | exact ih3 .. | exact impl_Puts.mono .. | exact impl_Takes.mono .. | exact impl_memories.mono .. | exact LeO.refl _ | exact LeO.none _ | refine LeO.ite ?_ ?_ | refine LeO.bind ?_ (fun _ => ?_)
def impl_prog_plain.T10 : Bool × List (List Nat × List Nat) := (true, [([], []), ([], []), ([], []), ([0, 1, 2], [0, 1, 2]), ([], []), ([4], [4]), ([5], [5]), ([6], [6]), ([], []), ([7, 8, 3], [7, 8]), ([3, 9, 0, 1, 2, 3], [3]), ([9, 10, 0, 1, 2, 3, 4, 5, 6, 7, 8, 9, 10], [9])])
def impl_prog_plain.B10 : List Nat := [0, 0, 0, 7, 0, 16, 48, 112, 0, 511, 1023, 2047]
theorem impl_prog_plain.tab10 : rtab .any (opsOf Try.f44 10) = impl_prog_plain.T10 := by kernel_rfl
theorem impl_prog_plain.bits10 : waitsOk impl_prog_plain.T10.2 impl_prog_plain.B10 = true := by kernel_rfl
def impl_prog_plain.T13 : Bool × List (List Nat × List Nat) := (true, [([], []), ([0], [0]), ([], []), ([], []), ([2, 3], [2, 3]), ([], []), ([4, 5], [4, 5]), ([1, 6], [1, 6]), ([7, 6, 0, 1, 2, 3, 4, 5, 6, 7], [7])])
def impl_prog_plain.B13 : List Nat := [0, 1, 0, 0, 12, 0, 60, 127, 255]
theorem impl_prog_plain.tab13 : rtab .any (opsOf Try.f44 13) = impl_prog_plain.T13 := by kernel_rfl
theorem impl_prog_plain.bits13 : waitsOk impl_prog_plain.T13.2 impl_prog_plain.B13 = true := by kernel_rfl
def impl_prog_plain.T23 : Bool × List (List Nat × List Nat) := (true, [([], []), ([], []), ([1], [1]), ([], []), ([3], [3]), ([4], [4]), ([5, 5], [5]), ([0, 2, 6, 6], [0, 2, 6])])
def impl_prog_plain.B23 : List Nat := [0, 0, 2, 0, 8, 24, 56, 127]
theorem impl_prog_plain.tab23 : rtab .any (opsOf Try.f44 23) = impl_prog_plain.T23 := by kernel_rfl
theorem impl_prog_plain.bits23 : waitsOk impl_prog_plain.T23.2 impl_prog_plain.B23 = true := by kernel_rfl
def impl_prog_plain.T28 : Bool × List (List Nat × List Nat) := (true, [([], []), ([0], [0]), ([], []), ([2], [2]), ([3], [3]), ([1, 4, 3], [1, 4]), ([0, 1, 2, 3, 4, 5], []), ([6, 5, 5, 0, 1, 2, 3, 4, 5], [5, 6])])
def impl_prog_plain.B28 : List Nat := [0, 1, 0, 4, 12, 31, 63, 127]
theorem impl_prog_plain.tab28 : rtab .any (opsOf Try.f44 28) = impl_prog_plain.T28 := by kernel_rfl
theorem impl_prog_plain.bits28 : waitsOk impl_prog_plain.T28.2 impl_prog_plain.B28 = true := by kernel_rfl
theorem impl_prog_plain.calls (k : Nat) (g0_ : Nat) (A0_0 : Option Addr) (c0_0 : Nat) (l0_0 : List (S93)) (A0_1 : Option Addr) (c0_1 : Nat) (l0_1 : List (List Int)) (a1 : Int) (r1 : Int) (r2 : List (S78)) (r3 : List (List (S95))) (w : World) (hp0 : w.heap[g0_]? = some (.cells #[.slice A0_0 l0_0.length c0_0, .slice A0_1 l0_1.length c0_1] 144 (0, 0))) (hr0_0 : Kd.C k93 w A0_0 l0_0.length l0_0) (hc0_0 : l0_0.length ≤ c0_0) (hr0_1 : Kd.C (Kd.slice 2 (Kd.int .i64)) w A0_1 l0_1.length l0_1) (hc0_1 : l0_1.length ≤ c0_1) (h : impl_prog_plain.f k l0_0 l0_1 a1 = some (r1, r2, r3)) :
  Calls Try.prog 44 #[.pointer (some ⟨g0_, 0, none⟩), .int .i64 a1] w fun e w' => ∃ v1_ v2_ : Value, e = .returned (.agg #[.int .i64 r1, v1_, v2_]) ∧ Kd.S k78 78 w' w.heap.size (fun _ => True) v1_ r2 ∧ Kd.S (Kd.slice 95 k95) 76 w' w.heap.size (fun _ => True) v2_ r3 ∧ Below w.heap.size w w' := by
 have hu36 := Try.underlying36
 have hu99 := Try.underlying99
 have hu78 := Try.underlying78
 have hu29 := Try.underlying29
 have hmf : ∀ (fn : Fn) (first cap : Array Value) (w : World), (Instr.makeFunc fn first cap).run Try.prog w = .ok (.func fn first cap) w := fun _ _ _ _ => rfl
 have HP0_ := am hp0
 clear hp0
 have HR0_0 := am hr0_0
 have HC0_0 := am hc0_0
 clear hr0_0 hc0_0
 have HR0_1 := am hr0_1
 have HC0_1 := am hc0_1
 clear hr0_1 hc0_1
 have HB := am (Below.refl w.heap.size w)
 have H : ((impl_prog_code.f l0_0 l0_1 a1).bind fun t444 => (impl_prog_plain.l0 k a1 t444 (t444.length : Int) 0 l0_0 l0_1 a1 ([] : List (S78)) ([] : List (List (S95))))) = some (r1, r2, r3) := h
 clear h
 refine be H ?_; clear H; intro t444 A3 H
 have H' := am H
 clear H
 go_enter Try.func44, Try.ntmps44
 go_wp2_with (first | ((with_reducible refine gd 4 rfl ?_); refine bX 4 #[.int .i64 0, .slice none 0 0, .slice none 0 0] 36 HB ?_; clear HB; intro gb442 w4 hg hb BK442 GW442 HB; obtain ⟨NB0_442, NB442_0, HP0_⟩ := b3 hg HP0_ hb; clear hb hg) | ((with_reducible refine gd 5 rfl ?_); refine bX 5 #[.int .i64 0, .slice none 0 0, .slice none 0 0] 36 HB ?_; clear HB; intro gb443 w5 hg hb BK443 GW443 HB; obtain ⟨NB0_443, NB443_0, HP0_⟩ := b3 hg HP0_ hb; obtain ⟨NB442_443, NB443_442, BK442⟩ := b3 hg BK442 hb; clear hb hg; have hnb6 := NB443_0.out; have hnc6 := NB0_443.out; have hnb7 := NB443_442.out; have hnc7 := NB442_443.out; have hcz8 := bK w5 BK443; have hfz8 := bF BK443) | ((with_reducible refine gt 36 5 rfl ?_); refine sE 36 5 (((w5.setCell ⟨gb443, 0, none⟩ (.int .i64 a1)).setCell ⟨gb443, 1, none⟩ (.slice none 0 0)).setCell ⟨gb443, 2, none⟩ (.slice none 0 0)) ?_; intro w9 hw; have n0_ : Aside0 (w9.heap[g0_]? = some (.cells #[.slice A0_0 l0_0.length c0_0, .slice A0_1 l0_1.length c0_1] 144 (0, 0))) := ⟨(by rw [hw]; exact (bt HP0_))⟩; have n1_ : Aside0 (w9.heap[gb442]? = some (.cells #[.int .i64 0, .slice none 0 0, .slice none 0 0] 36 (0, 0))) := ⟨(by rw [hw]; exact (bt BK442))⟩; have n2_ : Aside0 (w9.heap[gb443]? = some (.cells #[.int .i64 a1, .slice none 0 0, .slice none 0 0] 36 (0, 0))) := ⟨(by rw [hw]; exact (bt BK443))⟩; have n3_ : Aside0 (Below w.heap.size w w9) := ⟨(by rw [hw]; exact (bw HB))⟩; clear hw; clear HP0_; clear BK442; clear BK443; clear HB; have HP0_ := n0_; have BK442 := n1_; have BK443 := n2_; have HB := n3_; clear n0_ n1_ n2_ n3_) | ((with_reducible refine gk 91 rfl ?_); refine gC 91 (some 17) Try.func91 #[.pointer (some ⟨g0_, 0, none⟩), .int .i64 a1] ((impl_prog_code.calls g0_ (fun k_ => k_ < w.heap.size) A0_0 c0_0 l0_0 A0_1 c0_1 l0_1 a1 t444 _ (bp HP0_) (Kd.V_mk HC0_0.out (Kd.F_below (Kd.C_F k93_heap HR0_0.out) (bw HB))) (cc (Kd.C_below HR0_1.out HB.out)) HC0_1.out A3.out).mono ?_); rintro e w10 ⟨v445, rfl, ho0, hb⟩; refine ⟨_, rfl, ?_⟩; have HO446 := am (Kd.V_lower (Kd.V_mono (ok' := fun k_ => k_ ≠ gb442 ∧ k_ ≠ gb443) ho0 (fun k_ hk_ => ⟨Or.elim hk_ (fun hs_ => fun e_ => Nat.not_le.2 hs_ (by rw [e_]; exact GW442.out)) (fun hn_ => (Kd.freshB (g := gb442) (o := .cells #[.int .i64 0, .slice none 0 0, .slice none 0 0] 36 (0, 0)) (bp BK442) k_ hn_)), Or.elim hk_ (fun hs_ => fun e_ => Nat.not_le.2 hs_ (by rw [e_]; exact GW443.out)) (fun hn_ => (Kd.freshB (g := gb443) (o := .cells #[.int .i64 a1, .slice none 0 0, .slice none 0 0] 36 (0, 0)) (bp BK443) k_ hn_))⟩)) (below_size (bw HB))); replace HP0_ := bb HP0_ hb; replace BK442 := bb BK442 hb; replace BK443 := bb BK443 hb; replace HB := bs HB hb; clear hb; (try clear ho0); obtain ⟨Ao11, co11, eo11⟩ := Kd.V_slice HO446.out; subst eo11))
 go_loopg [19] k (fun kq v19 w' => ∃ (x19_1 : Int) (x444001_1 : List (S78)) (x444002_1 : List (List (S95))) (u444001 : Value) (u444002 : Value), v19 = .int .i64 x19_1 ∧ Aside0 (impl_prog_plain.l0 kq a1 t444 (t444.length : Int) x19_1 l0_0 l0_1 a1 x444001_1 x444002_1 = some (r1, r2, r3)) ∧ Aside0 (kq ≤ k) ∧ Aside0 (Kd.V k99 99 w' w.heap.size (fun k_ => some k_ ≠ (u444001 : Value).ownBlock ∧ some k_ ≠ (u444002 : Value).ownBlock ∧ k_ ≠ gb442 ∧ k_ ≠ gb443) (.slice Ao11 t444.length co11) t444) ∧ Aside0 (Kd.S k78 78 w' w.heap.size (fun _ => True) u444001 x444001_1) ∧ Aside0 (Kd.S (Kd.slice 95 k95) 76 w' w.heap.size (fun _ => True) u444002 x444002_1) ∧ Aside0 (w'.heap[g0_]? = some (.cells #[(.slice A0_0 l0_0.length c0_0), (.slice A0_1 l0_1.length c0_1)] 144 (0, 0))) ∧ Aside0 (w'.heap[gb442]? = some (.cells #[.int .i64 0, (.slice none 0 0), (.slice none 0 0)] 36 (0, 0))) ∧ Aside0 (w'.heap[gb443]? = some (.cells #[.int .i64 a1, u444001, u444002] 36 (0, 0))) ∧ Aside0 (Below w.heap.size w w'))
 case atStart => exact ⟨(0), (([] : List (S78))), (([] : List (List (S95)))), (.slice none 0 0), (.slice none 0 0), dr, H', ⟨Nat.le_refl _⟩, ⟨by (with_reducible repeat (first | apply Kd.V_alloc | apply Kd.V_drewN | apply Kd.V_drew)); exact Kd.V_mono HO446.out (fun _ hk => ⟨(by simp [Value.ownBlock]), ⟨(by simp [Value.ownBlock]), ⟨hk.1, hk.2⟩⟩⟩)⟩, ⟨by first | exact Kd.S_nil _ _ _ _ _ | exact Kd.N_nil _ _ _ _ _ | exact Kd.V_nil _ _ _ _ _ | exact Kd.Q_nil _ _ _ _ _ | exact Kd.R_nil _ _ _ _ _⟩, ⟨by first | exact Kd.S_nil _ _ _ _ _ | exact Kd.N_nil _ _ _ _ _ | exact Kd.V_nil _ _ _ _ _ | exact Kd.Q_nil _ _ _ _ _ | exact Kd.R_nil _ _ _ _ _⟩, ⟨bp HP0_⟩, ⟨bp BK442⟩, ⟨bp BK443⟩, ⟨bw HB⟩⟩
 clear H'
 (try clear p2); (try clear c4); (try clear c6); (try clear c7); (try clear c9); (try clear hcz8); (try clear hfz8)
 obtain ⟨x19_1, x444001_1, x444002_1, u444001, u444002, rfl, HA, HK1, HO_17, HO_444001, HO_444002, HP0_, BK442, BK443, HB⟩ := hrel
 rcases gk with _ | k1
 ·exact absurd HA.out (by simp [impl_prog_plain.l0])
 have H := HA.out
 clear HA
 simp only [impl_prog_plain.l0] at H
 by_cases c12 : x19_1 < (t444.length : Int)
 ·rw [if_pos c12] at H
  have c12b0 := decide_eq_true c12
  clear c12
  refine iN H ?_; clear H; intro c13 H
  have c13b0 := decide_eq_true c13
  clear c13
  refine iN H ?_; clear H; intro c14 H
  have c14b0 := decide_eq_true c14
  clear c14
  replace H := Option.bind_eq_some_iff.mp H
  obtain ⟨⟨t449, t452, t453, t454, t457⟩, A150, H⟩ := H
  replace H : ((impl_prog_reached.f l0_0 l0_1 a1 x19_1).bind fun t459 => (if t459 = true then ((impl_prog_slots.f l0_0 l0_1 a1 x19_1).bind fun t466 => ((impl_Takes.f k1 l0_0 ((rd_T99 t444 x19_1).f0) ((rd_T99 t444 x19_1).f1)).bind fun t467 => (if ((rd_T99 t444 x19_1).f0) = 1 then ((impl_constant.f ((rd_T99 t444 x19_1).f1)).bind fun bt468 => ((impl_prog_plain_1.f t466 bt468.1 bt468.2).bind fun bt470 => (impl_prog_plain.j3 k1 a1 t466 t444 (t444.length : Int) x19_1 l0_0 l0_1 a1 x444001_1 x444002_1 bt470.1 bt470.2.1 bt470.2.2.1 bt470.2.2.2.1 bt470.2.2.2.2))) else (if ((rd_T99 t444 x19_1).f0) = 2 then ((impl_memory.f ((rd_T99 t444 x19_1).f1)).bind fun t479 => ((impl_loc.f t479).bind fun bt480 => ((impl_prog_plain_1.f t466 bt480.1 bt480.2).bind fun bt482 => (impl_prog_plain.j3 k1 a1 t466 t444 (t444.length : Int) x19_1 l0_0 l0_1 a1 x444001_1 x444002_1 bt482.1 bt482.2.1 bt482.2.2.1 bt482.2.2.2.1 bt482.2.2.2.2)))) else (if ((rd_T99 t444 x19_1).f0) = 3 then ((impl_memory.f (wrap64 (t466 - 1))).bind fun t491 => ((impl_loc.f t491).bind fun bt492 => ((impl_prog_plain_1.f ((rd_T99 t444 x19_1).f1) bt492.1 bt492.2).bind fun bt494 => (impl_prog_plain.j3 k1 a1 t466 t444 (t444.length : Int) x19_1 l0_0 l0_1 a1 x444001_1 x444002_1 bt494.1 bt494.2.1 bt494.2.2.1 bt494.2.2.2.1 bt494.2.2.2.2)))) else (if ((rd_T99 t444 x19_1).f0) = 4 then ((impl_memory.f (wrap64 (t466 - 1))).bind fun t503 => ((impl_loc.f t503).bind fun bt504 => ((impl_prog_plain_1.f t466 bt504.1 bt504.2).bind fun bt506 => (impl_prog_plain.j3 k1 a1 t466 t444 (t444.length : Int) x19_1 l0_0 l0_1 a1 x444001_1 x444002_1 bt506.1 bt506.2.1 bt506.2.2.1 bt506.2.2.2.1 bt506.2.2.2.2)))) else (if ((rd_T99 t444 x19_1).f0) = 5 then (impl_prog_plain.j3 k1 a1 t466 t444 (t444.length : Int) x19_1 l0_0 l0_1 a1 x444001_1 x444002_1 t449 t452 t453 t454 t457) else ((impl_memories.f k1 (wrap64 (t466 - t467)) t467).bind fun t515 => ((impl_Puts.f k1 ((rd_T99 t444 x19_1).f0) ((rd_T99 t444 x19_1).f1)).bind fun t518 => (if t518 > 0 then ((impl_memory.f (wrap64 (t466 - t467))).bind fun t519 => (impl_prog_plain.j1 k1 a1 t466 t444 (t444.length : Int) x19_1 l0_0 l0_1 a1 x444001_1 x444002_1 ((rd_T99 t444 x19_1).f0) ((rd_T99 t444 x19_1).f1) ((rd_T99 t444 x19_1).f0) t519 t515 0)) else (impl_prog_plain.j1 k1 a1 t466 t444 (t444.length : Int) x19_1 l0_0 l0_1 a1 x444001_1 x444002_1 ((rd_T99 t444 x19_1).f0) ((rd_T99 t444 x19_1).f1) ((rd_T99 t444 x19_1).f0) (-1) t515 0))))))))))) else (if x444001_1.length < 1954687338268 then (if x444002_1.length < 5864062014805 then (impl_prog_plain.l0 k1 a1 t444 (t444.length : Int) (wrap64 (x19_1 + 1)) l0_0 l0_1 a1 (x444001_1 ++ [(⟨t449, t452, t453, t454, t457⟩ : S78)]) (x444002_1 ++ [[]])) else (none)) else (none)))) = some (r1, r2, r3) := H
  have A15 := am A150
  clear A150
  refine be H ?_; clear H; intro t459 A16 H
  have HC17 := am H
  clear H
  have p447 : 0 ≤ (x19_1 : Int) := of_decide_eq_true as1
  have q447 : x19_1 < (t444.length : Int) := of_decide_eq_true as1
  obtain ⟨ad447, e447, hx447_0, hx447_1⟩ := at_T99 (Kd.V_reads' HO_17.out).2.2 x19_1 p447 q447
  cases e447
  replace p447 := eq_true p447
  replace q447 := eq_true q447
  go_upto_if 30 with (first | ((with_reducible refine gd 7 rfl ?_); refine bX 7 #[.int .i64 0, .int .i64 0] 99 HB ?_; clear HB; intro gb448 w18 hg hb BK448 GW448 HB; replace HO_17 := am (Kd.V_below (Kd.V_elderB (kV HO_17) gb448 (Nat.le_of_eq hg.symm)) hb); replace HO_444001 := am (Kd.S_below (kS HO_444001) hb); replace HO_444002 := am (Kd.S_below (kS HO_444002) hb); obtain ⟨NB0_448, NB448_0, HP0_⟩ := b3 hg HP0_ hb; obtain ⟨NB442_448, NB448_442, BK442⟩ := b3 hg BK442 hb; obtain ⟨NB443_448, NB448_443, BK443⟩ := b3 hg BK443 hb; clear hb hg; have hnb19 := NB448_0.out; have hnc19 := NB0_448.out; have hnb20 := NB448_442.out; have hnc20 := NB442_448.out; have hnb21 := NB448_443.out; have hnc21 := NB443_448.out; have hcz22 := bK w18 BK448; have hfz22 := bF BK448) | ((with_reducible refine gate_callee (f := 92) rfl ?_); refine goesL_ (some 25) rfl rfl Try.func92 (by kernel_rfl) rfl #[] rfl gl ?_; (with_reducible refine (impl_bareNop.calls  t449 t452 t453 t454 t457 _ A15.out).mono ?_); rintro e w23 ⟨v450, v455, rfl, ho0, ho1, hb⟩; refine ⟨_, rfl, ?_⟩; replace HO_17 := am (Kd.V_mono (Kd.V_told (Kd.V_told (Kd.V_old (by (with_reducible repeat (first | apply Kd.V_alloc | apply Kd.V_drewN | apply Kd.V_drew)); exact (Kd.V_mono (Kd.V_far (p := ⟨gb448, 1, none⟩) (Kd.V_far (p := ⟨gb448, 0, none⟩) (Kd.V_mono HO_17.out (fun k_ hk => (⟨hk, hk.2⟩ : _ ∧ k_ ≠ gb448))) (fun _ hk => hk.2) (.int .i64 ((rd_T99 t444 x19_1).f0))) (fun _ hk => hk.2) (.int .i64 ((rd_T99 t444 x19_1).f1))) (fun _ h_ => h_.1))) hb) (Kd.R_base ho0)) (Kd.R_base ho1)) (fun _ h_ => h_.1)); replace HO_444001 := am (Kd.S_mono (Kd.S_told (Kd.S_told (Kd.S_old (by (with_reducible repeat (first | apply Kd.S_alloc | apply Kd.S_drewN | apply Kd.S_drew)); exact (Kd.S_mono (Kd.S_far (p := ⟨gb448, 1, none⟩) (Kd.S_far (p := ⟨gb448, 0, none⟩) (Kd.S_types HO_444001.out BK448.out (by decide)) (fun _ hk => hk.2) (.int .i64 ((rd_T99 t444 x19_1).f0))) (fun _ hk => hk.2) (.int .i64 ((rd_T99 t444 x19_1).f1))) (fun _ h_ => h_.1))) hb) (Kd.R_base ho0)) (Kd.R_base ho1)) (fun _ h_ => h_.1)); replace HO_444002 := am (Kd.S_elder' (by (with_reducible repeat (first | apply Kd.S_alloc | apply Kd.S_drewN | apply Kd.S_drew)); exact (Kd.S_mono (Kd.S_far (p := ⟨gb448, 1, none⟩) (Kd.S_far (p := ⟨gb448, 0, none⟩) (Kd.S_types HO_444002.out BK448.out (by decide)) (fun _ hk => hk.2) (.int .i64 ((rd_T99 t444 x19_1).f0))) (fun _ hk => hk.2) (.int .i64 ((rd_T99 t444 x19_1).f1))) (fun _ h_ => h_.1))) (Kd.R_base ho1) hb); have HO451 := am (Kd.R_lower ho0 (below_size (bw HB))); have HO456 := am (Kd.R_lower ho1 (below_size (bw HB))); replace HP0_ := bb2 HP0_ hb; replace BK442 := bb2 BK442 hb; replace BK443 := bb2 BK443 hb; replace BK448 := bo #[.int .i64 ((rd_T99 t444 x19_1).f0), .int .i64 ((rd_T99 t444 x19_1).f1)] BK448 hb; replace HB := bs HB hb; clear hb; (try clear ho0); (try clear ho1)) | ((with_reducible refine gd 9 rfl ?_); refine bX 9 #[.slice none 0 0, .int .i64 0, .int .i64 0, .slice none 0 0, .int .i64 0] 78 HB ?_; clear HB; intro gb458 w24 hg hb BK458 GW458 HB; replace HO_17 := am (Kd.V_below (Kd.V_elderB (kV HO_17) gb458 (Nat.le_of_eq hg.symm)) hb); replace HO_444001 := am (Kd.S_below (Kd.S_elderB (kS HO_444001) gb458 (Nat.le_of_eq hg.symm)) hb); replace HO_444002 := am (Kd.S_below (kS HO_444002) hb); replace HO451 := am (Kd.R_below (kR HO451) hb); replace HO456 := am (Kd.R_below (kR HO456) hb); obtain ⟨NB0_458, NB458_0, HP0_⟩ := b3 hg HP0_ hb; obtain ⟨NB442_458, NB458_442, BK442⟩ := b3 hg BK442 hb; obtain ⟨NB443_458, NB458_443, BK443⟩ := b3 hg BK443 hb; obtain ⟨NB448_458, NB458_448, BK448⟩ := b3 hg BK448 hb; clear hb hg; obtain ⟨Ao25, co25, eo25⟩ := Kd.R_slice HO451.out; subst eo25; have hnb26 := NB458_0.out; have hnc26 := NB0_458.out; have hnb27 := NB458_442.out; have hnc27 := NB442_458.out; have hnb28 := NB458_443.out; have hnc28 := NB443_458.out; have hnb29 := NB458_448.out; have hnc29 := NB448_458.out; have hcz30_0 := bk w24 BK458 0; have hcz30_1 := bk w24 BK458 1; have hcz30_2 := bk w24 BK458 2; have hcz30_3 := bk w24 BK458 3; have hcz30_4 := bk w24 BK458 4; have hfz30_0 := bf BK458 0; have hfz30_1 := bf BK458 1; have hfz30_2 := bf BK458 2; have hfz30_3 := bf BK458 3; have hfz30_4 := bf BK458 4; obtain ⟨Ao31, co31, eo31⟩ := Kd.R_slice HO456.out; subst eo31) | ((with_reducible refine gk 93 rfl ?_); refine gB 93 (some 29) Try.func93 #[.pointer (some ⟨g0_, 0, none⟩), .int .i64 a1, .int .i64 x19_1] (impl_prog_reached.calls g0_ A0_0 c0_0 l0_0 A0_1 c0_1 l0_1 a1 x19_1 t459 _ (bt HP0_) (Kd.C_below HR0_0.out (bw HB)) HC0_0.out (Kd.C_below HR0_1.out (bw HB)) HC0_1.out A16.out) ?_; intro w32 hb; replace HO_17 := am (Kd.V_below (by (with_reducible repeat (first | apply Kd.V_alloc | apply Kd.V_drewN | apply Kd.V_drew)); exact (Kd.V_mono (Kd.V_far (p := ⟨gb458, 4, none⟩) (Kd.V_far (p := ⟨gb458, 3, none⟩) (Kd.V_far (p := ⟨gb458, 2, none⟩) (Kd.V_far (p := ⟨gb458, 1, none⟩) (Kd.V_far (p := ⟨gb458, 0, none⟩) (Kd.V_mono HO_17.out (fun k_ hk => (⟨hk, hk.2⟩ : _ ∧ k_ ≠ gb458))) (fun _ hk => hk.2) (.slice Ao25 t449.length co25)) (fun _ hk => hk.2) (.int .i64 t452)) (fun _ hk => hk.2) (.int .i64 t453)) (fun _ hk => hk.2) (.slice Ao31 t454.length co31)) (fun _ hk => hk.2) (.int .i64 t457)) (fun _ h_ => h_.1))) hb); replace HO_444001 := am (Kd.S_below (by (with_reducible repeat (first | apply Kd.S_alloc | apply Kd.S_drewN | apply Kd.S_drew)); exact (Kd.S_mono (Kd.S_far (p := ⟨gb458, 4, none⟩) (Kd.S_far (p := ⟨gb458, 3, none⟩) (Kd.S_far (p := ⟨gb458, 2, none⟩) (Kd.S_far (p := ⟨gb458, 1, none⟩) (Kd.S_far (p := ⟨gb458, 0, none⟩) (Kd.S_mono HO_444001.out (fun k_ hk => (⟨hk, hk.2⟩ : _ ∧ k_ ≠ gb458))) (fun _ hk => hk.2) (.slice Ao25 t449.length co25)) (fun _ hk => hk.2) (.int .i64 t452)) (fun _ hk => hk.2) (.int .i64 t453)) (fun _ hk => hk.2) (.slice Ao31 t454.length co31)) (fun _ hk => hk.2) (.int .i64 t457)) (fun _ h_ => h_.1))) hb); replace HO_444002 := am (Kd.S_below (by (with_reducible repeat (first | apply Kd.S_alloc | apply Kd.S_drewN | apply Kd.S_drew)); exact (Kd.S_mono (Kd.S_far (p := ⟨gb458, 4, none⟩) (Kd.S_far (p := ⟨gb458, 3, none⟩) (Kd.S_far (p := ⟨gb458, 2, none⟩) (Kd.S_far (p := ⟨gb458, 1, none⟩) (Kd.S_far (p := ⟨gb458, 0, none⟩) (Kd.S_types HO_444002.out BK458.out (by decide)) (fun _ hk => hk.2) (.slice Ao25 t449.length co25)) (fun _ hk => hk.2) (.int .i64 t452)) (fun _ hk => hk.2) (.int .i64 t453)) (fun _ hk => hk.2) (.slice Ao31 t454.length co31)) (fun _ hk => hk.2) (.int .i64 t457)) (fun _ h_ => h_.1))) hb); replace HO451 := am (Kd.R_below (by (with_reducible repeat (first | apply Kd.R_alloc | apply Kd.R_drewN | apply Kd.R_drew)); exact (Kd.R_mono (Kd.R_far (p := ⟨gb458, 4, none⟩) (Kd.R_far (p := ⟨gb458, 3, none⟩) (Kd.R_far (p := ⟨gb458, 2, none⟩) (Kd.R_far (p := ⟨gb458, 1, none⟩) (Kd.R_far (p := ⟨gb458, 0, none⟩) (Kd.R_types HO451.out BK458.out (by decide)) (fun _ hk => hk.2) (.slice Ao25 t449.length co25)) (fun _ hk => hk.2) (.int .i64 t452)) (fun _ hk => hk.2) (.int .i64 t453)) (fun _ hk => hk.2) (.slice Ao31 t454.length co31)) (fun _ hk => hk.2) (.int .i64 t457)) (fun _ h_ => h_.1))) hb); replace HO456 := am (Kd.R_below (by (with_reducible repeat (first | apply Kd.R_alloc | apply Kd.R_drewN | apply Kd.R_drew)); exact (Kd.R_mono (Kd.R_far (p := ⟨gb458, 4, none⟩) (Kd.R_far (p := ⟨gb458, 3, none⟩) (Kd.R_far (p := ⟨gb458, 2, none⟩) (Kd.R_far (p := ⟨gb458, 1, none⟩) (Kd.R_far (p := ⟨gb458, 0, none⟩) (Kd.R_types HO456.out BK458.out (by decide)) (fun _ hk => hk.2) (.slice Ao25 t449.length co25)) (fun _ hk => hk.2) (.int .i64 t452)) (fun _ hk => hk.2) (.int .i64 t453)) (fun _ hk => hk.2) (.slice Ao31 t454.length co31)) (fun _ hk => hk.2) (.int .i64 t457)) (fun _ h_ => h_.1))) hb); replace HP0_ := bb2 HP0_ hb; replace BK442 := bb2 BK442 hb; replace BK443 := bb2 BK443 hb; replace BK448 := bb2 BK448 hb; replace BK458 := bo #[.slice Ao25 t449.length co25, .int .i64 t452, .int .i64 t453, .slice Ao31 t454.length co31, .int .i64 t457] BK458 hb; replace HB := bs HB hb; clear hb))
  (try simp only [Act.put, sa, sz, ss])
  have H := HC17.out
  clear HC17
  refine qT H ?_ ?_ <;> clear H <;> intro c33 H <;> subst c33
  ·refine be H ?_; clear H; intro t466 A34 H
   refine be H ?_; clear H; intro t467 A35 H
   have HC36 := am H
   clear H
   try go_wp2
   replace HO_17 := am (Kd.V_drew HO_17.out)
   replace HO_444001 := am (Kd.S_drew HO_444001.out)
   replace HO_444002 := am (Kd.S_drew HO_444002.out)
   replace HO451 := am (Kd.R_drew HO451.out)
   replace HO456 := am (Kd.R_drew HO456.out)
   replace HP0_ := am (blk_drew HP0_.out)
   replace BK442 := am (blk_drew BK442.out)
   replace BK443 := am (blk_drew BK443.out)
   replace BK448 := am (blk_drew BK448.out)
   replace BK458 := am (blk_drew BK458.out)
   replace HB := am (below_drew1 HB.out)
   refine start_ (n := 12) (S := fun w' => w'.cell? ⟨g0_, 0, none⟩ = some (.slice A0_0 l0_0.length c0_0) ∧ w'.cell? ⟨g0_, 1, none⟩ = some (.slice A0_1 l0_1.length c0_1) ∧ w'.cell? ⟨gb448, 0, none⟩ = some (.int .i64 ((rd_T99 t444 x19_1).f0)) ∧ w'.cell? ⟨gb448, 1, none⟩ = some (.int .i64 ((rd_T99 t444 x19_1).f1))) (ds := []) (bv 12 0) (by kernel_rfl) rfl (by kernel_rfl) ⟨bc HP0_ 0, bc HP0_ 1, bc BK448 0, bc BK448 1⟩ (fun hHeld => ?_); refine with_tabW impl_prog_plain.tab10 impl_prog_plain.bits10 (fun HT_ HW_ => ?_)
   generalize w32.drew = w37 at HO_17 HO_444001 HO_444002 HO451 HO456 HP0_ BK442 BK443 BK448 BK458 HB hHeld ⊢
   refine pu 0 42 12 1 HT_ ?_
   refine pu 1 43 12 3 HT_ ?_
   refine pu 2 44 12 7 HT_ ?_
   refine pu 4 46 12 23 HT_ ?_
   refine pu 5 47 12 55 HT_ ?_
   refine pu 6 48 12 119 HT_ ?_
   refine tk 7 49 12 247 HT_ HW_ hHeld ?_
   refine tk 8 50 12 503 HT_ HW_ hHeld ?_
   refine on 3 (some 45) 12 511 HT_ fun K hK => ?_
   refine goes_ Try.func94 (by kernel_rfl) rfl #[.pointer (some ⟨g0_, 0, none⟩), .int .i64 a1, .int .i64 x19_1] (by rfl) rfl rfl gl ?_
   refine (impl_prog_slots.calls g0_ A0_0 c0_0 l0_0 A0_1 c0_1 l0_1 a1 x19_1 t466 _ ?side1 ?side2 ?side3 ?side4 ?side5 A34.out).mono ?_
   (case side1 => exact (bp HP0_))
   (case side2 => exact cc (Kd.C_below HR0_0.out HB.out))
   (case side3 => exact HC0_0.out)
   (case side4 => exact cc (Kd.C_below HR0_1.out HB.out))
   (case side5 => exact HC0_1.out)
   rintro e w38 ⟨rfl, hb⟩
   refine ⟨_, rfl, ?_⟩
   replace HO_17 := am (Kd.V_below (kV HO_17) hb)
   replace HO_444001 := am (Kd.S_below (kS HO_444001) hb)
   replace HO_444002 := am (Kd.S_below (kS HO_444002) hb)
   replace HO451 := am (Kd.R_below (kR HO451) hb)
   replace HO456 := am (Kd.R_below (kR HO456) hb)
   replace HP0_ := bb HP0_ hb
   replace BK442 := bb BK442 hb
   replace BK443 := bb BK443 hb
   replace BK448 := bb BK448 hb
   replace BK458 := bb BK458 hb
   replace HB := am (below_step (bw HB) hb)
   clear hb
   refine hK.out _ _ ⟨bc HP0_ 0, bc HP0_ 1, bc BK448 0, bc BK448 1⟩ (fun hHeld => ?_)
   clear hK K
   refine nm (some 45) ?_
   refine on 9 (some 51) 12 1023 HT_ fun K hK => ?_
   refine goes_ Try.func95 (by kernel_rfl) rfl #[.agg #[.slice A0_0 l0_0.length c0_0], .agg #[.int .i64 ((rd_T99 t444 x19_1).f0), .int .i64 ((rd_T99 t444 x19_1).f1)]] (by rfl) rfl rfl gl ?_
   with_reducible refine (impl_Takes.calls k1 _ _ l0_0 ((rd_T99 t444 x19_1).f0) ((rd_T99 t444 x19_1).f1) t467 _ ?side1 ?side2 A35.out).mono ?_
   (case side1 => exact cc (Kd.C_below HR0_0.out HB.out))
   (case side2 => exact HC0_0.out)
   rintro e w39 ⟨rfl, hb⟩
   refine ⟨_, rfl, ?_⟩
   replace HO_17 := am (Kd.V_below (kV HO_17) hb)
   replace HO_444001 := am (Kd.S_below (kS HO_444001) hb)
   replace HO_444002 := am (Kd.S_below (kS HO_444002) hb)
   replace HO451 := am (Kd.R_below (kR HO451) hb)
   replace HO456 := am (Kd.R_below (kR HO456) hb)
   replace HP0_ := bb HP0_ hb
   replace BK442 := bb BK442 hb
   replace BK443 := bb BK443 hb
   replace BK448 := bb BK448 hb
   replace BK458 := bb BK458 hb
   replace HB := am (below_step (bw HB) hb)
   clear hb
   refine hK.out _ _ ⟨bc HP0_ 0, bc HP0_ 1, bc BK448 0, bc BK448 1⟩ (fun hHeld => ?_)
   clear hK K
   refine nm (some 51) ?_
   refine pu 10 10 12 2047 HT_ ?_
   refine pu 11 11 12 4095 HT_ ?_
   refine done_ (done_of HT_.out (by kernel_rfl)) ?_
   have hnb40 := NB448_0.out
   have hnc40 := NB0_448.out
   have hnb41 := NB448_442.out
   have hnc41 := NB442_448.out
   have hnb42 := NB448_443.out
   have hnc42 := NB443_448.out
   have hnb43 := NB448_458.out
   have hnc43 := NB458_448.out
   have hcz44 := bK w39 BK448
   have hfz44 := bF BK448
   go_upto_block 2 with (fail)
   go_cut [] (fun wc => ∃ (kq : Nat) (x459000_35 : List (S185)) (x459001_35 : Int) (x459002_35 : Int) (x459003_35 : List (S95)) (x459004_35 : Int) (u459000 : Value) (u459003 : Value), Aside0 (impl_prog_plain.j3 kq a1 t466 t444 (t444.length : Int) x19_1 l0_0 l0_1 a1 x444001_1 x444002_1 x459000_35 x459001_35 x459002_35 x459003_35 x459004_35 = some (r1, r2, r3)) ∧ Aside0 (kq ≤ k1) ∧ Aside0 (Kd.V k99 99 wc w.heap.size (fun k_ => some k_ ≠ (u444001 : Value).ownBlock ∧ some k_ ≠ (u444002 : Value).ownBlock ∧ some k_ ≠ (u459000 : Value).ownBlock ∧ some k_ ≠ (u459003 : Value).ownBlock ∧ k_ ≠ gb442 ∧ k_ ≠ gb443 ∧ k_ ≠ gb448 ∧ k_ ≠ gb458) (.slice (some ad447) t444.length co11) t444) ∧ Aside0 (Kd.S k78 78 wc w.heap.size (fun k_ => some k_ ≠ (u459000 : Value).ownBlock ∧ some k_ ≠ (u459003 : Value).ownBlock ∧ k_ ≠ gb458) u444001 x444001_1) ∧ Aside0 (Kd.S (Kd.slice 95 k95) 76 wc w.heap.size (fun k_ => some k_ ≠ (u459003 : Value).ownBlock) u444002 x444002_1) ∧ Aside0 (Kd.R k185 185 wc w.heap.size (fun _ => True) u459000 x459000_35) ∧ Aside0 (Kd.R k95 95 wc w.heap.size (fun _ => True) u459003 x459003_35) ∧ Aside0 (wc.heap[g0_]? = some (.cells #[(.slice A0_0 l0_0.length c0_0), (.slice A0_1 l0_1.length c0_1)] 144 (0, 0))) ∧ Aside0 (wc.heap[gb442]? = some (.cells #[.int .i64 0, (.slice none 0 0), (.slice none 0 0)] 36 (0, 0))) ∧ Aside0 (wc.heap[gb443]? = some (.cells #[.int .i64 a1, u444001, u444002] 36 (0, 0))) ∧ Aside0 (wc.heap[gb448]? = some (.cells #[.int .i64 ((rd_T99 t444 x19_1).f0), .int .i64 ((rd_T99 t444 x19_1).f1)] 99 (0, 0))) ∧ Aside0 (wc.heap[gb458]? = some (.cells #[u459000, .int .i64 x459001_35, .int .i64 x459002_35, u459003, .int .i64 x459004_35] 78 (0, 0))) ∧ Aside0 (Below w.heap.size w wc))
   case first =>
    have H := HC36.out
    clear HC36
    refine qE H ?_ ?_ <;> clear H
    ·intro c45b0 c45b1 H
     (first | rw [c45b0] | (simp only [i64_w, i32_w]; rw [c45b0]) | skip)
     replace H := Option.bind_eq_some_iff.mp H
     obtain ⟨⟨t468, t469⟩, A460, H⟩ := H
     replace H : ((impl_prog_plain_1.f t466 t468 t469).bind fun bt470 => (impl_prog_plain.j3 k1 a1 t466 t444 (t444.length : Int) x19_1 l0_0 l0_1 a1 x444001_1 x444002_1 bt470.1 bt470.2.1 bt470.2.2.1 bt470.2.2.2.1 bt470.2.2.2.2)) = some (r1, r2, r3) := H
     have A46 := am A460
     clear A460
     replace H := Option.bind_eq_some_iff.mp H
     obtain ⟨⟨t470, t473, t474, t475, t478⟩, A470, H⟩ := H
     replace H : (impl_prog_plain.j3 k1 a1 t466 t444 (t444.length : Int) x19_1 l0_0 l0_1 a1 x444001_1 x444002_1 t470 t473 t474 t475 t478) = some (r1, r2, r3) := H
     have A47 := am A470
     clear A470
     have H' := am H
     clear H
     have hnb48 := NB448_0.out
     have hnc48 := NB0_448.out
     have hnb49 := NB448_442.out
     have hnc49 := NB442_448.out
     have hnb50 := NB448_443.out
     have hnc50 := NB443_448.out
     have hnb51 := NB448_458.out
     have hnc51 := NB458_448.out
     have hcz52 := bK w39 BK448
     have hfz52 := bF BK448
     go_wp2_with (first | ((with_reducible refine gate_callee (f := 98) rfl ?_); refine goesL_ (some 93) rfl rfl Try.func98 (by kernel_rfl) rfl #[.int .i64 ((rd_T99 t444 x19_1).f1)] rfl gl ?_; (with_reducible refine (impl_constant.calls ((rd_T99 t444 x19_1).f1) t468 t469 _ A46.out).mono ?_); rintro e w53 ⟨rfl, hb⟩; refine ⟨_, rfl, ?_⟩; replace HO_17 := am (Kd.V_below (kV HO_17) hb); replace HO_444001 := am (Kd.S_below (kS HO_444001) hb); replace HO_444002 := am (Kd.S_below (kS HO_444002) hb); replace HO451 := am (Kd.R_below (kR HO451) hb); replace HO456 := am (Kd.R_below (kR HO456) hb); replace HP0_ := bb HP0_ hb; replace BK442 := bb BK442 hb; replace BK443 := bb BK443 hb; replace BK448 := bb BK448 hb; replace BK458 := bb BK458 hb; replace HB := bs HB hb; clear hb) | ((with_reducible refine gate_calleeT (q := .tmp 89) rfl ?_); refine goesC_ (q := .tmp 89) (cap := #[.pointer (some ⟨gb458, 0, none⟩)]) (some 94) rfl rfl Try.func96 (by kernel_rfl) rfl rfl #[.int .i64 t466, .agg #[.int .i64 t468, .int .i64 t469]] #[.int .i64 t466, .agg #[.int .i64 t468, .int .i64 t469], .pointer (some ⟨gb458, 0, none⟩)] rfl gl (by simp only [List.append_toArray, List.cons_append, List.nil_append]) ?_; (with_reducible refine (impl_prog_plain_1.clo t466 t468 t469 t470 t473 t474 t475 t478 _ A47.out (bp BK458)).mono ?_); rintro e w'_ ⟨v471, v476, w54, rfl, ho0, ho1, hb, rfl⟩; refine ⟨_, rfl, ?_⟩; replace HO_17 := am (Kd.V_mono (Kd.V_told (Kd.V_told (Kd.V_old (kV HO_17) hb) (Kd.R_base ho0)) (Kd.R_base ho1)) (fun _ h_ => h_.1)); replace HO_444001 := am (Kd.S_mono (Kd.S_told (Kd.S_told (Kd.S_old (kS HO_444001) hb) (Kd.R_base ho0)) (Kd.R_base ho1)) (fun _ h_ => h_.1)); replace HO_444002 := am (Kd.S_elder' (kS HO_444002) (Kd.R_base ho1) hb); have HO472 := am (Kd.R_lower (Kd.R_new' ho0 (Kd.R_lt (kR HO451))) (below_size (bw HB))); replace HO451 := am (Kd.R_elder' (kR HO451) (Kd.R_base ho0) hb); have HO477 := am (Kd.R_lower (Kd.R_new' ho1 (Kd.R_lt (kR HO456))) (below_size (bw HB))); replace HO456 := am (Kd.R_elder' (kR HO456) (Kd.R_base ho1) hb); replace HP0_ := bb HP0_ hb; replace BK442 := bb BK442 hb; replace BK443 := bb BK443 hb; replace BK448 := bb BK448 hb; replace BK458 := bb BK458 hb; replace HB := bs HB hb; clear hb; (try clear ho0); (try clear ho1); obtain ⟨Ao55, co55, eo55⟩ := Kd.R_slice HO472.out; subst eo55; have hnb56 := NB458_0.out; have hnc56 := NB0_458.out; have hnb57 := NB458_442.out; have hnc57 := NB442_458.out; have hnb58 := NB458_443.out; have hnc58 := NB443_458.out; have hcz59_0 := bk w54 BK458 0; have hcz59_1 := bk w54 BK458 1; have hcz59_2 := bk w54 BK458 2; have hcz59_3 := bk w54 BK458 3; have hcz59_4 := bk w54 BK458 4; have hfz59_0 := bf BK458 0; have hfz59_1 := bf BK458 1; have hfz59_2 := bf BK458 2; have hfz59_3 := bf BK458 3; have hfz59_4 := bf BK458 4; obtain ⟨Ao60, co60, eo60⟩ := Kd.R_slice HO477.out; subst eo60))
     go_meet
     case rel => exact ⟨_, (t470), (t473), (t474), (t475), (t478), (.slice Ao55 t470.length co55), (.slice Ao60 t475.length co60), H', ⟨lk1 HK1⟩, ⟨by (with_reducible repeat (first | apply Kd.V_alloc | apply Kd.V_drewN | apply Kd.V_drew)); exact Kd.V_mono (Kd.V_far (p := ⟨gb458, 4, none⟩) (Kd.V_far (p := ⟨gb458, 3, none⟩) (Kd.V_far (p := ⟨gb458, 2, none⟩) (Kd.V_far (p := ⟨gb458, 1, none⟩) (Kd.V_far (p := ⟨gb458, 0, none⟩) (Kd.V_mono HO_17.out (fun k_ hk => (⟨hk, hk.1.1.2⟩ : _ ∧ k_ ≠ gb458))) (fun _ hk => hk.2) (.slice Ao55 t470.length co55)) (fun _ hk => hk.2) (.int .i64 t473)) (fun _ hk => hk.2) (.int .i64 t474)) (fun _ hk => hk.2) (.slice Ao60 t475.length co60)) (fun _ hk => hk.2) (.int .i64 t478)) (fun _ hk => ⟨hk.1.1.1.1.1.1.1.1, ⟨hk.1.1.1.1.1.1.1.2.1, ⟨hk.1.1.2, ⟨hk.1.2, ⟨hk.1.1.1.1.1.1.1.2.2.1, ⟨hk.1.1.1.1.1.1.1.2.2.2, ⟨hk.1.1.1.1.1.1.2, hk.1.1.1.2⟩⟩⟩⟩⟩⟩⟩)⟩, ⟨by (with_reducible repeat (first | apply Kd.S_alloc | apply Kd.S_drewN | apply Kd.S_drew)); exact Kd.S_mono (Kd.S_far (p := ⟨gb458, 4, none⟩) (Kd.S_far (p := ⟨gb458, 3, none⟩) (Kd.S_far (p := ⟨gb458, 2, none⟩) (Kd.S_far (p := ⟨gb458, 1, none⟩) (Kd.S_far (p := ⟨gb458, 0, none⟩) (Kd.S_mono HO_444001.out (fun k_ hk => (⟨hk, hk.1.1.2⟩ : _ ∧ k_ ≠ gb458))) (fun _ hk => hk.2) (.slice Ao55 t470.length co55)) (fun _ hk => hk.2) (.int .i64 t473)) (fun _ hk => hk.2) (.int .i64 t474)) (fun _ hk => hk.2) (.slice Ao60 t475.length co60)) (fun _ hk => hk.2) (.int .i64 t478)) (fun _ hk => ⟨hk.1.1.2, ⟨hk.1.2, hk.1.1.1.2⟩⟩)⟩, ⟨by (with_reducible repeat (first | apply Kd.S_alloc | apply Kd.S_drewN | apply Kd.S_drew)); exact Kd.S_mono (Kd.S_far (p := ⟨gb458, 4, none⟩) (Kd.S_far (p := ⟨gb458, 3, none⟩) (Kd.S_far (p := ⟨gb458, 2, none⟩) (Kd.S_far (p := ⟨gb458, 1, none⟩) (Kd.S_far (p := ⟨gb458, 0, none⟩) (Kd.S_types HO_444002.out BK458.out (by decide)) (fun _ hk => hk.2) (.slice Ao55 t470.length co55)) (fun _ hk => hk.2) (.int .i64 t473)) (fun _ hk => hk.2) (.int .i64 t474)) (fun _ hk => hk.2) (.slice Ao60 t475.length co60)) (fun _ hk => hk.2) (.int .i64 t478)) (fun _ hk => hk.1.2)⟩, ⟨by (with_reducible repeat (first | apply Kd.R_alloc | apply Kd.R_drewN | apply Kd.R_drew)); exact Kd.R_mono (Kd.R_far (p := ⟨gb458, 4, none⟩) (Kd.R_far (p := ⟨gb458, 3, none⟩) (Kd.R_far (p := ⟨gb458, 2, none⟩) (Kd.R_far (p := ⟨gb458, 1, none⟩) (Kd.R_far (p := ⟨gb458, 0, none⟩) (Kd.R_types HO472.out BK458.out (by decide)) (fun _ hk => hk.2) (.slice Ao55 t470.length co55)) (fun _ hk => hk.2) (.int .i64 t473)) (fun _ hk => hk.2) (.int .i64 t474)) (fun _ hk => hk.2) (.slice Ao60 t475.length co60)) (fun _ hk => hk.2) (.int .i64 t478)) (fun _ hk => trivial)⟩, ⟨by (with_reducible repeat (first | apply Kd.R_alloc | apply Kd.R_drewN | apply Kd.R_drew)); exact Kd.R_mono (Kd.R_far (p := ⟨gb458, 4, none⟩) (Kd.R_far (p := ⟨gb458, 3, none⟩) (Kd.R_far (p := ⟨gb458, 2, none⟩) (Kd.R_far (p := ⟨gb458, 1, none⟩) (Kd.R_far (p := ⟨gb458, 0, none⟩) (Kd.R_types HO477.out BK458.out (by decide)) (fun _ hk => hk.2) (.slice Ao55 t470.length co55)) (fun _ hk => hk.2) (.int .i64 t473)) (fun _ hk => hk.2) (.int .i64 t474)) (fun _ hk => hk.2) (.slice Ao60 t475.length co60)) (fun _ hk => hk.2) (.int .i64 t478)) (fun _ hk => trivial)⟩, ⟨by (with_reducible repeat (first | apply dN | apply dW | apply dA)); refine blk_far ?_ NB0_458.out _; (with_reducible repeat (first | apply dN | apply dW | apply dA)); refine blk_far ?_ NB0_458.out _; (with_reducible repeat (first | apply dN | apply dW | apply dA)); refine blk_far ?_ NB0_458.out _; (with_reducible repeat (first | apply dN | apply dW | apply dA)); refine blk_far ?_ NB0_458.out _; (with_reducible repeat (first | apply dN | apply dW | apply dA)); refine blk_far ?_ NB0_458.out _; exact bp HP0_⟩, ⟨by (with_reducible repeat (first | apply dN | apply dW | apply dA)); refine blk_far ?_ NB442_458.out _; (with_reducible repeat (first | apply dN | apply dW | apply dA)); refine blk_far ?_ NB442_458.out _; (with_reducible repeat (first | apply dN | apply dW | apply dA)); refine blk_far ?_ NB442_458.out _; (with_reducible repeat (first | apply dN | apply dW | apply dA)); refine blk_far ?_ NB442_458.out _; (with_reducible repeat (first | apply dN | apply dW | apply dA)); refine blk_far ?_ NB442_458.out _; exact bp BK442⟩, ⟨by (with_reducible repeat (first | apply dN | apply dW | apply dA)); refine blk_far ?_ NB443_458.out _; (with_reducible repeat (first | apply dN | apply dW | apply dA)); refine blk_far ?_ NB443_458.out _; (with_reducible repeat (first | apply dN | apply dW | apply dA)); refine blk_far ?_ NB443_458.out _; (with_reducible repeat (first | apply dN | apply dW | apply dA)); refine blk_far ?_ NB443_458.out _; (with_reducible repeat (first | apply dN | apply dW | apply dA)); refine blk_far ?_ NB443_458.out _; exact bp BK443⟩, ⟨by (with_reducible repeat (first | apply dN | apply dW | apply dA)); refine blk_far ?_ NB448_458.out _; (with_reducible repeat (first | apply dN | apply dW | apply dA)); refine blk_far ?_ NB448_458.out _; (with_reducible repeat (first | apply dN | apply dW | apply dA)); refine blk_far ?_ NB448_458.out _; (with_reducible repeat (first | apply dN | apply dW | apply dA)); refine blk_far ?_ NB448_458.out _; (with_reducible repeat (first | apply dN | apply dW | apply dA)); refine blk_far ?_ NB448_458.out _; exact bp BK448⟩, ⟨by (with_reducible repeat (first | apply dN | apply dW | apply dA)); refine blk_put (cs := #[.slice Ao55 t470.length co55, .int .i64 t473, .int .i64 t474, .slice Ao60 t475.length co60, .int .i64 t457]) ?_ 4 _ rfl; (with_reducible repeat (first | apply dN | apply dW | apply dA)); refine blk_put (cs := #[.slice Ao55 t470.length co55, .int .i64 t473, .int .i64 t474, .slice Ao31 t454.length co31, .int .i64 t457]) ?_ 3 _ rfl; (with_reducible repeat (first | apply dN | apply dW | apply dA)); refine blk_put (cs := #[.slice Ao55 t470.length co55, .int .i64 t473, .int .i64 t453, .slice Ao31 t454.length co31, .int .i64 t457]) ?_ 2 _ rfl; (with_reducible repeat (first | apply dN | apply dW | apply dA)); refine blk_put (cs := #[.slice Ao55 t470.length co55, .int .i64 t452, .int .i64 t453, .slice Ao31 t454.length co31, .int .i64 t457]) ?_ 1 _ rfl; (with_reducible repeat (first | apply dN | apply dW | apply dA)); refine blk_put (cs := #[.slice Ao25 t449.length co25, .int .i64 t452, .int .i64 t453, .slice Ao31 t454.length co31, .int .i64 t457]) ?_ 0 _ rfl; exact bp BK458⟩, ⟨bw HB⟩⟩
    intro c45 c45b0 c45b1 H
    (first | rw [c45b0] | (simp only [i64_w, i32_w]; rw [c45b0]) | skip)
    refine qE H ?_ ?_ <;> clear H
    ·intro c61b0 c61b1 H
     refine be H ?_; clear H; intro t479 A62 H
     replace H := Option.bind_eq_some_iff.mp H
     obtain ⟨⟨t480, t481⟩, A630, H⟩ := H
     replace H : ((impl_prog_plain_1.f t466 t480 t481).bind fun bt482 => (impl_prog_plain.j3 k1 a1 t466 t444 (t444.length : Int) x19_1 l0_0 l0_1 a1 x444001_1 x444002_1 bt482.1 bt482.2.1 bt482.2.2.1 bt482.2.2.2.1 bt482.2.2.2.2)) = some (r1, r2, r3) := H
     have A63 := am A630
     clear A630
     replace H := Option.bind_eq_some_iff.mp H
     obtain ⟨⟨t482, t485, t486, t487, t490⟩, A640, H⟩ := H
     replace H : (impl_prog_plain.j3 k1 a1 t466 t444 (t444.length : Int) x19_1 l0_0 l0_1 a1 x444001_1 x444002_1 t482 t485 t486 t487 t490) = some (r1, r2, r3) := H
     have A64 := am A640
     clear A640
     have H' := am H
     clear H
     have hnb65 := NB448_0.out
     have hnc65 := NB0_448.out
     have hnb66 := NB448_442.out
     have hnc66 := NB442_448.out
     have hnb67 := NB448_443.out
     have hnc67 := NB443_448.out
     have hnb68 := NB448_458.out
     have hnc68 := NB458_448.out
     have hcz69 := bK w39 BK448
     have hfz69 := bF BK448
     go_wp2_with (first | ((with_reducible refine gate_callee (f := 97) rfl ?_); refine goesL_ (some 101) rfl rfl Try.func97 (by kernel_rfl) rfl #[.int .i64 ((rd_T99 t444 x19_1).f1)] rfl gl ?_; (with_reducible refine (impl_memory.calls ((rd_T99 t444 x19_1).f1) t479 _ A62.out).mono ?_); rintro e w' ⟨rfl, ⟨nd, rfl⟩⟩; refine ⟨_, rfl, ?_⟩; (try (rw [drewN_self w39]; generalize hq_ : World.drewN w39 _ = w39; have n0_ : Aside0 (Kd.R k185 185 w39 w.heap.size (fun _ => True) (.slice Ao25 t449.length co25) t449) := ⟨by rw [← hq_]; exact (kR HO451)⟩; have n1_ : Aside0 (Kd.R k95 95 w39 w.heap.size (fun _ => True) (.slice Ao31 t454.length co31) t454) := ⟨by rw [← hq_]; exact (kR HO456)⟩; have n2_ : Aside0 (Kd.V k99 99 w39 w.heap.size (fun k_ => some k_ ≠ (.slice Ao25 t449.length co25 : Value).ownBlock ∧ some k_ ≠ (.slice Ao31 t454.length co31 : Value).ownBlock ∧ some k_ ≠ (u444001 : Value).ownBlock ∧ some k_ ≠ (u444002 : Value).ownBlock ∧ k_ ≠ gb442 ∧ k_ ≠ gb443 ∧ k_ ≠ gb448 ∧ k_ ≠ gb458) (.slice (some ad447) t444.length co11) t444) := ⟨by rw [← hq_]; exact (by (with_reducible repeat (first | apply Kd.V_alloc | apply Kd.V_drewN | apply Kd.V_drew)); exact Kd.V_mono HO_17.out (fun _ hk => ⟨hk.1.1.2, ⟨hk.1.2, ⟨hk.1.1.1.1.1, ⟨hk.1.1.1.1.2.1, ⟨hk.1.1.1.1.2.2.1, ⟨hk.1.1.1.1.2.2.2, ⟨hk.1.1.1.2, hk.2⟩⟩⟩⟩⟩⟩⟩))⟩; have n3_ : Aside0 (Kd.S k78 78 w39 w.heap.size (fun k_ => some k_ ≠ (.slice Ao25 t449.length co25 : Value).ownBlock ∧ some k_ ≠ (.slice Ao31 t454.length co31 : Value).ownBlock ∧ k_ ≠ gb458) u444001 x444001_1) := ⟨by rw [← hq_]; exact (by (with_reducible repeat (first | apply Kd.S_alloc | apply Kd.S_drewN | apply Kd.S_drew)); exact Kd.S_mono HO_444001.out (fun _ hk => ⟨hk.1.1.2, ⟨hk.1.2, hk.2⟩⟩))⟩; have n4_ : Aside0 (Kd.S (Kd.slice 95 k95) 76 w39 w.heap.size (fun k_ => some k_ ≠ (.slice Ao31 t454.length co31 : Value).ownBlock) u444002 x444002_1) := ⟨by rw [← hq_]; exact (by (with_reducible repeat (first | apply Kd.S_alloc | apply Kd.S_drewN | apply Kd.S_drew)); exact Kd.S_mono HO_444002.out (fun _ hk => hk.2))⟩; have n5_ : Aside0 (w39.heap[gb442]? = some (.cells #[.int .i64 0, .slice none 0 0, .slice none 0 0] 36 (0, 0))) := ⟨by rw [← hq_]; exact (bp BK442)⟩; have n6_ : Aside0 (w39.heap[gb443]? = some (.cells #[.int .i64 a1, u444001, u444002] 36 (0, 0))) := ⟨by rw [← hq_]; exact (bp BK443)⟩; have n7_ : Aside0 (w39.heap[gb448]? = some (.cells #[.int .i64 ((rd_T99 t444 x19_1).f0), .int .i64 ((rd_T99 t444 x19_1).f1)] 99 (0, 0))) := ⟨by rw [← hq_]; exact (bp BK448)⟩; have n8_ : Aside0 (w39.heap[gb458]? = some (.cells #[.slice Ao25 t449.length co25, .int .i64 t452, .int .i64 t453, .slice Ao31 t454.length co31, .int .i64 t457] 78 (0, 0))) := ⟨by rw [← hq_]; exact (bp BK458)⟩; have n9_ : Aside0 (w39.heap[g0_]? = some (.cells #[.slice A0_0 l0_0.length c0_0, .slice A0_1 l0_1.length c0_1] 144 (0, 0))) := ⟨by rw [← hq_]; exact (bp HP0_)⟩; have n10_ : Aside0 (Below w.heap.size w w39) := ⟨by rw [← hq_]; exact (bw HB)⟩; clear HO451 HO456 HO_17 HO_444001 HO_444002 BK442 BK443 BK448 BK458 HP0_ HB hq_; have HO451 := n0_; have HO456 := n1_; have HO_17 := n2_; have HO_444001 := n3_; have HO_444002 := n4_; have BK442 := n5_; have BK443 := n6_; have BK448 := n7_; have BK458 := n8_; have HP0_ := n9_; have HB := n10_; clear n0_ n1_ n2_ n3_ n4_ n5_ n6_ n7_ n8_ n9_ n10_))) | ((with_reducible refine gate_callee (f := 99) rfl ?_); refine goesL_ (some 102) rfl rfl Try.func99 (by kernel_rfl) rfl #[.int .i64 t479] rfl gl ?_; (with_reducible refine (impl_loc.calls t479 t480 t481 _ A63.out).mono ?_); rintro e w70 ⟨rfl, hb⟩; refine ⟨_, rfl, ?_⟩; replace HO_17 := am (Kd.V_below (kV HO_17) hb); replace HO_444001 := am (Kd.S_below (kS HO_444001) hb); replace HO_444002 := am (Kd.S_below (kS HO_444002) hb); replace HO451 := am (Kd.R_below (kR HO451) hb); replace HO456 := am (Kd.R_below (kR HO456) hb); replace HP0_ := bb HP0_ hb; replace BK442 := bb BK442 hb; replace BK443 := bb BK443 hb; replace BK448 := bb BK448 hb; replace BK458 := bb BK458 hb; replace HB := bs HB hb; clear hb) | ((with_reducible refine gate_calleeT (q := .tmp 97) rfl ?_); refine goesC_ (q := .tmp 97) (cap := #[.pointer (some ⟨gb458, 0, none⟩)]) (some 103) rfl rfl Try.func96 (by kernel_rfl) rfl rfl #[.int .i64 t466, .agg #[.int .i64 t480, .int .i64 t481]] #[.int .i64 t466, .agg #[.int .i64 t480, .int .i64 t481], .pointer (some ⟨gb458, 0, none⟩)] rfl gl (by simp only [List.append_toArray, List.cons_append, List.nil_append]) ?_; (with_reducible refine (impl_prog_plain_1.clo t466 t480 t481 t482 t485 t486 t487 t490 _ A64.out (bp BK458)).mono ?_); rintro e w'_ ⟨v483, v488, w71, rfl, ho0, ho1, hb, rfl⟩; refine ⟨_, rfl, ?_⟩; replace HO_17 := am (Kd.V_mono (Kd.V_told (Kd.V_told (Kd.V_old (kV HO_17) hb) (Kd.R_base ho0)) (Kd.R_base ho1)) (fun _ h_ => h_.1)); replace HO_444001 := am (Kd.S_mono (Kd.S_told (Kd.S_told (Kd.S_old (kS HO_444001) hb) (Kd.R_base ho0)) (Kd.R_base ho1)) (fun _ h_ => h_.1)); replace HO_444002 := am (Kd.S_elder' (kS HO_444002) (Kd.R_base ho1) hb); have HO484 := am (Kd.R_lower (Kd.R_new' ho0 (Kd.R_lt (kR HO451))) (below_size (bw HB))); replace HO451 := am (Kd.R_elder' (kR HO451) (Kd.R_base ho0) hb); have HO489 := am (Kd.R_lower (Kd.R_new' ho1 (Kd.R_lt (kR HO456))) (below_size (bw HB))); replace HO456 := am (Kd.R_elder' (kR HO456) (Kd.R_base ho1) hb); replace HP0_ := bb HP0_ hb; replace BK442 := bb BK442 hb; replace BK443 := bb BK443 hb; replace BK448 := bb BK448 hb; replace BK458 := bb BK458 hb; replace HB := bs HB hb; clear hb; (try clear ho0); (try clear ho1); obtain ⟨Ao72, co72, eo72⟩ := Kd.R_slice HO484.out; subst eo72; have hnb73 := NB458_0.out; have hnc73 := NB0_458.out; have hnb74 := NB458_442.out; have hnc74 := NB442_458.out; have hnb75 := NB458_443.out; have hnc75 := NB443_458.out; have hcz76_0 := bk w71 BK458 0; have hcz76_1 := bk w71 BK458 1; have hcz76_2 := bk w71 BK458 2; have hcz76_3 := bk w71 BK458 3; have hcz76_4 := bk w71 BK458 4; have hfz76_0 := bf BK458 0; have hfz76_1 := bf BK458 1; have hfz76_2 := bf BK458 2; have hfz76_3 := bf BK458 3; have hfz76_4 := bf BK458 4; obtain ⟨Ao77, co77, eo77⟩ := Kd.R_slice HO489.out; subst eo77))
     go_meet
     case rel => exact ⟨_, (t482), (t485), (t486), (t487), (t490), (.slice Ao72 t482.length co72), (.slice Ao77 t487.length co77), H', ⟨lk1 HK1⟩, ⟨by (with_reducible repeat (first | apply Kd.V_alloc | apply Kd.V_drewN | apply Kd.V_drew)); exact Kd.V_mono (Kd.V_far (p := ⟨gb458, 4, none⟩) (Kd.V_far (p := ⟨gb458, 3, none⟩) (Kd.V_far (p := ⟨gb458, 2, none⟩) (Kd.V_far (p := ⟨gb458, 1, none⟩) (Kd.V_far (p := ⟨gb458, 0, none⟩) (Kd.V_mono HO_17.out (fun k_ hk => (⟨hk, hk.1.1.2.2.2.2.2.2.2⟩ : _ ∧ k_ ≠ gb458))) (fun _ hk => hk.2) (.slice Ao72 t482.length co72)) (fun _ hk => hk.2) (.int .i64 t485)) (fun _ hk => hk.2) (.int .i64 t486)) (fun _ hk => hk.2) (.slice Ao77 t487.length co77)) (fun _ hk => hk.2) (.int .i64 t490)) (fun _ hk => ⟨hk.1.1.1.2.2.1, ⟨hk.1.1.1.2.2.2.1, ⟨hk.1.1.2, ⟨hk.1.2, ⟨hk.1.1.1.2.2.2.2.1, ⟨hk.1.1.1.2.2.2.2.2.1, ⟨hk.1.1.1.2.2.2.2.2.2.1, hk.1.1.1.2.2.2.2.2.2.2⟩⟩⟩⟩⟩⟩⟩)⟩, ⟨by (with_reducible repeat (first | apply Kd.S_alloc | apply Kd.S_drewN | apply Kd.S_drew)); exact Kd.S_mono (Kd.S_far (p := ⟨gb458, 4, none⟩) (Kd.S_far (p := ⟨gb458, 3, none⟩) (Kd.S_far (p := ⟨gb458, 2, none⟩) (Kd.S_far (p := ⟨gb458, 1, none⟩) (Kd.S_far (p := ⟨gb458, 0, none⟩) (Kd.S_mono HO_444001.out (fun k_ hk => (⟨hk, hk.1.1.2.2⟩ : _ ∧ k_ ≠ gb458))) (fun _ hk => hk.2) (.slice Ao72 t482.length co72)) (fun _ hk => hk.2) (.int .i64 t485)) (fun _ hk => hk.2) (.int .i64 t486)) (fun _ hk => hk.2) (.slice Ao77 t487.length co77)) (fun _ hk => hk.2) (.int .i64 t490)) (fun _ hk => ⟨hk.1.1.2, ⟨hk.1.2, hk.1.1.1.2.2⟩⟩)⟩, ⟨by (with_reducible repeat (first | apply Kd.S_alloc | apply Kd.S_drewN | apply Kd.S_drew)); exact Kd.S_mono (Kd.S_far (p := ⟨gb458, 4, none⟩) (Kd.S_far (p := ⟨gb458, 3, none⟩) (Kd.S_far (p := ⟨gb458, 2, none⟩) (Kd.S_far (p := ⟨gb458, 1, none⟩) (Kd.S_far (p := ⟨gb458, 0, none⟩) (Kd.S_types HO_444002.out BK458.out (by decide)) (fun _ hk => hk.2) (.slice Ao72 t482.length co72)) (fun _ hk => hk.2) (.int .i64 t485)) (fun _ hk => hk.2) (.int .i64 t486)) (fun _ hk => hk.2) (.slice Ao77 t487.length co77)) (fun _ hk => hk.2) (.int .i64 t490)) (fun _ hk => hk.1.2)⟩, ⟨by (with_reducible repeat (first | apply Kd.R_alloc | apply Kd.R_drewN | apply Kd.R_drew)); exact Kd.R_mono (Kd.R_far (p := ⟨gb458, 4, none⟩) (Kd.R_far (p := ⟨gb458, 3, none⟩) (Kd.R_far (p := ⟨gb458, 2, none⟩) (Kd.R_far (p := ⟨gb458, 1, none⟩) (Kd.R_far (p := ⟨gb458, 0, none⟩) (Kd.R_types HO484.out BK458.out (by decide)) (fun _ hk => hk.2) (.slice Ao72 t482.length co72)) (fun _ hk => hk.2) (.int .i64 t485)) (fun _ hk => hk.2) (.int .i64 t486)) (fun _ hk => hk.2) (.slice Ao77 t487.length co77)) (fun _ hk => hk.2) (.int .i64 t490)) (fun _ hk => trivial)⟩, ⟨by (with_reducible repeat (first | apply Kd.R_alloc | apply Kd.R_drewN | apply Kd.R_drew)); exact Kd.R_mono (Kd.R_far (p := ⟨gb458, 4, none⟩) (Kd.R_far (p := ⟨gb458, 3, none⟩) (Kd.R_far (p := ⟨gb458, 2, none⟩) (Kd.R_far (p := ⟨gb458, 1, none⟩) (Kd.R_far (p := ⟨gb458, 0, none⟩) (Kd.R_types HO489.out BK458.out (by decide)) (fun _ hk => hk.2) (.slice Ao72 t482.length co72)) (fun _ hk => hk.2) (.int .i64 t485)) (fun _ hk => hk.2) (.int .i64 t486)) (fun _ hk => hk.2) (.slice Ao77 t487.length co77)) (fun _ hk => hk.2) (.int .i64 t490)) (fun _ hk => trivial)⟩, ⟨by (with_reducible repeat (first | apply dN | apply dW | apply dA)); refine blk_far ?_ NB0_458.out _; (with_reducible repeat (first | apply dN | apply dW | apply dA)); refine blk_far ?_ NB0_458.out _; (with_reducible repeat (first | apply dN | apply dW | apply dA)); refine blk_far ?_ NB0_458.out _; (with_reducible repeat (first | apply dN | apply dW | apply dA)); refine blk_far ?_ NB0_458.out _; (with_reducible repeat (first | apply dN | apply dW | apply dA)); refine blk_far ?_ NB0_458.out _; exact bp HP0_⟩, ⟨by (with_reducible repeat (first | apply dN | apply dW | apply dA)); refine blk_far ?_ NB442_458.out _; (with_reducible repeat (first | apply dN | apply dW | apply dA)); refine blk_far ?_ NB442_458.out _; (with_reducible repeat (first | apply dN | apply dW | apply dA)); refine blk_far ?_ NB442_458.out _; (with_reducible repeat (first | apply dN | apply dW | apply dA)); refine blk_far ?_ NB442_458.out _; (with_reducible repeat (first | apply dN | apply dW | apply dA)); refine blk_far ?_ NB442_458.out _; exact bp BK442⟩, ⟨by (with_reducible repeat (first | apply dN | apply dW | apply dA)); refine blk_far ?_ NB443_458.out _; (with_reducible repeat (first | apply dN | apply dW | apply dA)); refine blk_far ?_ NB443_458.out _; (with_reducible repeat (first | apply dN | apply dW | apply dA)); refine blk_far ?_ NB443_458.out _; (with_reducible repeat (first | apply dN | apply dW | apply dA)); refine blk_far ?_ NB443_458.out _; (with_reducible repeat (first | apply dN | apply dW | apply dA)); refine blk_far ?_ NB443_458.out _; exact bp BK443⟩, ⟨by (with_reducible repeat (first | apply dN | apply dW | apply dA)); refine blk_far ?_ NB448_458.out _; (with_reducible repeat (first | apply dN | apply dW | apply dA)); refine blk_far ?_ NB448_458.out _; (with_reducible repeat (first | apply dN | apply dW | apply dA)); refine blk_far ?_ NB448_458.out _; (with_reducible repeat (first | apply dN | apply dW | apply dA)); refine blk_far ?_ NB448_458.out _; (with_reducible repeat (first | apply dN | apply dW | apply dA)); refine blk_far ?_ NB448_458.out _; exact bp BK448⟩, ⟨by (with_reducible repeat (first | apply dN | apply dW | apply dA)); refine blk_put (cs := #[.slice Ao72 t482.length co72, .int .i64 t485, .int .i64 t486, .slice Ao77 t487.length co77, .int .i64 t457]) ?_ 4 _ rfl; (with_reducible repeat (first | apply dN | apply dW | apply dA)); refine blk_put (cs := #[.slice Ao72 t482.length co72, .int .i64 t485, .int .i64 t486, .slice Ao31 t454.length co31, .int .i64 t457]) ?_ 3 _ rfl; (with_reducible repeat (first | apply dN | apply dW | apply dA)); refine blk_put (cs := #[.slice Ao72 t482.length co72, .int .i64 t485, .int .i64 t453, .slice Ao31 t454.length co31, .int .i64 t457]) ?_ 2 _ rfl; (with_reducible repeat (first | apply dN | apply dW | apply dA)); refine blk_put (cs := #[.slice Ao72 t482.length co72, .int .i64 t452, .int .i64 t453, .slice Ao31 t454.length co31, .int .i64 t457]) ?_ 1 _ rfl; (with_reducible repeat (first | apply dN | apply dW | apply dA)); refine blk_put (cs := #[.slice Ao25 t449.length co25, .int .i64 t452, .int .i64 t453, .slice Ao31 t454.length co31, .int .i64 t457]) ?_ 0 _ rfl; exact bp BK458⟩, ⟨bw HB⟩⟩
    intro c61 c61b0 c61b1 H
    refine qE H ?_ ?_ <;> clear H
    ·intro c78b0 c78b1 H
     refine be H ?_; clear H; intro t491 A79 H
     replace H := Option.bind_eq_some_iff.mp H
     obtain ⟨⟨t492, t493⟩, A800, H⟩ := H
     replace H : ((impl_prog_plain_1.f ((rd_T99 t444 x19_1).f1) t492 t493).bind fun bt494 => (impl_prog_plain.j3 k1 a1 t466 t444 (t444.length : Int) x19_1 l0_0 l0_1 a1 x444001_1 x444002_1 bt494.1 bt494.2.1 bt494.2.2.1 bt494.2.2.2.1 bt494.2.2.2.2)) = some (r1, r2, r3) := H
     have A80 := am A800
     clear A800
     replace H := Option.bind_eq_some_iff.mp H
     obtain ⟨⟨t494, t497, t498, t499, t502⟩, A810, H⟩ := H
     replace H : (impl_prog_plain.j3 k1 a1 t466 t444 (t444.length : Int) x19_1 l0_0 l0_1 a1 x444001_1 x444002_1 t494 t497 t498 t499 t502) = some (r1, r2, r3) := H
     have A81 := am A810
     clear A810
     have H' := am H
     clear H
     try go_wp2
     replace HO_17 := am (Kd.V_drew HO_17.out)
     replace HO_444001 := am (Kd.S_drew HO_444001.out)
     replace HO_444002 := am (Kd.S_drew HO_444002.out)
     replace HO451 := am (Kd.R_drew HO451.out)
     replace HO456 := am (Kd.R_drew HO456.out)
     replace HP0_ := am (blk_drew HP0_.out)
     replace BK442 := am (blk_drew BK442.out)
     replace BK443 := am (blk_drew BK443.out)
     replace BK448 := am (blk_drew BK448.out)
     replace BK458 := am (blk_drew BK458.out)
     replace HB := am (below_drew1 HB.out)
     refine start_ (n := 8) (S := fun w' => w'.cell? ⟨gb448, 0, none⟩ = some (.int .i64 ((rd_T99 t444 x19_1).f0)) ∧ w'.cell? ⟨gb448, 1, none⟩ = some (.int .i64 ((rd_T99 t444 x19_1).f1))) (ds := []) (bv 8 0) (by kernel_rfl) rfl (by kernel_rfl) ⟨bc BK448 0, bc BK448 1⟩ (fun hHeld => ?_); refine with_tabW impl_prog_plain.tab23 impl_prog_plain.bits23 (fun HT_ HW_ => ?_)
     generalize w39.drew = w82 at HO_17 HO_444001 HO_444002 HO451 HO456 HP0_ BK442 BK443 BK448 BK458 HB hHeld ⊢
     refine pu 0 106 8 1 HT_ ?_
     refine pu 1 107 8 3 HT_ ?_
     refine pu 3 109 8 11 HT_ ?_
     refine pu 4 110 8 27 HT_ ?_
     refine tk 2 108 8 31 HT_ HW_ hHeld ?_
     refine on 5 (some 111) 8 63 HT_ fun K hK => ?_
     refine goes_ Try.func97 (by kernel_rfl) rfl #[.int .i64 (wrap64 (t466 - 1))] (by rfl) rfl rfl gl ?_
     with_reducible refine (impl_memory.calls (wrap64 (t466 - 1)) t491 _ A79.out).mono ?_
     rintro e w' ⟨rfl, ⟨nd, rfl⟩⟩
     refine ⟨_, rfl, ?_⟩
     refine hK.out _ _ ⟨bc BK448 0, bc BK448 1⟩ (fun hHeld => ?_)
     clear hK K
     refine nm (some 111) ?_
     refine on 6 (some 112) 8 127 HT_ fun K hK => ?_
     refine goes_ Try.func99 (by kernel_rfl) rfl #[.int .i64 t491] (by rfl) rfl rfl gl ?_
     with_reducible refine (impl_loc.calls t491 t492 t493 _ A80.out).mono ?_
     rintro e w83 ⟨rfl, hb⟩
     refine ⟨_, rfl, ?_⟩
     replace HO_17 := am (Kd.V_below (kV HO_17) hb)
     replace HO_444001 := am (Kd.S_below (kS HO_444001) hb)
     replace HO_444002 := am (Kd.S_below (kS HO_444002) hb)
     replace HO451 := am (Kd.R_below (kR HO451) hb)
     replace HO456 := am (Kd.R_below (kR HO456) hb)
     replace HP0_ := bb HP0_ hb
     replace BK442 := bb BK442 hb
     replace BK443 := bb BK443 hb
     replace BK448 := bb BK448 hb
     replace BK458 := bb BK458 hb
     replace HB := am (below_step (bw HB) hb)
     clear hb
     refine hK.out _ _ ⟨bc BK448 0, bc BK448 1⟩ (fun hHeld => ?_)
     clear hK K
     refine nm (some 112) ?_
     refine on 7 (some 113) 8 255 HT_ fun K hK => ?_
     refine goesCQ_ (q := .tmp 106) (cap := #[.pointer (some ⟨gb458, 0, none⟩)]) Try.func96 (by kernel_rfl) rfl #[.int .i64 ((rd_T99 t444 x19_1).f1), .agg #[.int .i64 t492, .int .i64 t493]] #[.int .i64 ((rd_T99 t444 x19_1).f1), .agg #[.int .i64 t492, .int .i64 t493], .pointer (some ⟨gb458, 0, none⟩)] (by rfl) rfl rfl gl (by simp only [List.append_toArray, List.cons_append, List.nil_append]) ?_ (by rfl)
     with_reducible refine (impl_prog_plain_1.clo ((rd_T99 t444 x19_1).f1) t492 t493 t494 t497 t498 t499 t502 _ A81.out (bp BK458)).mono ?_
     rintro e w'_ ⟨v495, v500, w84, rfl, ho0, ho1, hb, rfl⟩
     refine ⟨_, rfl, ?_⟩
     have n0_ := am (Kd.V_mono (Kd.V_told (Kd.V_told (Kd.V_old (kV HO_17) hb) (Kd.R_base ho0)) (Kd.R_base ho1)) (fun _ h_ => h_.1))
     have n1_ := am (Kd.S_mono (Kd.S_told (Kd.S_told (Kd.S_old (kS HO_444001) hb) (Kd.R_base ho0)) (Kd.R_base ho1)) (fun _ h_ => h_.1))
     have n2_ := am (Kd.S_elder' (kS HO_444002) (Kd.R_base ho1) hb)
     have n3_ := am (Kd.R_elder' (kR HO451) (Kd.R_base ho0) hb)
     have n4_ := am (Kd.R_elder' (kR HO456) (Kd.R_base ho1) hb)
     have n5_ := am (Kd.R_lower (Kd.R_new' ho0 (Kd.R_lt (kR HO451))) (below_size (bw HB)))
     have n6_ := am (Kd.R_lower (Kd.R_new' ho1 (Kd.R_lt (kR HO456))) (below_size (bw HB)))
     have n7_ := bb HP0_ hb
     have n8_ := bb BK442 hb
     have n9_ := bb BK443 hb
     have n10_ := bb BK448 hb
     have n11_ := bb BK458 hb
     have n12_ := am (below_step (bw HB) hb)
     clear HO_17
     clear HO_444001
     clear HO_444002
     clear HO451
     clear HO456
     clear HP0_
     clear BK442
     clear BK443
     clear BK448
     clear BK458
     clear HB
     have HO_17 := n0_
     have HO_444001 := n1_
     have HO_444002 := n2_
     have HO451 := n3_
     have HO456 := n4_
     have HO496 := n5_
     have HO501 := n6_
     have HP0_ := n7_
     have BK442 := n8_
     have BK443 := n9_
     have BK448 := n10_
     have BK458 := n11_
     have HB := n12_
     clear n0_ n1_ n2_ n3_ n4_ n5_ n6_ n7_ n8_ n9_ n10_ n11_ n12_
     clear hb
     (try clear ho0)
     (try clear ho1)
     obtain ⟨Ao85, co85, eo85⟩ := Kd.R_slice HO496.out
     (first | subst eo85 | (injection eo85 with f1_ f2_ f3_; have f4_ := f1_.symm; have f5_ := f3_.symm; clear f1_ f2_ f3_; subst f4_; subst f5_))
     obtain ⟨Ao89, co89, eo89⟩ := Kd.R_slice HO501.out
     (first | subst eo89 | (injection eo89 with f1_ f2_ f3_; have f4_ := f1_.symm; have f5_ := f3_.symm; clear f1_ f2_ f3_; subst f4_; subst f5_))
     refine hK.out _ _ ⟨((cell_far (p := ⟨gb458, _, none⟩) NB448_458.out _).trans (((cell_far (p := ⟨gb458, _, none⟩) NB448_458.out _).trans (((cell_far (p := ⟨gb458, _, none⟩) NB448_458.out _).trans (((cell_far (p := ⟨gb458, _, none⟩) NB448_458.out _).trans (((cell_far (p := ⟨gb458, _, none⟩) NB448_458.out _).trans (bc BK448 0)))))))))), ((cell_far (p := ⟨gb458, _, none⟩) NB448_458.out _).trans (((cell_far (p := ⟨gb458, _, none⟩) NB448_458.out _).trans (((cell_far (p := ⟨gb458, _, none⟩) NB448_458.out _).trans (((cell_far (p := ⟨gb458, _, none⟩) NB448_458.out _).trans (((cell_far (p := ⟨gb458, _, none⟩) NB448_458.out _).trans (bc BK448 1))))))))))⟩ (fun hHeld => ?_)
     clear hK K
     refine nm (some 113) ?_
     refine done_ (done_of HT_.out (by kernel_rfl)) ?_
     try go_wp2
     go_meet
     case rel => exact ⟨_, (t494), (t497), (t498), (t499), (t502), (.slice Ao85 t494.length co85), (.slice Ao89 t499.length co89), H', ⟨lk1 HK1⟩, ⟨by (with_reducible repeat (first | apply Kd.V_alloc | apply Kd.V_drewN | apply Kd.V_drew)); exact Kd.V_mono (Kd.V_far (p := ⟨gb458, 4, none⟩) (Kd.V_far (p := ⟨gb458, 3, none⟩) (Kd.V_far (p := ⟨gb458, 2, none⟩) (Kd.V_far (p := ⟨gb458, 1, none⟩) (Kd.V_far (p := ⟨gb458, 0, none⟩) (Kd.V_mono HO_17.out (fun k_ hk => (⟨hk, hk.1.1.2⟩ : _ ∧ k_ ≠ gb458))) (fun _ hk => hk.2) (.slice Ao85 t494.length co85)) (fun _ hk => hk.2) (.int .i64 t497)) (fun _ hk => hk.2) (.int .i64 t498)) (fun _ hk => hk.2) (.slice Ao89 t499.length co89)) (fun _ hk => hk.2) (.int .i64 t502)) (fun _ hk => ⟨hk.1.1.1.1.1.1.1.1, ⟨hk.1.1.1.1.1.1.1.2.1, ⟨hk.1.1.2, ⟨hk.1.2, ⟨hk.1.1.1.1.1.1.1.2.2.1, ⟨hk.1.1.1.1.1.1.1.2.2.2, ⟨hk.1.1.1.1.1.1.2, hk.1.1.1.2⟩⟩⟩⟩⟩⟩⟩)⟩, ⟨by (with_reducible repeat (first | apply Kd.S_alloc | apply Kd.S_drewN | apply Kd.S_drew)); exact Kd.S_mono (Kd.S_far (p := ⟨gb458, 4, none⟩) (Kd.S_far (p := ⟨gb458, 3, none⟩) (Kd.S_far (p := ⟨gb458, 2, none⟩) (Kd.S_far (p := ⟨gb458, 1, none⟩) (Kd.S_far (p := ⟨gb458, 0, none⟩) (Kd.S_mono HO_444001.out (fun k_ hk => (⟨hk, hk.1.1.2⟩ : _ ∧ k_ ≠ gb458))) (fun _ hk => hk.2) (.slice Ao85 t494.length co85)) (fun _ hk => hk.2) (.int .i64 t497)) (fun _ hk => hk.2) (.int .i64 t498)) (fun _ hk => hk.2) (.slice Ao89 t499.length co89)) (fun _ hk => hk.2) (.int .i64 t502)) (fun _ hk => ⟨hk.1.1.2, ⟨hk.1.2, hk.1.1.1.2⟩⟩)⟩, ⟨by (with_reducible repeat (first | apply Kd.S_alloc | apply Kd.S_drewN | apply Kd.S_drew)); exact Kd.S_mono (Kd.S_far (p := ⟨gb458, 4, none⟩) (Kd.S_far (p := ⟨gb458, 3, none⟩) (Kd.S_far (p := ⟨gb458, 2, none⟩) (Kd.S_far (p := ⟨gb458, 1, none⟩) (Kd.S_far (p := ⟨gb458, 0, none⟩) (Kd.S_types HO_444002.out BK458.out (by decide)) (fun _ hk => hk.2) (.slice Ao85 t494.length co85)) (fun _ hk => hk.2) (.int .i64 t497)) (fun _ hk => hk.2) (.int .i64 t498)) (fun _ hk => hk.2) (.slice Ao89 t499.length co89)) (fun _ hk => hk.2) (.int .i64 t502)) (fun _ hk => hk.1.2)⟩, ⟨by (with_reducible repeat (first | apply Kd.R_alloc | apply Kd.R_drewN | apply Kd.R_drew)); exact Kd.R_mono (Kd.R_far (p := ⟨gb458, 4, none⟩) (Kd.R_far (p := ⟨gb458, 3, none⟩) (Kd.R_far (p := ⟨gb458, 2, none⟩) (Kd.R_far (p := ⟨gb458, 1, none⟩) (Kd.R_far (p := ⟨gb458, 0, none⟩) (Kd.R_types HO496.out BK458.out (by decide)) (fun _ hk => hk.2) (.slice Ao85 t494.length co85)) (fun _ hk => hk.2) (.int .i64 t497)) (fun _ hk => hk.2) (.int .i64 t498)) (fun _ hk => hk.2) (.slice Ao89 t499.length co89)) (fun _ hk => hk.2) (.int .i64 t502)) (fun _ hk => trivial)⟩, ⟨by (with_reducible repeat (first | apply Kd.R_alloc | apply Kd.R_drewN | apply Kd.R_drew)); exact Kd.R_mono (Kd.R_far (p := ⟨gb458, 4, none⟩) (Kd.R_far (p := ⟨gb458, 3, none⟩) (Kd.R_far (p := ⟨gb458, 2, none⟩) (Kd.R_far (p := ⟨gb458, 1, none⟩) (Kd.R_far (p := ⟨gb458, 0, none⟩) (Kd.R_types HO501.out BK458.out (by decide)) (fun _ hk => hk.2) (.slice Ao85 t494.length co85)) (fun _ hk => hk.2) (.int .i64 t497)) (fun _ hk => hk.2) (.int .i64 t498)) (fun _ hk => hk.2) (.slice Ao89 t499.length co89)) (fun _ hk => hk.2) (.int .i64 t502)) (fun _ hk => trivial)⟩, ⟨by (with_reducible repeat (first | apply dN | apply dW | apply dA)); refine blk_far ?_ NB0_458.out _; (with_reducible repeat (first | apply dN | apply dW | apply dA)); refine blk_far ?_ NB0_458.out _; (with_reducible repeat (first | apply dN | apply dW | apply dA)); refine blk_far ?_ NB0_458.out _; (with_reducible repeat (first | apply dN | apply dW | apply dA)); refine blk_far ?_ NB0_458.out _; (with_reducible repeat (first | apply dN | apply dW | apply dA)); refine blk_far ?_ NB0_458.out _; exact bp HP0_⟩, ⟨by (with_reducible repeat (first | apply dN | apply dW | apply dA)); refine blk_far ?_ NB442_458.out _; (with_reducible repeat (first | apply dN | apply dW | apply dA)); refine blk_far ?_ NB442_458.out _; (with_reducible repeat (first | apply dN | apply dW | apply dA)); refine blk_far ?_ NB442_458.out _; (with_reducible repeat (first | apply dN | apply dW | apply dA)); refine blk_far ?_ NB442_458.out _; (with_reducible repeat (first | apply dN | apply dW | apply dA)); refine blk_far ?_ NB442_458.out _; exact bp BK442⟩, ⟨by (with_reducible repeat (first | apply dN | apply dW | apply dA)); refine blk_far ?_ NB443_458.out _; (with_reducible repeat (first | apply dN | apply dW | apply dA)); refine blk_far ?_ NB443_458.out _; (with_reducible repeat (first | apply dN | apply dW | apply dA)); refine blk_far ?_ NB443_458.out _; (with_reducible repeat (first | apply dN | apply dW | apply dA)); refine blk_far ?_ NB443_458.out _; (with_reducible repeat (first | apply dN | apply dW | apply dA)); refine blk_far ?_ NB443_458.out _; exact bp BK443⟩, ⟨by (with_reducible repeat (first | apply dN | apply dW | apply dA)); refine blk_far ?_ NB448_458.out _; (with_reducible repeat (first | apply dN | apply dW | apply dA)); refine blk_far ?_ NB448_458.out _; (with_reducible repeat (first | apply dN | apply dW | apply dA)); refine blk_far ?_ NB448_458.out _; (with_reducible repeat (first | apply dN | apply dW | apply dA)); refine blk_far ?_ NB448_458.out _; (with_reducible repeat (first | apply dN | apply dW | apply dA)); refine blk_far ?_ NB448_458.out _; exact bp BK448⟩, ⟨by (with_reducible repeat (first | apply dN | apply dW | apply dA)); refine blk_put (cs := #[.slice Ao85 t494.length co85, .int .i64 t497, .int .i64 t498, .slice Ao89 t499.length co89, .int .i64 t457]) ?_ 4 _ rfl; (with_reducible repeat (first | apply dN | apply dW | apply dA)); refine blk_put (cs := #[.slice Ao85 t494.length co85, .int .i64 t497, .int .i64 t498, .slice Ao31 t454.length co31, .int .i64 t457]) ?_ 3 _ rfl; (with_reducible repeat (first | apply dN | apply dW | apply dA)); refine blk_put (cs := #[.slice Ao85 t494.length co85, .int .i64 t497, .int .i64 t453, .slice Ao31 t454.length co31, .int .i64 t457]) ?_ 2 _ rfl; (with_reducible repeat (first | apply dN | apply dW | apply dA)); refine blk_put (cs := #[.slice Ao85 t494.length co85, .int .i64 t452, .int .i64 t453, .slice Ao31 t454.length co31, .int .i64 t457]) ?_ 1 _ rfl; (with_reducible repeat (first | apply dN | apply dW | apply dA)); refine blk_put (cs := #[.slice Ao25 t449.length co25, .int .i64 t452, .int .i64 t453, .slice Ao31 t454.length co31, .int .i64 t457]) ?_ 0 _ rfl; exact bp BK458⟩, ⟨bw HB⟩⟩
    intro c78 c78b0 c78b1 H
    refine qE H ?_ ?_ <;> clear H
    ·intro c92b0 c92b1 H
     refine be H ?_; clear H; intro t503 A93 H
     replace H := Option.bind_eq_some_iff.mp H
     obtain ⟨⟨t504, t505⟩, A940, H⟩ := H
     replace H : ((impl_prog_plain_1.f t466 t504 t505).bind fun bt506 => (impl_prog_plain.j3 k1 a1 t466 t444 (t444.length : Int) x19_1 l0_0 l0_1 a1 x444001_1 x444002_1 bt506.1 bt506.2.1 bt506.2.2.1 bt506.2.2.2.1 bt506.2.2.2.2)) = some (r1, r2, r3) := H
     have A94 := am A940
     clear A940
     replace H := Option.bind_eq_some_iff.mp H
     obtain ⟨⟨t506, t509, t510, t511, t514⟩, A950, H⟩ := H
     replace H : (impl_prog_plain.j3 k1 a1 t466 t444 (t444.length : Int) x19_1 l0_0 l0_1 a1 x444001_1 x444002_1 t506 t509 t510 t511 t514) = some (r1, r2, r3) := H
     have A95 := am A950
     clear A950
     have H' := am H
     clear H
     go_wp2_with (first | ((with_reducible refine gate_callee (f := 97) rfl ?_); refine goesL_ (some 120) rfl rfl Try.func97 (by kernel_rfl) rfl #[.int .i64 (wrap64 (t466 - 1))] rfl gl ?_; (with_reducible refine (impl_memory.calls (wrap64 (t466 - 1)) t503 _ A93.out).mono ?_); rintro e w' ⟨rfl, ⟨nd, rfl⟩⟩; refine ⟨_, rfl, ?_⟩; (try (rw [drewN_self w39]; generalize hq_ : World.drewN w39 _ = w39; have n0_ : Aside0 (Kd.R k185 185 w39 w.heap.size (fun _ => True) (.slice Ao25 t449.length co25) t449) := ⟨by rw [← hq_]; exact (kR HO451)⟩; have n1_ : Aside0 (Kd.R k95 95 w39 w.heap.size (fun _ => True) (.slice Ao31 t454.length co31) t454) := ⟨by rw [← hq_]; exact (kR HO456)⟩; have n2_ : Aside0 (Kd.V k99 99 w39 w.heap.size (fun k_ => some k_ ≠ (.slice Ao25 t449.length co25 : Value).ownBlock ∧ some k_ ≠ (.slice Ao31 t454.length co31 : Value).ownBlock ∧ some k_ ≠ (u444001 : Value).ownBlock ∧ some k_ ≠ (u444002 : Value).ownBlock ∧ k_ ≠ gb442 ∧ k_ ≠ gb443 ∧ k_ ≠ gb448 ∧ k_ ≠ gb458) (.slice (some ad447) t444.length co11) t444) := ⟨by rw [← hq_]; exact (by (with_reducible repeat (first | apply Kd.V_alloc | apply Kd.V_drewN | apply Kd.V_drew)); exact Kd.V_mono HO_17.out (fun _ hk => ⟨hk.1.1.2, ⟨hk.1.2, ⟨hk.1.1.1.1.1, ⟨hk.1.1.1.1.2.1, ⟨hk.1.1.1.1.2.2.1, ⟨hk.1.1.1.1.2.2.2, ⟨hk.1.1.1.2, hk.2⟩⟩⟩⟩⟩⟩⟩))⟩; have n3_ : Aside0 (Kd.S k78 78 w39 w.heap.size (fun k_ => some k_ ≠ (.slice Ao25 t449.length co25 : Value).ownBlock ∧ some k_ ≠ (.slice Ao31 t454.length co31 : Value).ownBlock ∧ k_ ≠ gb458) u444001 x444001_1) := ⟨by rw [← hq_]; exact (by (with_reducible repeat (first | apply Kd.S_alloc | apply Kd.S_drewN | apply Kd.S_drew)); exact Kd.S_mono HO_444001.out (fun _ hk => ⟨hk.1.1.2, ⟨hk.1.2, hk.2⟩⟩))⟩; have n4_ : Aside0 (Kd.S (Kd.slice 95 k95) 76 w39 w.heap.size (fun k_ => some k_ ≠ (.slice Ao31 t454.length co31 : Value).ownBlock) u444002 x444002_1) := ⟨by rw [← hq_]; exact (by (with_reducible repeat (first | apply Kd.S_alloc | apply Kd.S_drewN | apply Kd.S_drew)); exact Kd.S_mono HO_444002.out (fun _ hk => hk.2))⟩; have n5_ : Aside0 (w39.heap[gb442]? = some (.cells #[.int .i64 0, .slice none 0 0, .slice none 0 0] 36 (0, 0))) := ⟨by rw [← hq_]; exact (bp BK442)⟩; have n6_ : Aside0 (w39.heap[gb443]? = some (.cells #[.int .i64 a1, u444001, u444002] 36 (0, 0))) := ⟨by rw [← hq_]; exact (bp BK443)⟩; have n7_ : Aside0 (w39.heap[gb448]? = some (.cells #[.int .i64 ((rd_T99 t444 x19_1).f0), .int .i64 ((rd_T99 t444 x19_1).f1)] 99 (0, 0))) := ⟨by rw [← hq_]; exact (bp BK448)⟩; have n8_ : Aside0 (w39.heap[gb458]? = some (.cells #[.slice Ao25 t449.length co25, .int .i64 t452, .int .i64 t453, .slice Ao31 t454.length co31, .int .i64 t457] 78 (0, 0))) := ⟨by rw [← hq_]; exact (bp BK458)⟩; have n9_ : Aside0 (w39.heap[g0_]? = some (.cells #[.slice A0_0 l0_0.length c0_0, .slice A0_1 l0_1.length c0_1] 144 (0, 0))) := ⟨by rw [← hq_]; exact (bp HP0_)⟩; have n10_ : Aside0 (Below w.heap.size w w39) := ⟨by rw [← hq_]; exact (bw HB)⟩; clear HO451 HO456 HO_17 HO_444001 HO_444002 BK442 BK443 BK448 BK458 HP0_ HB hq_; have HO451 := n0_; have HO456 := n1_; have HO_17 := n2_; have HO_444001 := n3_; have HO_444002 := n4_; have BK442 := n5_; have BK443 := n6_; have BK448 := n7_; have BK458 := n8_; have HP0_ := n9_; have HB := n10_; clear n0_ n1_ n2_ n3_ n4_ n5_ n6_ n7_ n8_ n9_ n10_))) | ((with_reducible refine gate_callee (f := 99) rfl ?_); refine goesL_ (some 121) rfl rfl Try.func99 (by kernel_rfl) rfl #[.int .i64 t503] rfl gl ?_; (with_reducible refine (impl_loc.calls t503 t504 t505 _ A94.out).mono ?_); rintro e w96 ⟨rfl, hb⟩; refine ⟨_, rfl, ?_⟩; replace HO_17 := am (Kd.V_below (kV HO_17) hb); replace HO_444001 := am (Kd.S_below (kS HO_444001) hb); replace HO_444002 := am (Kd.S_below (kS HO_444002) hb); replace HO451 := am (Kd.R_below (kR HO451) hb); replace HO456 := am (Kd.R_below (kR HO456) hb); replace HP0_ := bb HP0_ hb; replace BK442 := bb BK442 hb; replace BK443 := bb BK443 hb; replace BK448 := bb BK448 hb; replace BK458 := bb BK458 hb; replace HB := bs HB hb; clear hb) | ((with_reducible refine gate_calleeT (q := .tmp 116) rfl ?_); refine goesC_ (q := .tmp 116) (cap := #[.pointer (some ⟨gb458, 0, none⟩)]) (some 122) rfl rfl Try.func96 (by kernel_rfl) rfl rfl #[.int .i64 t466, .agg #[.int .i64 t504, .int .i64 t505]] #[.int .i64 t466, .agg #[.int .i64 t504, .int .i64 t505], .pointer (some ⟨gb458, 0, none⟩)] rfl gl (by simp only [List.append_toArray, List.cons_append, List.nil_append]) ?_; (with_reducible refine (impl_prog_plain_1.clo t466 t504 t505 t506 t509 t510 t511 t514 _ A95.out (bp BK458)).mono ?_); rintro e w'_ ⟨v507, v512, w97, rfl, ho0, ho1, hb, rfl⟩; refine ⟨_, rfl, ?_⟩; replace HO_17 := am (Kd.V_mono (Kd.V_told (Kd.V_told (Kd.V_old (kV HO_17) hb) (Kd.R_base ho0)) (Kd.R_base ho1)) (fun _ h_ => h_.1)); replace HO_444001 := am (Kd.S_mono (Kd.S_told (Kd.S_told (Kd.S_old (kS HO_444001) hb) (Kd.R_base ho0)) (Kd.R_base ho1)) (fun _ h_ => h_.1)); replace HO_444002 := am (Kd.S_elder' (kS HO_444002) (Kd.R_base ho1) hb); have HO508 := am (Kd.R_lower (Kd.R_new' ho0 (Kd.R_lt (kR HO451))) (below_size (bw HB))); replace HO451 := am (Kd.R_elder' (kR HO451) (Kd.R_base ho0) hb); have HO513 := am (Kd.R_lower (Kd.R_new' ho1 (Kd.R_lt (kR HO456))) (below_size (bw HB))); replace HO456 := am (Kd.R_elder' (kR HO456) (Kd.R_base ho1) hb); replace HP0_ := bb HP0_ hb; replace BK442 := bb BK442 hb; replace BK443 := bb BK443 hb; replace BK448 := bb BK448 hb; replace BK458 := bb BK458 hb; replace HB := bs HB hb; clear hb; (try clear ho0); (try clear ho1); obtain ⟨Ao98, co98, eo98⟩ := Kd.R_slice HO508.out; subst eo98; have hnb99 := NB458_0.out; have hnc99 := NB0_458.out; have hnb100 := NB458_442.out; have hnc100 := NB442_458.out; have hnb101 := NB458_443.out; have hnc101 := NB443_458.out; have hnb102 := NB458_448.out; have hnc102 := NB448_458.out; have hcz103_0 := bk w97 BK458 0; have hcz103_1 := bk w97 BK458 1; have hcz103_2 := bk w97 BK458 2; have hcz103_3 := bk w97 BK458 3; have hcz103_4 := bk w97 BK458 4; have hfz103_0 := bf BK458 0; have hfz103_1 := bf BK458 1; have hfz103_2 := bf BK458 2; have hfz103_3 := bf BK458 3; have hfz103_4 := bf BK458 4; obtain ⟨Ao104, co104, eo104⟩ := Kd.R_slice HO513.out; subst eo104))
     go_meet
     case rel => exact ⟨_, (t506), (t509), (t510), (t511), (t514), (.slice Ao98 t506.length co98), (.slice Ao104 t511.length co104), H', ⟨lk1 HK1⟩, ⟨by (with_reducible repeat (first | apply Kd.V_alloc | apply Kd.V_drewN | apply Kd.V_drew)); exact Kd.V_mono (Kd.V_far (p := ⟨gb458, 4, none⟩) (Kd.V_far (p := ⟨gb458, 3, none⟩) (Kd.V_far (p := ⟨gb458, 2, none⟩) (Kd.V_far (p := ⟨gb458, 1, none⟩) (Kd.V_far (p := ⟨gb458, 0, none⟩) (Kd.V_mono HO_17.out (fun k_ hk => (⟨hk, hk.1.1.2.2.2.2.2.2.2⟩ : _ ∧ k_ ≠ gb458))) (fun _ hk => hk.2) (.slice Ao98 t506.length co98)) (fun _ hk => hk.2) (.int .i64 t509)) (fun _ hk => hk.2) (.int .i64 t510)) (fun _ hk => hk.2) (.slice Ao104 t511.length co104)) (fun _ hk => hk.2) (.int .i64 t514)) (fun _ hk => ⟨hk.1.1.1.2.2.1, ⟨hk.1.1.1.2.2.2.1, ⟨hk.1.1.2, ⟨hk.1.2, ⟨hk.1.1.1.2.2.2.2.1, ⟨hk.1.1.1.2.2.2.2.2.1, ⟨hk.1.1.1.2.2.2.2.2.2.1, hk.1.1.1.2.2.2.2.2.2.2⟩⟩⟩⟩⟩⟩⟩)⟩, ⟨by (with_reducible repeat (first | apply Kd.S_alloc | apply Kd.S_drewN | apply Kd.S_drew)); exact Kd.S_mono (Kd.S_far (p := ⟨gb458, 4, none⟩) (Kd.S_far (p := ⟨gb458, 3, none⟩) (Kd.S_far (p := ⟨gb458, 2, none⟩) (Kd.S_far (p := ⟨gb458, 1, none⟩) (Kd.S_far (p := ⟨gb458, 0, none⟩) (Kd.S_mono HO_444001.out (fun k_ hk => (⟨hk, hk.1.1.2.2⟩ : _ ∧ k_ ≠ gb458))) (fun _ hk => hk.2) (.slice Ao98 t506.length co98)) (fun _ hk => hk.2) (.int .i64 t509)) (fun _ hk => hk.2) (.int .i64 t510)) (fun _ hk => hk.2) (.slice Ao104 t511.length co104)) (fun _ hk => hk.2) (.int .i64 t514)) (fun _ hk => ⟨hk.1.1.2, ⟨hk.1.2, hk.1.1.1.2.2⟩⟩)⟩, ⟨by (with_reducible repeat (first | apply Kd.S_alloc | apply Kd.S_drewN | apply Kd.S_drew)); exact Kd.S_mono (Kd.S_far (p := ⟨gb458, 4, none⟩) (Kd.S_far (p := ⟨gb458, 3, none⟩) (Kd.S_far (p := ⟨gb458, 2, none⟩) (Kd.S_far (p := ⟨gb458, 1, none⟩) (Kd.S_far (p := ⟨gb458, 0, none⟩) (Kd.S_types HO_444002.out BK458.out (by decide)) (fun _ hk => hk.2) (.slice Ao98 t506.length co98)) (fun _ hk => hk.2) (.int .i64 t509)) (fun _ hk => hk.2) (.int .i64 t510)) (fun _ hk => hk.2) (.slice Ao104 t511.length co104)) (fun _ hk => hk.2) (.int .i64 t514)) (fun _ hk => hk.1.2)⟩, ⟨by (with_reducible repeat (first | apply Kd.R_alloc | apply Kd.R_drewN | apply Kd.R_drew)); exact Kd.R_mono (Kd.R_far (p := ⟨gb458, 4, none⟩) (Kd.R_far (p := ⟨gb458, 3, none⟩) (Kd.R_far (p := ⟨gb458, 2, none⟩) (Kd.R_far (p := ⟨gb458, 1, none⟩) (Kd.R_far (p := ⟨gb458, 0, none⟩) (Kd.R_types HO508.out BK458.out (by decide)) (fun _ hk => hk.2) (.slice Ao98 t506.length co98)) (fun _ hk => hk.2) (.int .i64 t509)) (fun _ hk => hk.2) (.int .i64 t510)) (fun _ hk => hk.2) (.slice Ao104 t511.length co104)) (fun _ hk => hk.2) (.int .i64 t514)) (fun _ hk => trivial)⟩, ⟨by (with_reducible repeat (first | apply Kd.R_alloc | apply Kd.R_drewN | apply Kd.R_drew)); exact Kd.R_mono (Kd.R_far (p := ⟨gb458, 4, none⟩) (Kd.R_far (p := ⟨gb458, 3, none⟩) (Kd.R_far (p := ⟨gb458, 2, none⟩) (Kd.R_far (p := ⟨gb458, 1, none⟩) (Kd.R_far (p := ⟨gb458, 0, none⟩) (Kd.R_types HO513.out BK458.out (by decide)) (fun _ hk => hk.2) (.slice Ao98 t506.length co98)) (fun _ hk => hk.2) (.int .i64 t509)) (fun _ hk => hk.2) (.int .i64 t510)) (fun _ hk => hk.2) (.slice Ao104 t511.length co104)) (fun _ hk => hk.2) (.int .i64 t514)) (fun _ hk => trivial)⟩, ⟨by (with_reducible repeat (first | apply dN | apply dW | apply dA)); refine blk_far ?_ NB0_458.out _; (with_reducible repeat (first | apply dN | apply dW | apply dA)); refine blk_far ?_ NB0_458.out _; (with_reducible repeat (first | apply dN | apply dW | apply dA)); refine blk_far ?_ NB0_458.out _; (with_reducible repeat (first | apply dN | apply dW | apply dA)); refine blk_far ?_ NB0_458.out _; (with_reducible repeat (first | apply dN | apply dW | apply dA)); refine blk_far ?_ NB0_458.out _; exact bp HP0_⟩, ⟨by (with_reducible repeat (first | apply dN | apply dW | apply dA)); refine blk_far ?_ NB442_458.out _; (with_reducible repeat (first | apply dN | apply dW | apply dA)); refine blk_far ?_ NB442_458.out _; (with_reducible repeat (first | apply dN | apply dW | apply dA)); refine blk_far ?_ NB442_458.out _; (with_reducible repeat (first | apply dN | apply dW | apply dA)); refine blk_far ?_ NB442_458.out _; (with_reducible repeat (first | apply dN | apply dW | apply dA)); refine blk_far ?_ NB442_458.out _; exact bp BK442⟩, ⟨by (with_reducible repeat (first | apply dN | apply dW | apply dA)); refine blk_far ?_ NB443_458.out _; (with_reducible repeat (first | apply dN | apply dW | apply dA)); refine blk_far ?_ NB443_458.out _; (with_reducible repeat (first | apply dN | apply dW | apply dA)); refine blk_far ?_ NB443_458.out _; (with_reducible repeat (first | apply dN | apply dW | apply dA)); refine blk_far ?_ NB443_458.out _; (with_reducible repeat (first | apply dN | apply dW | apply dA)); refine blk_far ?_ NB443_458.out _; exact bp BK443⟩, ⟨by (with_reducible repeat (first | apply dN | apply dW | apply dA)); refine blk_far ?_ NB448_458.out _; (with_reducible repeat (first | apply dN | apply dW | apply dA)); refine blk_far ?_ NB448_458.out _; (with_reducible repeat (first | apply dN | apply dW | apply dA)); refine blk_far ?_ NB448_458.out _; (with_reducible repeat (first | apply dN | apply dW | apply dA)); refine blk_far ?_ NB448_458.out _; (with_reducible repeat (first | apply dN | apply dW | apply dA)); refine blk_far ?_ NB448_458.out _; exact bp BK448⟩, ⟨by (with_reducible repeat (first | apply dN | apply dW | apply dA)); refine blk_put (cs := #[.slice Ao98 t506.length co98, .int .i64 t509, .int .i64 t510, .slice Ao104 t511.length co104, .int .i64 t457]) ?_ 4 _ rfl; (with_reducible repeat (first | apply dN | apply dW | apply dA)); refine blk_put (cs := #[.slice Ao98 t506.length co98, .int .i64 t509, .int .i64 t510, .slice Ao31 t454.length co31, .int .i64 t457]) ?_ 3 _ rfl; (with_reducible repeat (first | apply dN | apply dW | apply dA)); refine blk_put (cs := #[.slice Ao98 t506.length co98, .int .i64 t509, .int .i64 t453, .slice Ao31 t454.length co31, .int .i64 t457]) ?_ 2 _ rfl; (with_reducible repeat (first | apply dN | apply dW | apply dA)); refine blk_put (cs := #[.slice Ao98 t506.length co98, .int .i64 t452, .int .i64 t453, .slice Ao31 t454.length co31, .int .i64 t457]) ?_ 1 _ rfl; (with_reducible repeat (first | apply dN | apply dW | apply dA)); refine blk_put (cs := #[.slice Ao25 t449.length co25, .int .i64 t452, .int .i64 t453, .slice Ao31 t454.length co31, .int .i64 t457]) ?_ 0 _ rfl; exact bp BK458⟩, ⟨bw HB⟩⟩
    intro c92 c92b0 c92b1 H
    refine qE H ?_ ?_ <;> clear H
    ·intro c105b0 c105b1 H
     have H' := am H
     clear H
     go_wp2
     go_meet
     case rel => exact ⟨_, (t449), (t452), (t453), (t454), (t457), (.slice Ao25 t449.length co25), (.slice Ao31 t454.length co31), H', ⟨lk1 HK1⟩, ⟨by (with_reducible repeat (first | apply Kd.V_alloc | apply Kd.V_drewN | apply Kd.V_drew)); exact Kd.V_mono HO_17.out (fun _ hk => ⟨hk.1.1.1.1.1, ⟨hk.1.1.1.1.2.1, ⟨hk.1.1.2, ⟨hk.1.2, ⟨hk.1.1.1.1.2.2.1, ⟨hk.1.1.1.1.2.2.2, ⟨hk.1.1.1.2, hk.2⟩⟩⟩⟩⟩⟩⟩)⟩, ⟨by (with_reducible repeat (first | apply Kd.S_alloc | apply Kd.S_drewN | apply Kd.S_drew)); exact Kd.S_mono HO_444001.out (fun _ hk => ⟨hk.1.1.2, ⟨hk.1.2, hk.2⟩⟩)⟩, ⟨by (with_reducible repeat (first | apply Kd.S_alloc | apply Kd.S_drewN | apply Kd.S_drew)); exact Kd.S_mono HO_444002.out (fun _ hk => hk.2)⟩, ⟨kR HO451⟩, ⟨kR HO456⟩, ⟨bp HP0_⟩, ⟨bp BK442⟩, ⟨bp BK443⟩, ⟨bp BK448⟩, ⟨bp BK458⟩, ⟨bw HB⟩⟩
    intro c105 c105b0 c105b1 H
    refine be H ?_; clear H; intro t515 A106 H
    refine be H ?_; clear H; intro t518 A107 H
    have HC108 := am H
    clear H
    try go_wp2
    replace HO_17 := am (Kd.V_drew HO_17.out)
    replace HO_444001 := am (Kd.S_drew HO_444001.out)
    replace HO_444002 := am (Kd.S_drew HO_444002.out)
    replace HO451 := am (Kd.R_drew HO451.out)
    replace HO456 := am (Kd.R_drew HO456.out)
    replace HP0_ := am (blk_drew HP0_.out)
    replace BK442 := am (blk_drew BK442.out)
    replace BK443 := am (blk_drew BK443.out)
    replace BK448 := am (blk_drew BK448.out)
    replace BK458 := am (blk_drew BK458.out)
    replace HB := am (below_drew1 HB.out)
    refine start_ (n := 9) (S := fun w' => w'.cell? ⟨gb448, 0, none⟩ = some (.int .i64 ((rd_T99 t444 x19_1).f0)) ∧ w'.cell? ⟨gb448, 1, none⟩ = some (.int .i64 ((rd_T99 t444 x19_1).f1))) (ds := []) (bv 9 0) (by kernel_rfl) rfl (by kernel_rfl) ⟨bc BK448 0, bc BK448 1⟩ (fun hHeld => ?_); refine with_tabW impl_prog_plain.tab13 impl_prog_plain.bits13 (fun HT_ HW_ => ?_)
    generalize w39.drew = w109 at HO_17 HO_444001 HO_444002 HO451 HO456 HP0_ BK442 BK443 BK448 BK458 HB hHeld ⊢
    refine pu 0 55 9 1 HT_ ?_
    refine pu 2 57 9 5 HT_ ?_
    refine pu 3 58 9 13 HT_ ?_
    refine pu 4 59 9 29 HT_ ?_
    refine pu 5 60 9 61 HT_ ?_
    refine tk 1 56 9 63 HT_ HW_ hHeld ?_
    refine on 6 (some 61) 9 127 HT_ fun K hK => ?_
    refine goes_ Try.func100 (by kernel_rfl) rfl #[.int .i64 (wrap64 (t466 - t467)), .int .i64 t467] (by rfl) rfl rfl gl ?_
    with_reducible refine (impl_memories.calls k1 (wrap64 (t466 - t467)) t467 t515 _ A106.out).mono ?_
    rintro e w110 ⟨v516, rfl, ho0, hb⟩
    refine ⟨_, rfl, ?_⟩
    have n0_ := am (Kd.V_elder' (kV HO_17) (Kd.R_base ho0) hb)
    have n1_ := am (Kd.S_elder' (kS HO_444001) (Kd.R_base ho0) hb)
    have n2_ := am (Kd.S_elder' (kS HO_444002) (Kd.R_base ho0) hb)
    have n3_ := am (Kd.R_below (kR HO451) hb)
    have n4_ := am (Kd.R_elder' (kR HO456) (Kd.R_base ho0) hb)
    have n5_ := am (Kd.R_lower (Kd.R_new' ho0 (Kd.R_lt (kR HO456))) (below_size (bw HB)))
    have n6_ := bb HP0_ hb
    have n7_ := bb BK442 hb
    have n8_ := bb BK443 hb
    have n9_ := bb BK448 hb
    have n10_ := bb BK458 hb
    have n11_ := am (below_step (bw HB) hb)
    clear HO_17
    clear HO_444001
    clear HO_444002
    clear HO451
    clear HO456
    clear HP0_
    clear BK442
    clear BK443
    clear BK448
    clear BK458
    clear HB
    have HO_17 := n0_
    have HO_444001 := n1_
    have HO_444002 := n2_
    have HO451 := n3_
    have HO456 := n4_
    have HO517 := n5_
    have HP0_ := n6_
    have BK442 := n7_
    have BK443 := n8_
    have BK448 := n9_
    have BK458 := n10_
    have HB := n11_
    clear n0_ n1_ n2_ n3_ n4_ n5_ n6_ n7_ n8_ n9_ n10_ n11_
    clear hb
    (try clear ho0)
    obtain ⟨Ao111, co111, eo111⟩ := Kd.R_slice HO517.out
    (first | subst eo111 | (injection eo111 with f1_ f2_ f3_; have f4_ := f1_.symm; have f5_ := f3_.symm; clear f1_ f2_ f3_; subst f4_; subst f5_))
    refine hK.out _ _ ⟨bc BK448 0, bc BK448 1⟩ (fun hHeld => ?_)
    clear hK K
    refine nm (some 61) ?_
    refine pu 7 62 9 255 HT_ ?_
    refine on 8 none 9 511 HT_ fun K hK => ?_
    have hs112 := bk w110 BK458 0
    have hfs112 := bf BK458 0
    have hns112_0 := NB0_458.out
    have hns112_1 := NB442_458.out
    have hns112_2 := NB443_458.out
    have hns112_3 := NB448_458.out
    have hms112_0 := NB458_0.out
    have hms112_1 := NB458_442.out
    have hms112_2 := NB458_443.out
    have hms112_3 := NB458_448.out
    have hs113 := bk w110 BK458 1
    have hfs113 := bf BK458 1
    have hns113_0 := NB0_458.out
    have hns113_1 := NB442_458.out
    have hns113_2 := NB443_458.out
    have hns113_3 := NB448_458.out
    have hms113_0 := NB458_0.out
    have hms113_1 := NB458_442.out
    have hms113_2 := NB458_443.out
    have hms113_3 := NB458_448.out
    have hs114 := bk w110 BK458 2
    have hfs114 := bf BK458 2
    have hns114_0 := NB0_458.out
    have hns114_1 := NB442_458.out
    have hns114_2 := NB443_458.out
    have hns114_3 := NB448_458.out
    have hms114_0 := NB458_0.out
    have hms114_1 := NB458_442.out
    have hms114_2 := NB458_443.out
    have hms114_3 := NB458_448.out
    have hs115 := bk w110 BK458 3
    have hfs115 := bf BK458 3
    have hns115_0 := NB0_458.out
    have hns115_1 := NB442_458.out
    have hns115_2 := NB443_458.out
    have hns115_3 := NB448_458.out
    have hms115_0 := NB458_0.out
    have hms115_1 := NB458_442.out
    have hms115_2 := NB458_443.out
    have hms115_3 := NB458_448.out
    have hs116 := bk w110 BK458 4
    have hfs116 := bf BK458 4
    have hns116_0 := NB0_458.out
    have hns116_1 := NB442_458.out
    have hns116_2 := NB443_458.out
    have hns116_3 := NB448_458.out
    have hms116_0 := NB458_0.out
    have hms116_1 := NB458_442.out
    have hms116_2 := NB458_443.out
    have hms116_3 := NB458_448.out
    refine skip_ (w1 := ?_) (by rfl) rfl ?_ ?_
    rotate_left
    ·go_simp
     rfl
    refine hK.out _ _ ⟨((cell_far (p := ⟨gb458, _, none⟩) NB448_458.out _).trans (((cell_far (p := ⟨gb458, _, none⟩) NB448_458.out _).trans (((cell_far (p := ⟨gb458, _, none⟩) NB448_458.out _).trans (((cell_far (p := ⟨gb458, _, none⟩) NB448_458.out _).trans (((cell_far (p := ⟨gb458, _, none⟩) NB448_458.out _).trans (hHeld.1)))))))))), ((cell_far (p := ⟨gb458, _, none⟩) NB448_458.out _).trans (((cell_far (p := ⟨gb458, _, none⟩) NB448_458.out _).trans (((cell_far (p := ⟨gb458, _, none⟩) NB448_458.out _).trans (((cell_far (p := ⟨gb458, _, none⟩) NB448_458.out _).trans (((cell_far (p := ⟨gb458, _, none⟩) NB448_458.out _).trans (hHeld.2))))))))))⟩ (fun hHeld => ?_)
    clear hK K
    refine done_ (done_of HT_.out (by kernel_rfl)) ?_
    have hnb117 := NB448_0.out
    have hnc117 := NB0_448.out
    have hnb118 := NB448_442.out
    have hnc118 := NB442_448.out
    have hnb119 := NB448_443.out
    have hnc119 := NB443_448.out
    have hnb120 := NB448_458.out
    have hnc120 := NB458_448.out
    have hcz121 := bK w110 BK448
    have hfz121 := bF BK448
    go_upto_if 65 with (first | ((with_reducible refine gate_callee (f := 101) rfl ?_); refine goesL_ (some 64) rfl rfl Try.func101 (by kernel_rfl) rfl #[.agg #[.int .i64 ((rd_T99 t444 x19_1).f0), .int .i64 ((rd_T99 t444 x19_1).f1)]] rfl gl ?_; (with_reducible refine (impl_Puts.calls k1 ((rd_T99 t444 x19_1).f0) ((rd_T99 t444 x19_1).f1) t518 _ A107.out).mono ?_); rintro e w122 ⟨rfl, hb⟩; refine ⟨_, rfl, ?_⟩; replace HO_17 := am (Kd.V_below (by (with_reducible repeat (first | apply Kd.V_alloc | apply Kd.V_drewN | apply Kd.V_drew)); exact (Kd.V_mono (Kd.V_far (p := ⟨gb458, 4, none⟩) (Kd.V_far (p := ⟨gb458, 3, none⟩) (Kd.V_far (p := ⟨gb458, 2, none⟩) (Kd.V_far (p := ⟨gb458, 1, none⟩) (Kd.V_far (p := ⟨gb458, 0, none⟩) (Kd.V_mono HO_17.out (fun k_ hk => (⟨hk, hk.1.2⟩ : _ ∧ k_ ≠ gb458))) (fun _ hk => hk.2) (.slice none 0 0)) (fun _ hk => hk.2) (.int .i64 ((rd_T99 t444 x19_1).f0))) (fun _ hk => hk.2) (.int .i64 (-1))) (fun _ hk => hk.2) (.slice Ao111 t515.length co111)) (fun _ hk => hk.2) (.int .i64 0)) (fun _ h_ => h_.1))) hb); replace HO_444001 := am (Kd.S_below (by (with_reducible repeat (first | apply Kd.S_alloc | apply Kd.S_drewN | apply Kd.S_drew)); exact (Kd.S_mono (Kd.S_far (p := ⟨gb458, 4, none⟩) (Kd.S_far (p := ⟨gb458, 3, none⟩) (Kd.S_far (p := ⟨gb458, 2, none⟩) (Kd.S_far (p := ⟨gb458, 1, none⟩) (Kd.S_far (p := ⟨gb458, 0, none⟩) (Kd.S_mono HO_444001.out (fun k_ hk => (⟨hk, hk.1.2⟩ : _ ∧ k_ ≠ gb458))) (fun _ hk => hk.2) (.slice none 0 0)) (fun _ hk => hk.2) (.int .i64 ((rd_T99 t444 x19_1).f0))) (fun _ hk => hk.2) (.int .i64 (-1))) (fun _ hk => hk.2) (.slice Ao111 t515.length co111)) (fun _ hk => hk.2) (.int .i64 0)) (fun _ h_ => h_.1))) hb); replace HO_444002 := am (Kd.S_below (by (with_reducible repeat (first | apply Kd.S_alloc | apply Kd.S_drewN | apply Kd.S_drew)); exact (Kd.S_mono (Kd.S_far (p := ⟨gb458, 4, none⟩) (Kd.S_far (p := ⟨gb458, 3, none⟩) (Kd.S_far (p := ⟨gb458, 2, none⟩) (Kd.S_far (p := ⟨gb458, 1, none⟩) (Kd.S_far (p := ⟨gb458, 0, none⟩) (Kd.S_types HO_444002.out BK458.out (by decide)) (fun _ hk => hk.2) (.slice none 0 0)) (fun _ hk => hk.2) (.int .i64 ((rd_T99 t444 x19_1).f0))) (fun _ hk => hk.2) (.int .i64 (-1))) (fun _ hk => hk.2) (.slice Ao111 t515.length co111)) (fun _ hk => hk.2) (.int .i64 0)) (fun _ h_ => h_.1))) hb); replace HO451 := am (Kd.R_below (by (with_reducible repeat (first | apply Kd.R_alloc | apply Kd.R_drewN | apply Kd.R_drew)); exact (Kd.R_mono (Kd.R_far (p := ⟨gb458, 4, none⟩) (Kd.R_far (p := ⟨gb458, 3, none⟩) (Kd.R_far (p := ⟨gb458, 2, none⟩) (Kd.R_far (p := ⟨gb458, 1, none⟩) (Kd.R_far (p := ⟨gb458, 0, none⟩) (Kd.R_types HO451.out BK458.out (by decide)) (fun _ hk => hk.2) (.slice none 0 0)) (fun _ hk => hk.2) (.int .i64 ((rd_T99 t444 x19_1).f0))) (fun _ hk => hk.2) (.int .i64 (-1))) (fun _ hk => hk.2) (.slice Ao111 t515.length co111)) (fun _ hk => hk.2) (.int .i64 0)) (fun _ h_ => h_.1))) hb); replace HO456 := am (Kd.R_below (by (with_reducible repeat (first | apply Kd.R_alloc | apply Kd.R_drewN | apply Kd.R_drew)); exact (Kd.R_mono (Kd.R_far (p := ⟨gb458, 4, none⟩) (Kd.R_far (p := ⟨gb458, 3, none⟩) (Kd.R_far (p := ⟨gb458, 2, none⟩) (Kd.R_far (p := ⟨gb458, 1, none⟩) (Kd.R_far (p := ⟨gb458, 0, none⟩) (Kd.R_types HO456.out BK458.out (by decide)) (fun _ hk => hk.2) (.slice none 0 0)) (fun _ hk => hk.2) (.int .i64 ((rd_T99 t444 x19_1).f0))) (fun _ hk => hk.2) (.int .i64 (-1))) (fun _ hk => hk.2) (.slice Ao111 t515.length co111)) (fun _ hk => hk.2) (.int .i64 0)) (fun _ h_ => h_.1))) hb); replace HO517 := am (Kd.R_below (by (with_reducible repeat (first | apply Kd.R_alloc | apply Kd.R_drewN | apply Kd.R_drew)); exact (Kd.R_mono (Kd.R_far (p := ⟨gb458, 4, none⟩) (Kd.R_far (p := ⟨gb458, 3, none⟩) (Kd.R_far (p := ⟨gb458, 2, none⟩) (Kd.R_far (p := ⟨gb458, 1, none⟩) (Kd.R_far (p := ⟨gb458, 0, none⟩) (Kd.R_types HO517.out BK458.out (by decide)) (fun _ hk => hk.2) (.slice none 0 0)) (fun _ hk => hk.2) (.int .i64 ((rd_T99 t444 x19_1).f0))) (fun _ hk => hk.2) (.int .i64 (-1))) (fun _ hk => hk.2) (.slice Ao111 t515.length co111)) (fun _ hk => hk.2) (.int .i64 0)) (fun _ h_ => h_.1))) hb); replace HP0_ := bb2 HP0_ hb; replace BK442 := bb2 BK442 hb; replace BK443 := bb2 BK443 hb; replace BK448 := bb2 BK448 hb; replace BK458 := bo #[.slice none 0 0, .int .i64 ((rd_T99 t444 x19_1).f0), .int .i64 (-1), .slice Ao111 t515.length co111, .int .i64 0] BK458 hb; replace HB := bs HB hb; clear hb))
    (try simp only [Act.put, sa, sz, ss])
    go_cut [] (fun wc => ∃ (kq : Nat) (x459002_107 : Int), Aside0 (impl_prog_plain.j1 kq a1 t466 t444 (t444.length : Int) x19_1 l0_0 l0_1 a1 x444001_1 x444002_1 ((rd_T99 t444 x19_1).f0) ((rd_T99 t444 x19_1).f1) ((rd_T99 t444 x19_1).f0) x459002_107 t515 0 = some (r1, r2, r3)) ∧ Aside0 (kq ≤ k1) ∧ Aside0 (Kd.V k99 99 wc w.heap.size (fun k_ => some k_ ≠ (u444001 : Value).ownBlock ∧ some k_ ≠ (u444002 : Value).ownBlock ∧ some k_ ≠ ((.slice Ao111 t515.length co111) : Value).ownBlock ∧ k_ ≠ gb442 ∧ k_ ≠ gb443 ∧ k_ ≠ gb448 ∧ k_ ≠ gb458) (.slice (some ad447) t444.length co11) t444) ∧ Aside0 (Kd.S k78 78 wc w.heap.size (fun k_ => some k_ ≠ ((.slice Ao111 t515.length co111) : Value).ownBlock ∧ k_ ≠ gb458) u444001 x444001_1) ∧ Aside0 (Kd.S (Kd.slice 95 k95) 76 wc w.heap.size (fun k_ => some k_ ≠ ((.slice Ao111 t515.length co111) : Value).ownBlock) u444002 x444002_1) ∧ Aside0 (Kd.R k95 95 wc w.heap.size (fun _ => True) (.slice Ao111 t515.length co111) t515) ∧ Aside0 (wc.heap[g0_]? = some (.cells #[(.slice A0_0 l0_0.length c0_0), (.slice A0_1 l0_1.length c0_1)] 144 (0, 0))) ∧ Aside0 (wc.heap[gb442]? = some (.cells #[.int .i64 0, (.slice none 0 0), (.slice none 0 0)] 36 (0, 0))) ∧ Aside0 (wc.heap[gb443]? = some (.cells #[.int .i64 a1, u444001, u444002] 36 (0, 0))) ∧ Aside0 (wc.heap[gb448]? = some (.cells #[.int .i64 ((rd_T99 t444 x19_1).f0), .int .i64 ((rd_T99 t444 x19_1).f1)] 99 (0, 0))) ∧ Aside0 (wc.heap[gb458]? = some (.cells #[(.slice none 0 0), .int .i64 ((rd_T99 t444 x19_1).f0), .int .i64 x459002_107, (.slice Ao111 t515.length co111), .int .i64 0] 78 (0, 0))) ∧ Aside0 (Below w.heap.size w wc))
    case first =>
     have H := HC108.out
     clear HC108
     refine qG H ?_ ?_ <;> clear H <;> intro c123b0 H
     ·(first | rw [c123b0] | (simp only [i64_w, i32_w]; rw [c123b0]) | skip)
      refine be H ?_; clear H; intro t519 A124 H
      have H' := am H
      clear H
      go_wp2_with (first | ((with_reducible refine gate_callee (f := 97) rfl ?_); refine goesL_ (some 69) rfl rfl Try.func97 (by kernel_rfl) rfl #[.int .i64 (wrap64 (t466 - t467))] rfl gl ?_; (with_reducible refine (impl_memory.calls (wrap64 (t466 - t467)) t519 _ A124.out).mono ?_); rintro e w' ⟨rfl, ⟨nd, rfl⟩⟩; refine ⟨_, rfl, ?_⟩; (try (rw [drewN_self w122]; generalize hq_ : World.drewN w122 _ = w122; have n0_ : Aside0 (Kd.R k185 185 w122 w.heap.size (fun _ => True) (.slice Ao25 t449.length co25) t449) := ⟨by rw [← hq_]; exact (kR HO451)⟩; have n1_ : Aside0 (Kd.R k95 95 w122 w.heap.size (fun k_ => some k_ ≠ (.slice Ao111 t515.length co111 : Value).ownBlock) (.slice Ao31 t454.length co31) t454) := ⟨by rw [← hq_]; exact (by (with_reducible repeat (first | apply Kd.R_alloc | apply Kd.R_drewN | apply Kd.R_drew)); exact Kd.R_mono HO456.out (fun _ hk => hk.2))⟩; have n2_ : Aside0 (Kd.R k95 95 w122 w.heap.size (fun k_ => some k_ ≠ (.slice Ao31 t454.length co31 : Value).ownBlock) (.slice Ao111 t515.length co111) t515) := ⟨by rw [← hq_]; exact (by (with_reducible repeat (first | apply Kd.R_alloc | apply Kd.R_drewN | apply Kd.R_drew)); exact Kd.R_mono HO517.out (fun _ hk => hk.2))⟩; have n3_ : Aside0 (Kd.V k99 99 w122 w.heap.size (fun k_ => some k_ ≠ (.slice Ao25 t449.length co25 : Value).ownBlock ∧ some k_ ≠ (.slice Ao31 t454.length co31 : Value).ownBlock ∧ some k_ ≠ (.slice Ao111 t515.length co111 : Value).ownBlock ∧ some k_ ≠ (u444001 : Value).ownBlock ∧ some k_ ≠ (u444002 : Value).ownBlock ∧ k_ ≠ gb442 ∧ k_ ≠ gb443 ∧ k_ ≠ gb448 ∧ k_ ≠ gb458) (.slice (some ad447) t444.length co11) t444) := ⟨by rw [← hq_]; exact (by (with_reducible repeat (first | apply Kd.V_alloc | apply Kd.V_drewN | apply Kd.V_drew)); exact Kd.V_mono HO_17.out (fun _ hk => ⟨hk.1.1.1.2, ⟨hk.1.1.2, ⟨hk.2, ⟨hk.1.1.1.1.1.1, ⟨hk.1.1.1.1.1.2.1, ⟨hk.1.1.1.1.1.2.2.1, ⟨hk.1.1.1.1.1.2.2.2, ⟨hk.1.1.1.1.2, hk.1.2⟩⟩⟩⟩⟩⟩⟩⟩))⟩; have n4_ : Aside0 (Kd.S k78 78 w122 w.heap.size (fun k_ => some k_ ≠ (.slice Ao25 t449.length co25 : Value).ownBlock ∧ some k_ ≠ (.slice Ao31 t454.length co31 : Value).ownBlock ∧ some k_ ≠ (.slice Ao111 t515.length co111 : Value).ownBlock ∧ k_ ≠ gb458) u444001 x444001_1) := ⟨by rw [← hq_]; exact (by (with_reducible repeat (first | apply Kd.S_alloc | apply Kd.S_drewN | apply Kd.S_drew)); exact Kd.S_mono HO_444001.out (fun _ hk => ⟨hk.1.1.1.2, ⟨hk.1.1.2, ⟨hk.2, hk.1.2⟩⟩⟩))⟩; have n5_ : Aside0 (Kd.S (Kd.slice 95 k95) 76 w122 w.heap.size (fun k_ => some k_ ≠ (.slice Ao31 t454.length co31 : Value).ownBlock ∧ some k_ ≠ (.slice Ao111 t515.length co111 : Value).ownBlock) u444002 x444002_1) := ⟨by rw [← hq_]; exact (by (with_reducible repeat (first | apply Kd.S_alloc | apply Kd.S_drewN | apply Kd.S_drew)); exact Kd.S_mono HO_444002.out (fun _ hk => ⟨hk.1.2, hk.2⟩))⟩; have n6_ : Aside0 (w122.heap[gb442]? = some (.cells #[.int .i64 0, .slice none 0 0, .slice none 0 0] 36 (0, 0))) := ⟨by rw [← hq_]; exact (bp BK442)⟩; have n7_ : Aside0 (w122.heap[gb443]? = some (.cells #[.int .i64 a1, u444001, u444002] 36 (0, 0))) := ⟨by rw [← hq_]; exact (bp BK443)⟩; have n8_ : Aside0 (w122.heap[gb448]? = some (.cells #[.int .i64 ((rd_T99 t444 x19_1).f0), .int .i64 ((rd_T99 t444 x19_1).f1)] 99 (0, 0))) := ⟨by rw [← hq_]; exact (bp BK448)⟩; have n9_ : Aside0 (w122.heap[gb458]? = some (.cells #[.slice none 0 0, .int .i64 ((rd_T99 t444 x19_1).f0), .int .i64 (-1), .slice Ao111 t515.length co111, .int .i64 0] 78 (0, 0))) := ⟨by rw [← hq_]; exact (bp BK458)⟩; have n10_ : Aside0 (w122.heap[g0_]? = some (.cells #[.slice A0_0 l0_0.length c0_0, .slice A0_1 l0_1.length c0_1] 144 (0, 0))) := ⟨by rw [← hq_]; exact (bp HP0_)⟩; have n11_ : Aside0 (Below w.heap.size w w122) := ⟨by rw [← hq_]; exact (bw HB)⟩; clear HO451 HO456 HO517 HO_17 HO_444001 HO_444002 BK442 BK443 BK448 BK458 HP0_ HB hq_; have HO451 := n0_; have HO456 := n1_; have HO517 := n2_; have HO_17 := n3_; have HO_444001 := n4_; have HO_444002 := n5_; have BK442 := n6_; have BK443 := n7_; have BK448 := n8_; have BK458 := n9_; have HP0_ := n10_; have HB := n11_; clear n0_ n1_ n2_ n3_ n4_ n5_ n6_ n7_ n8_ n9_ n10_ n11_)); have hnb125 := NB458_0.out; have hnc125 := NB0_458.out; have hnb126 := NB458_442.out; have hnc126 := NB442_458.out; have hnb127 := NB458_443.out; have hnc127 := NB443_458.out; have hnb128 := NB458_448.out; have hnc128 := NB448_458.out; have hcz129_0 := bk w122 BK458 0; have hcz129_1 := bk w122 BK458 1; have hcz129_2 := bk w122 BK458 2; have hcz129_3 := bk w122 BK458 3; have hcz129_4 := bk w122 BK458 4; have hfz129_0 := bf BK458 0; have hfz129_1 := bf BK458 1; have hfz129_2 := bf BK458 2; have hfz129_3 := bf BK458 3; have hfz129_4 := bf BK458 4))
      go_meet
      case rel => exact ⟨_, (t519), H', ⟨lk1 HK1⟩, ⟨by (with_reducible repeat (first | apply Kd.V_alloc | apply Kd.V_drewN | apply Kd.V_drew)); exact Kd.V_mono (Kd.V_far (p := ⟨gb458, 2, none⟩) (Kd.V_mono HO_17.out (fun k_ hk => (⟨hk, hk.2.2.2.2.2.2.2.2⟩ : _ ∧ k_ ≠ gb458))) (fun _ hk => hk.2) (.int .i64 t519)) (fun _ hk => ⟨hk.1.2.2.2.1, ⟨hk.1.2.2.2.2.1, ⟨hk.1.2.2.1, ⟨hk.1.2.2.2.2.2.1, ⟨hk.1.2.2.2.2.2.2.1, ⟨hk.1.2.2.2.2.2.2.2.1, hk.1.2.2.2.2.2.2.2.2⟩⟩⟩⟩⟩⟩)⟩, ⟨by (with_reducible repeat (first | apply Kd.S_alloc | apply Kd.S_drewN | apply Kd.S_drew)); exact Kd.S_mono (Kd.S_far (p := ⟨gb458, 2, none⟩) (Kd.S_mono HO_444001.out (fun k_ hk => (⟨hk, hk.2.2.2⟩ : _ ∧ k_ ≠ gb458))) (fun _ hk => hk.2) (.int .i64 t519)) (fun _ hk => ⟨hk.1.2.2.1, hk.1.2.2.2⟩)⟩, ⟨by (with_reducible repeat (first | apply Kd.S_alloc | apply Kd.S_drewN | apply Kd.S_drew)); exact Kd.S_mono (Kd.S_far (p := ⟨gb458, 2, none⟩) (Kd.S_types HO_444002.out BK458.out (by decide)) (fun _ hk => hk.2) (.int .i64 t519)) (fun _ hk => hk.1.2)⟩, ⟨by (with_reducible repeat (first | apply Kd.R_alloc | apply Kd.R_drewN | apply Kd.R_drew)); exact Kd.R_mono (Kd.R_far (p := ⟨gb458, 2, none⟩) (Kd.R_types HO517.out BK458.out (by decide)) (fun _ hk => hk.2) (.int .i64 t519)) (fun _ hk => trivial)⟩, ⟨by (with_reducible repeat (first | apply dN | apply dW | apply dA)); refine blk_far ?_ NB0_458.out _; exact bp HP0_⟩, ⟨by (with_reducible repeat (first | apply dN | apply dW | apply dA)); refine blk_far ?_ NB442_458.out _; exact bp BK442⟩, ⟨by (with_reducible repeat (first | apply dN | apply dW | apply dA)); refine blk_far ?_ NB443_458.out _; exact bp BK443⟩, ⟨by (with_reducible repeat (first | apply dN | apply dW | apply dA)); refine blk_far ?_ NB448_458.out _; exact bp BK448⟩, ⟨by (with_reducible repeat (first | apply dN | apply dW | apply dA)); refine blk_put (cs := #[.slice none 0 0, .int .i64 ((rd_T99 t444 x19_1).f0), .int .i64 (-1), .slice Ao111 t515.length co111, .int .i64 0]) ?_ 2 _ rfl; exact bp BK458⟩, ⟨bw HB⟩⟩
     (first | rw [c123b0] | (simp only [i64_w, i32_w]; rw [c123b0]) | skip)
     have H' := am H
     clear H
     go_wp2
     go_meet
     case rel => exact ⟨_, ((-1)), H', ⟨lk1 HK1⟩, ⟨by (with_reducible repeat (first | apply Kd.V_alloc | apply Kd.V_drewN | apply Kd.V_drew)); exact Kd.V_mono HO_17.out (fun _ hk => ⟨hk.1.1.1.1.1.1, ⟨hk.1.1.1.1.1.2.1, ⟨hk.2, ⟨hk.1.1.1.1.1.2.2.1, ⟨hk.1.1.1.1.1.2.2.2, ⟨hk.1.1.1.1.2, hk.1.2⟩⟩⟩⟩⟩⟩)⟩, ⟨by (with_reducible repeat (first | apply Kd.S_alloc | apply Kd.S_drewN | apply Kd.S_drew)); exact Kd.S_mono HO_444001.out (fun _ hk => ⟨hk.2, hk.1.2⟩)⟩, ⟨by (with_reducible repeat (first | apply Kd.S_alloc | apply Kd.S_drewN | apply Kd.S_drew)); exact Kd.S_mono HO_444002.out (fun _ hk => hk.2)⟩, ⟨by (with_reducible repeat (first | apply Kd.R_alloc | apply Kd.R_drewN | apply Kd.R_drew)); exact Kd.R_mono HO517.out (fun _ hk => trivial)⟩, ⟨bp HP0_⟩, ⟨bp BK442⟩, ⟨bp BK443⟩, ⟨bp BK448⟩, ⟨bp BK458⟩, ⟨bw HB⟩⟩
    clear HC108
    (try clear c1); (try clear c5); (try clear p6); (try clear c10); (try clear c11); (try clear c12); (try clear c45); (try clear c45b0); (try clear c45b1); (try clear c48); (try clear c49); (try clear c50); (try clear c51); (try clear c56); (try clear c57); (try clear c58); (try clear c61); (try clear c61b0); (try clear c61b1); (try clear p64); (try clear c65); (try clear c66); (try clear c67); (try clear c68); (try clear c73); (try clear c74); (try clear c75); (try clear c78); (try clear c78b0); (try clear c78b1); (try clear c92); (try clear c92b0); (try clear c92b1); (try clear c96); (try clear c97); (try clear c98); (try clear c99); (try clear c100); (try clear c101); (try clear c102); (try clear c105); (try clear c105b0); (try clear c105b1); (try clear c117); (try clear c118); (try clear c119); (try clear c120); (try clear c123); (try clear c123b0); (try clear c125); (try clear c126); (try clear c127); (try clear c128); (try clear hcz103_0); (try clear hcz103_1); (try clear hcz103_2); (try clear hcz103_3); (try clear hcz103_4); (try clear hcz121); (try clear hcz129_0); (try clear hcz129_1); (try clear hcz129_2); (try clear hcz129_3); (try clear hcz129_4); (try clear hcz52); (try clear hcz59_0); (try clear hcz59_1); (try clear hcz59_2); (try clear hcz59_3); (try clear hcz59_4); (try clear hcz69); (try clear hcz76_0); (try clear hcz76_1); (try clear hcz76_2); (try clear hcz76_3); (try clear hcz76_4); (try clear hfz103_0); (try clear hfz103_1); (try clear hfz103_2); (try clear hfz103_3); (try clear hfz103_4); (try clear hfz121); (try clear hfz129_0); (try clear hfz129_1); (try clear hfz129_2); (try clear hfz129_3); (try clear hfz129_4); (try clear hfz52); (try clear hfz59_0); (try clear hfz59_1); (try clear hfz59_2); (try clear hfz59_3); (try clear hfz59_4); (try clear hfz69); (try clear hfz76_0); (try clear hfz76_1); (try clear hfz76_2); (try clear hfz76_3); (try clear hfz76_4)
    obtain ⟨kq, x459002_107, HA, HJ107, HO_17, HO_444001, HO_444002, HO_459003, HP0_, BK442, BK443, BK448, BK458, HB⟩ := hcut
    rcases kq with _ | kj107
    ·exact absurd HA.out (by simp [impl_prog_plain.j1])
    have H := HA.out
    clear HA
    simp only [impl_prog_plain.j1] at H
    have HC130 := am H
    clear H
    go_upto_region 16 with (fail)
    go_cut [83] (fun v83 wc => ∃ (kq : Nat) (x83_129 : Bool), v83 = .bool x83_129 ∧ Aside0 (impl_prog_plain.j2 kq a1 t466 t444 (t444.length : Int) x19_1 x83_129 l0_0 l0_1 a1 x444001_1 x444002_1 ((rd_T99 t444 x19_1).f0) ((rd_T99 t444 x19_1).f1) ((rd_T99 t444 x19_1).f0) x459002_107 t515 0 = some (r1, r2, r3)) ∧ Aside0 (kq ≤ kj107) ∧ Aside0 (Kd.V k99 99 wc w.heap.size (fun k_ => some k_ ≠ (u444001 : Value).ownBlock ∧ some k_ ≠ (u444002 : Value).ownBlock ∧ some k_ ≠ ((.slice Ao111 t515.length co111) : Value).ownBlock ∧ k_ ≠ gb442 ∧ k_ ≠ gb443 ∧ k_ ≠ gb448 ∧ k_ ≠ gb458) (.slice (some ad447) t444.length co11) t444) ∧ Aside0 (Kd.S k78 78 wc w.heap.size (fun k_ => some k_ ≠ ((.slice Ao111 t515.length co111) : Value).ownBlock ∧ k_ ≠ gb458) u444001 x444001_1) ∧ Aside0 (Kd.S (Kd.slice 95 k95) 76 wc w.heap.size (fun k_ => some k_ ≠ ((.slice Ao111 t515.length co111) : Value).ownBlock) u444002 x444002_1) ∧ Aside0 (Kd.R k95 95 wc w.heap.size (fun _ => True) (.slice Ao111 t515.length co111) t515) ∧ Aside0 (wc.heap[g0_]? = some (.cells #[(.slice A0_0 l0_0.length c0_0), (.slice A0_1 l0_1.length c0_1)] 144 (0, 0))) ∧ Aside0 (wc.heap[gb442]? = some (.cells #[.int .i64 0, (.slice none 0 0), (.slice none 0 0)] 36 (0, 0))) ∧ Aside0 (wc.heap[gb443]? = some (.cells #[.int .i64 a1, u444001, u444002] 36 (0, 0))) ∧ Aside0 (wc.heap[gb448]? = some (.cells #[.int .i64 ((rd_T99 t444 x19_1).f0), .int .i64 ((rd_T99 t444 x19_1).f1)] 99 (0, 0))) ∧ Aside0 (wc.heap[gb458]? = some (.cells #[(.slice none 0 0), .int .i64 ((rd_T99 t444 x19_1).f0), .int .i64 x459002_107, (.slice Ao111 t515.length co111), .int .i64 0] 78 (0, 0))) ∧ Aside0 (Below w.heap.size w wc))
    case first =>
     have H := HC130.out
     clear HC130
     refine qE H ?_ ?_ <;> clear H
     ·intro c131b0 c131b1 H
      (first | rw [c131b0] | (simp only [i64_w, i32_w]; rw [c131b0]) | skip)
      have H' := am H
      clear H
      have hnb132 := NB448_0.out
      have hnc132 := NB0_448.out
      have hnb133 := NB448_442.out
      have hnc133 := NB442_448.out
      have hnb134 := NB448_443.out
      have hnc134 := NB443_448.out
      have hnb135 := NB448_458.out
      have hnc135 := NB458_448.out
      have hcz136 := bK wc BK448
      have hfz136 := bF BK448
      go_wp2
      go_meet
      case rel => exact ⟨_, (true), dr, H', ⟨lk2 HK1 HJ107⟩, ⟨kV HO_17⟩, ⟨kS HO_444001⟩, ⟨kS HO_444002⟩, ⟨kR HO_459003⟩, ⟨bp HP0_⟩, ⟨bp BK442⟩, ⟨bp BK443⟩, ⟨bp BK448⟩, ⟨bp BK458⟩, ⟨bw HB⟩⟩
     intro c131 c131b0 c131b1 H
     (first | rw [c131b0] | (simp only [i64_w, i32_w]; rw [c131b0]) | skip)
     refine qE H ?_ ?_ <;> clear H
     ·intro c137b0 c137b1 H
      have H' := am H
      clear H
      have hnb138 := NB448_0.out
      have hnc138 := NB0_448.out
      have hnb139 := NB448_442.out
      have hnc139 := NB442_448.out
      have hnb140 := NB448_443.out
      have hnc140 := NB443_448.out
      have hnb141 := NB448_458.out
      have hnc141 := NB458_448.out
      have hcz142 := bK wc BK448
      have hfz142 := bF BK448
      go_wp2
      go_meet
      case rel => exact ⟨_, (true), dr, H', ⟨lk2 HK1 HJ107⟩, ⟨kV HO_17⟩, ⟨kS HO_444001⟩, ⟨kS HO_444002⟩, ⟨kR HO_459003⟩, ⟨bp HP0_⟩, ⟨bp BK442⟩, ⟨bp BK443⟩, ⟨bp BK448⟩, ⟨bp BK458⟩, ⟨bw HB⟩⟩
     intro c137 c137b0 c137b1 H
     have H' := am H
     clear H
     have hnb143 := NB448_0.out
     have hnc143 := NB0_448.out
     have hnb144 := NB448_442.out
     have hnc144 := NB442_448.out
     have hnb145 := NB448_443.out
     have hnc145 := NB443_448.out
     have hnb146 := NB448_458.out
     have hnc146 := NB458_448.out
     have hcz147 := bK wc BK448
     have hfz147 := bF BK448
     go_wp2
     go_meet
     case rel => exact ⟨_, ((((rd_T99 t444 x19_1).f0) == 32)), dr, H', ⟨lk2 HK1 HJ107⟩, ⟨kV HO_17⟩, ⟨kS HO_444001⟩, ⟨kS HO_444002⟩, ⟨kR HO_459003⟩, ⟨bp HP0_⟩, ⟨bp BK442⟩, ⟨bp BK443⟩, ⟨bp BK448⟩, ⟨bp BK458⟩, ⟨bw HB⟩⟩
    clear HC130
    (try clear c13); (try clear c14); (try clear c131); (try clear c131b0); (try clear c131b1); (try clear c132); (try clear c133); (try clear c134); (try clear c135); (try clear c137); (try clear c137b0); (try clear c137b1); (try clear c138); (try clear c139); (try clear c140); (try clear c141); (try clear c143); (try clear c144); (try clear c145); (try clear c146); (try clear hcz136); (try clear hcz142); (try clear hcz147); (try clear hfz136); (try clear hfz142); (try clear hfz147)
    obtain ⟨kq, x83_129, rfl, HA, HJ129, HO_17, HO_444001, HO_444002, HO_459003, HP0_, BK442, BK443, BK448, BK458, HB⟩ := hcut
    rcases kq with _ | kj129
    ·exact absurd HA.out (by simp [impl_prog_plain.j2])
    have H := HA.out
    clear HA
    simp only [impl_prog_plain.j2] at H
    refine qT H ?_ ?_ <;> clear H <;> intro c148 H <;> subst c148
    ·have H' := am H
     clear H
     have hnb149 := NB448_0.out
     have hnc149 := NB0_448.out
     have hnb150 := NB448_442.out
     have hnc150 := NB442_448.out
     have hnb151 := NB448_443.out
     have hnc151 := NB443_448.out
     have hnb152 := NB448_458.out
     have hnc152 := NB458_448.out
     have hcz153 := bK wc BK448
     have hfz153 := bF BK448
     have hnb154 := NB458_0.out
     have hnc154 := NB0_458.out
     have hnb155 := NB458_442.out
     have hnc155 := NB442_458.out
     have hnb156 := NB458_443.out
     have hnc156 := NB443_458.out
     have hcz157_0 := bk wc BK458 0
     have hcz157_1 := bk wc BK458 1
     have hcz157_2 := bk wc BK458 2
     have hcz157_3 := bk wc BK458 3
     have hcz157_4 := bk wc BK458 4
     have hfz157_0 := bf BK458 0
     have hfz157_1 := bf BK458 1
     have hfz157_2 := bf BK458 2
     have hfz157_3 := bf BK458 3
     have hfz157_4 := bf BK458 4
     go_wp2
     go_meet
     case rel => exact ⟨_, (([] : List (S185))), (((rd_T99 t444 x19_1).f0)), (x459002_107), (t515), (((rd_T99 t444 x19_1).f1)), (.slice none 0 0), (.slice Ao111 t515.length co111), H', ⟨lk3 HK1 HJ107 HJ129⟩, ⟨by (with_reducible repeat (first | apply Kd.V_alloc | apply Kd.V_drewN | apply Kd.V_drew)); exact Kd.V_mono (Kd.V_far (p := ⟨gb458, 4, none⟩) (Kd.V_mono HO_17.out (fun k_ hk => (⟨hk, hk.2.2.2.2.2.2⟩ : _ ∧ k_ ≠ gb458))) (fun _ hk => hk.2) (.int .i64 ((rd_T99 t444 x19_1).f1))) (fun _ hk => ⟨hk.1.1, ⟨hk.1.2.1, ⟨(by simp [Value.ownBlock]), ⟨hk.1.2.2.1, ⟨hk.1.2.2.2.1, ⟨hk.1.2.2.2.2.1, ⟨hk.1.2.2.2.2.2.1, hk.1.2.2.2.2.2.2⟩⟩⟩⟩⟩⟩⟩)⟩, ⟨by (with_reducible repeat (first | apply Kd.S_alloc | apply Kd.S_drewN | apply Kd.S_drew)); exact Kd.S_mono (Kd.S_far (p := ⟨gb458, 4, none⟩) (Kd.S_mono HO_444001.out (fun k_ hk => (⟨hk, hk.2⟩ : _ ∧ k_ ≠ gb458))) (fun _ hk => hk.2) (.int .i64 ((rd_T99 t444 x19_1).f1))) (fun _ hk => ⟨(by simp [Value.ownBlock]), ⟨hk.1.1, hk.1.2⟩⟩)⟩, ⟨by (with_reducible repeat (first | apply Kd.S_alloc | apply Kd.S_drewN | apply Kd.S_drew)); exact Kd.S_mono (Kd.S_far (p := ⟨gb458, 4, none⟩) (Kd.S_types HO_444002.out BK458.out (by decide)) (fun _ hk => hk.2) (.int .i64 ((rd_T99 t444 x19_1).f1))) (fun _ hk => hk.1)⟩, ⟨by first | exact Kd.R_nil _ _ _ _ _ | exact Kd.N_nil _ _ _ _ _ | exact Kd.V_nil _ _ _ _ _ | exact Kd.Q_nil _ _ _ _ _ | exact Kd.S_nil _ _ _ _ _⟩, ⟨by (with_reducible repeat (first | apply Kd.R_alloc | apply Kd.R_drewN | apply Kd.R_drew)); exact Kd.R_mono (Kd.R_far (p := ⟨gb458, 4, none⟩) (Kd.R_types HO_459003.out BK458.out (by decide)) (fun _ hk => hk.2) (.int .i64 ((rd_T99 t444 x19_1).f1))) (fun _ hk => trivial)⟩, ⟨by (with_reducible repeat (first | apply dN | apply dW | apply dA)); refine blk_far ?_ NB0_458.out _; exact bp HP0_⟩, ⟨by (with_reducible repeat (first | apply dN | apply dW | apply dA)); refine blk_far ?_ NB442_458.out _; exact bp BK442⟩, ⟨by (with_reducible repeat (first | apply dN | apply dW | apply dA)); refine blk_far ?_ NB443_458.out _; exact bp BK443⟩, ⟨by (with_reducible repeat (first | apply dN | apply dW | apply dA)); refine blk_far ?_ NB448_458.out _; exact bp BK448⟩, ⟨by (with_reducible repeat (first | apply dN | apply dW | apply dA)); refine blk_put (cs := #[.slice none 0 0, .int .i64 ((rd_T99 t444 x19_1).f0), .int .i64 x459002_107, .slice Ao111 t515.length co111, .int .i64 0]) ?_ 4 _ rfl; exact bp BK458⟩, ⟨bw HB⟩⟩
    have H' := am H
    clear H
    go_wp2
    go_meet
    case rel => exact ⟨_, (([] : List (S185))), (((rd_T99 t444 x19_1).f0)), (x459002_107), (t515), (0), (.slice none 0 0), (.slice Ao111 t515.length co111), H', ⟨lk3 HK1 HJ107 HJ129⟩, ⟨by (with_reducible repeat (first | apply Kd.V_alloc | apply Kd.V_drewN | apply Kd.V_drew)); exact Kd.V_mono HO_17.out (fun _ hk => ⟨hk.1, ⟨hk.2.1, ⟨(by simp [Value.ownBlock]), ⟨hk.2.2.1, ⟨hk.2.2.2.1, ⟨hk.2.2.2.2.1, ⟨hk.2.2.2.2.2.1, hk.2.2.2.2.2.2⟩⟩⟩⟩⟩⟩⟩)⟩, ⟨by (with_reducible repeat (first | apply Kd.S_alloc | apply Kd.S_drewN | apply Kd.S_drew)); exact Kd.S_mono HO_444001.out (fun _ hk => ⟨(by simp [Value.ownBlock]), ⟨hk.1, hk.2⟩⟩)⟩, ⟨kS HO_444002⟩, ⟨by first | exact Kd.R_nil _ _ _ _ _ | exact Kd.N_nil _ _ _ _ _ | exact Kd.V_nil _ _ _ _ _ | exact Kd.Q_nil _ _ _ _ _ | exact Kd.S_nil _ _ _ _ _⟩, ⟨kR HO_459003⟩, ⟨bp HP0_⟩, ⟨bp BK442⟩, ⟨bp BK443⟩, ⟨bp BK448⟩, ⟨bp BK458⟩, ⟨bw HB⟩⟩
   clear HC36
   (try clear c1); (try clear c5); (try clear p6); (try clear c10); (try clear c11); (try clear c12); (try clear c13); (try clear c14); (try clear c15); (try clear c45); (try clear c45b0); (try clear c45b1); (try clear c48); (try clear c49); (try clear c50); (try clear c51); (try clear c56); (try clear c57); (try clear c58); (try clear c61); (try clear c61b0); (try clear c61b1); (try clear p64); (try clear c65); (try clear c66); (try clear c67); (try clear c68); (try clear c73); (try clear c74); (try clear c75); (try clear c78); (try clear c78b0); (try clear c78b1); (try clear c92); (try clear c92b0); (try clear c92b1); (try clear c96); (try clear c97); (try clear c98); (try clear c99); (try clear c100); (try clear c101); (try clear c102); (try clear c105); (try clear c105b0); (try clear c105b1); (try clear c117); (try clear c118); (try clear c119); (try clear c120); (try clear c123); (try clear c123b0); (try clear c125); (try clear c126); (try clear c127); (try clear c128); (try clear c131); (try clear c131b0); (try clear c131b1); (try clear c132); (try clear c133); (try clear c134); (try clear c135); (try clear c137); (try clear c137b0); (try clear c137b1); (try clear c138); (try clear c139); (try clear c140); (try clear c141); (try clear c143); (try clear c144); (try clear c145); (try clear c146); (try clear c148); (try clear c149); (try clear c150); (try clear c151); (try clear c152); (try clear c154); (try clear c155); (try clear c156); (try clear hcz103_0); (try clear hcz103_1); (try clear hcz103_2); (try clear hcz103_3); (try clear hcz103_4); (try clear hcz121); (try clear hcz129_0); (try clear hcz129_1); (try clear hcz129_2); (try clear hcz129_3); (try clear hcz129_4); (try clear hcz136); (try clear hcz142); (try clear hcz147); (try clear hcz153); (try clear hcz157_0); (try clear hcz157_1); (try clear hcz157_2); (try clear hcz157_3); (try clear hcz157_4); (try clear hcz52); (try clear hcz59_0); (try clear hcz59_1); (try clear hcz59_2); (try clear hcz59_3); (try clear hcz59_4); (try clear hcz69); (try clear hcz76_0); (try clear hcz76_1); (try clear hcz76_2); (try clear hcz76_3); (try clear hcz76_4); (try clear hfz103_0); (try clear hfz103_1); (try clear hfz103_2); (try clear hfz103_3); (try clear hfz103_4); (try clear hfz121); (try clear hfz129_0); (try clear hfz129_1); (try clear hfz129_2); (try clear hfz129_3); (try clear hfz129_4); (try clear hfz136); (try clear hfz142); (try clear hfz147); (try clear hfz153); (try clear hfz157_0); (try clear hfz157_1); (try clear hfz157_2); (try clear hfz157_3); (try clear hfz157_4); (try clear hfz52); (try clear hfz59_0); (try clear hfz59_1); (try clear hfz59_2); (try clear hfz59_3); (try clear hfz59_4); (try clear hfz69); (try clear hfz76_0); (try clear hfz76_1); (try clear hfz76_2); (try clear hfz76_3); (try clear hfz76_4); (try clear p6); (try clear p64)
   obtain ⟨kq, x459000_35, x459001_35, x459002_35, x459003_35, x459004_35, u459000, u459003, HA, HJ35, HO_17, HO_444001, HO_444002, HO_459000, HO_459003, HP0_, BK442, BK443, BK448, BK458, HB⟩ := hcut
   rcases kq with _ | kj35
   ·exact absurd HA.out (by simp [impl_prog_plain.j3])
   have H := HA.out
   clear HA
   simp only [impl_prog_plain.j3] at H
   refine iN H ?_; clear H; intro c158 H
   have LMc158 := am c158
   clear c158
   obtain ⟨y520, hy520⟩ : ∃ y_ : List (S78), y_ = (x444001_1 ++ [(⟨x459000_35, x459001_35, x459002_35, x459003_35, x459004_35⟩ : S78)]) := ⟨_, rfl⟩
   replace H : ((impl_memories.f kj35 0 t466).bind fun t523 => (if x444002_1.length < 5864062014805 then (impl_prog_plain.l0 kj35 a1 t444 (t444.length : Int) (wrap64 (x19_1 + 1)) l0_0 l0_1 a1 y520 (x444002_1 ++ [t523])) else (none))) = some (r1, r2, r3) := by first | (rw [hy520]; with_reducible exact H) | (have H2_ := (Option.bind_some _ _).symm.trans H; rw [hy520]; with_reducible exact H2_) | (have H2_ := (Option.bind_some _ _).symm.trans H; with_reducible exact H2_) | with_reducible exact H | (rw [hy520]; exact H) | exact H
   have Ny520 := am hy520
   clear hy520
   refine be H ?_; clear H; intro t523 A159 H
   refine iN H ?_; clear H; intro c160 H
   have LMc160 := am c160
   clear c160
   obtain ⟨y526, hy526⟩ : ∃ y_ : List (List (S95)), y_ = (x444002_1 ++ [t523]) := ⟨_, rfl⟩
   replace H : (impl_prog_plain.l0 kj35 a1 t444 (t444.length : Int) (wrap64 (x19_1 + 1)) l0_0 l0_1 a1 y520 y526) = some (r1, r2, r3) := by first | (rw [hy526]; with_reducible exact H) | (have H2_ := (Option.bind_some _ _).symm.trans H; rw [hy526]; with_reducible exact H2_) | (have H2_ := (Option.bind_some _ _).symm.trans H; with_reducible exact H2_) | with_reducible exact H | (rw [hy526]; exact H) | exact H
   have Ny526 := am hy526
   clear hy526
   have H' := am H
   clear H
   have hnb161 := NB443_0.out
   have hnc161 := NB0_443.out
   have hnb162 := NB443_442.out
   have hnc162 := NB442_443.out
   have hnb163 := NB443_448.out
   have hnc163 := NB448_443.out
   have hnb164 := NB443_458.out
   have hnc164 := NB458_443.out
   have hcz165 := bK wc BK443
   have hfz165 := bF BK443
   have hnb166 := NB458_0.out
   have hnc166 := NB0_458.out
   have hnb167 := NB458_442.out
   have hnc167 := NB442_458.out
   have hnb168 := NB458_448.out
   have hnc168 := NB448_458.out
   have hcz169_0 := bk wc BK458 0
   have hcz169_1 := bk wc BK458 1
   have hcz169_2 := bk wc BK458 2
   have hcz169_3 := bk wc BK458 3
   have hcz169_4 := bk wc BK458 4
   have hfz169_0 := bf BK458 0
   have hfz169_1 := bf BK458 1
   have hfz169_2 := bf BK458 2
   have hfz169_3 := bf BK458 3
   have hfz169_4 := bf BK458 4
   obtain ⟨Ao171, co171, eo171⟩ := Kd.R_slice HO_459000.out
   subst eo171
   obtain ⟨Ao172, co172, eo172⟩ := Kd.R_slice HO_459003.out
   subst eo172
   try go_wp2_with (first | ((with_reducible refine gate_builtin (b := .append) (xs := #[.tmp 126, .tmp 128]) rfl ?_); at_builtin; refine Kd.S_append k78 (w0 := w) w.heap.size rfl (.tmp 126) (.tmp 128) 33 78 (.agg #[(.slice none 0 0), (.int .i64 0), (.int .i64 0), (.slice none 0 0), (.int .i64 0)]) 72 rfl Try.underlying33 info78 rfl (by decide) (by omega) u444001 x444001_1 (⟨x459000_35, x459001_35, x459002_35, x459003_35, x459004_35⟩ : S78) [.slice Ao171 x459000_35.length co171, .int .i64 x459001_35, .int .i64 x459002_35, .slice Ao172 x459003_35.length co172, .int .i64 x459004_35] (fun k_ => k_ ≠ gb458) (fun k_ => some k_ = (.slice Ao171 x459000_35.length co171 : Value).ownBlock ∨ some k_ = (.slice Ao172 x459003_35.length co172 : Value).ownBlock) rfl rfl ?aP (fun k_ hk_ => hk_.elim (fun h_ => ((Kd.R_mono (ok' := fun k_ => ((fun k_ => k_ ≠ gb458)) k_ ∧ some k_ ≠ (u444001 : Value).ownBlock) (Kd.R_types (Kd.R_apart' (HO_459000.out) (Kd.S_typed HO_444001.out) (by decide)) BK458.out (by decide)) (fun k_ hk => ⟨hk.2, hk.1.2⟩))).1 k_ h_.symm) (fun h_ => ((Kd.R_mono (ok' := fun k_ => ((fun k_ => k_ ≠ gb458)) k_ ∧ some k_ ≠ (u444001 : Value).ownBlock) (Kd.R_types (Kd.R_apart' (HO_459003.out) (Kd.S_typed HO_444001.out) (by decide)) BK458.out (by decide)) (fun k_ hk => ⟨hk.2, hk.1.2⟩))).1 k_ h_.symm)) ?aF ?aO ?aB ?aS ?aL ?_; (case aP => exact k78_mkM _ _ _ (⟨x459000_35, x459001_35, x459002_35, x459003_35, x459004_35⟩ : S78) (Kd.R_mono (Kd.R_tight rfl (Kd.R_mono (ok' := fun k_ => ((fun k_ => k_ ≠ gb458)) k_ ∧ some k_ ≠ (u444001 : Value).ownBlock) (Kd.R_types (Kd.R_apart' (HO_459000.out) (Kd.S_typed HO_444001.out) (by decide)) BK458.out (by decide)) (fun k_ hk => ⟨hk.2, hk.1.2⟩))) (fun _ h_ => Or.inl h_)) (Kd.R_mono (Kd.R_tight rfl (Kd.R_mono (ok' := fun k_ => ((fun k_ => k_ ≠ gb458)) k_ ∧ some k_ ≠ (u444001 : Value).ownBlock) (Kd.R_types (Kd.R_apart' (HO_459003.out) (Kd.S_typed HO_444001.out) (by decide)) BK458.out (by decide)) (fun k_ hk => ⟨hk.2, hk.1.2⟩))) (fun _ h_ => Or.inr (h_)))); (case aB => exact (bw HB)); (case aF => exact (fun k_ hk => Kd.freshB (g := gb458) (o := .cells #[.slice Ao171 x459000_35.length co171, .int .i64 x459001_35, .int .i64 x459002_35, .slice Ao172 x459003_35.length co172, .int .i64 x459004_35] 78 (0, 0)) (bp BK458) k_ hk)); (case aO => exact (by (with_reducible repeat (first | apply Kd.S_alloc | apply Kd.S_drewN | apply Kd.S_drew)); exact Kd.S_mono HO_444001.out (fun k_ hk => ⟨hk.2.2, fun e_ => e_.elim (fun h_ => hk.1 h_) (fun h_ => hk.2.1 h_)⟩))); (case aS => exact (below_size (bw HB))); (case aL => have := LMc158.out; omega); intro v521 w170 ho hb hg hat; rw [← Ny520.out] at ho; replace HO_17 := am (Kd.V_afterv (ok := (fun k_ => some k_ ≠ (u444002 : Value).ownBlock ∧ some k_ ≠ (.slice Ao171 x459000_35.length co171 : Value).ownBlock ∧ some k_ ≠ (.slice Ao172 x459003_35.length co172 : Value).ownBlock ∧ k_ ≠ gb442 ∧ k_ ≠ gb443 ∧ k_ ≠ gb448 ∧ k_ ≠ gb458)) (by (with_reducible repeat (first | apply Kd.V_alloc | apply Kd.V_drewN | apply Kd.V_drew)); exact Kd.V_mono HO_17.out (fun _ hk => ⟨⟨hk.2.1, ⟨hk.2.2.1, ⟨hk.2.2.2.1, ⟨hk.2.2.2.2.1, ⟨hk.2.2.2.2.2.1, ⟨hk.2.2.2.2.2.2.1, hk.2.2.2.2.2.2.2⟩⟩⟩⟩⟩⟩, hk.1⟩)) hg hat); replace HO_444002 := am (Kd.S_over' (kS HO_444002) (Kd.S_typed (kS HO_444001)) (by decide) hg); replace HP0_ := bg HP0_ hg (Kd.S_ne HO_444001.out HP0_.out (by decide)); replace BK442 := bg BK442 hg (Kd.S_ne HO_444001.out BK442.out (by decide)); replace BK443 := bg BK443 hg (Kd.S_ne HO_444001.out BK443.out (by decide)); replace BK448 := bg BK448 hg (Kd.S_ne HO_444001.out BK448.out (by decide)); replace BK458 := bg BK458 hg (Kd.S_away HO_444001.out (fun _ hk => hk.2.2)); replace HB := am (hb); have HO522 := am (ho); clear HO_444001; clear HO_459000; clear HO_459003; clear ho hb hg hat; obtain ⟨Ao173, co173, eo173⟩ := Kd.S_slice HO522.out; subst eo173; have hcz174 := bK w170 BK443; have hfz174 := bF BK443))
   replace HO_17 : Aside0 (Kd.V k99 99 (w170.setCell ⟨gb443, 1, none⟩ (.slice Ao173 y520.length co173)) w.heap.size (fun k_ => some k_ ≠ (u444002 : Value).ownBlock ∧ some k_ ≠ (.slice Ao173 y520.length co173 : Value).ownBlock ∧ k_ ≠ gb442 ∧ k_ ≠ gb443 ∧ k_ ≠ gb448 ∧ k_ ≠ gb458) (.slice (some ad447) t444.length co11) t444) := ⟨by (with_reducible repeat (first | apply Kd.V_alloc | apply Kd.V_drewN | apply Kd.V_drew)); exact Kd.V_mono (Kd.V_far (p := ⟨gb443, 1, none⟩) (Kd.V_mono HO_17.out (fun k_ hk => (⟨hk, hk.1.2.2.2.2.1⟩ : _ ∧ k_ ≠ gb443))) (fun _ hk => hk.2) (.slice Ao173 y520.length co173)) (fun _ hk => ⟨hk.1.1.1, ⟨hk.1.2, ⟨hk.1.1.2.2.2.1, ⟨hk.1.1.2.2.2.2.1, ⟨hk.1.1.2.2.2.2.2.1, hk.1.1.2.2.2.2.2.2⟩⟩⟩⟩⟩)⟩
   replace HO_444002 : Aside0 (Kd.S (Kd.slice 95 k95) 76 (w170.setCell ⟨gb443, 1, none⟩ (.slice Ao173 y520.length co173)) w.heap.size (fun _ => True) u444002 x444002_1) := ⟨by (with_reducible repeat (first | apply Kd.S_alloc | apply Kd.S_drewN | apply Kd.S_drew)); exact Kd.S_mono (Kd.S_far (p := ⟨gb443, 1, none⟩) (Kd.S_types HO_444002.out BK443.out (by decide)) (fun _ hk => hk.2) (.slice Ao173 y520.length co173)) (fun _ hk => trivial)⟩
   replace HO522 : Aside0 (Kd.S k78 78 (w170.setCell ⟨gb443, 1, none⟩ (.slice Ao173 y520.length co173)) w.heap.size (fun k_ => k_ ≠ gb458) (.slice Ao173 y520.length co173) y520) := ⟨by (with_reducible repeat (first | apply Kd.S_alloc | apply Kd.S_drewN | apply Kd.S_drew)); exact Kd.S_mono (Kd.S_far (p := ⟨gb443, 1, none⟩) (Kd.S_types HO522.out BK443.out (by decide)) (fun _ hk => hk.2) (.slice Ao173 y520.length co173)) (fun _ hk => hk.1)⟩
   replace HP0_ : Aside0 ((w170.setCell ⟨gb443, 1, none⟩ (.slice Ao173 y520.length co173)).heap[g0_]? = some (.cells #[.slice A0_0 l0_0.length c0_0, .slice A0_1 l0_1.length c0_1] 144 (0, 0))) := ⟨by (with_reducible repeat (first | apply dN | apply dW | apply dA)); refine blk_far ?_ NB0_443.out _; exact bp HP0_⟩
   replace BK442 : Aside0 ((w170.setCell ⟨gb443, 1, none⟩ (.slice Ao173 y520.length co173)).heap[gb442]? = some (.cells #[.int .i64 0, .slice none 0 0, .slice none 0 0] 36 (0, 0))) := ⟨by (with_reducible repeat (first | apply dN | apply dW | apply dA)); refine blk_far ?_ NB442_443.out _; exact bp BK442⟩
   replace BK443 : Aside0 ((w170.setCell ⟨gb443, 1, none⟩ (.slice Ao173 y520.length co173)).heap[gb443]? = some (.cells #[.int .i64 a1, .slice Ao173 y520.length co173, u444002] 36 (0, 0))) := ⟨by (with_reducible repeat (first | apply dN | apply dW | apply dA)); refine blk_put (cs := #[.int .i64 a1, u444001, u444002]) ?_ 1 _ rfl; exact bp BK443⟩
   replace BK448 : Aside0 ((w170.setCell ⟨gb443, 1, none⟩ (.slice Ao173 y520.length co173)).heap[gb448]? = some (.cells #[.int .i64 ((rd_T99 t444 x19_1).f0), .int .i64 ((rd_T99 t444 x19_1).f1)] 99 (0, 0))) := ⟨by (with_reducible repeat (first | apply dN | apply dW | apply dA)); refine blk_far ?_ NB448_443.out _; exact bp BK448⟩
   replace BK458 : Aside0 ((w170.setCell ⟨gb443, 1, none⟩ (.slice Ao173 y520.length co173)).heap[gb458]? = some (.cells #[.slice Ao171 x459000_35.length co171, .int .i64 x459001_35, .int .i64 x459002_35, .slice Ao172 x459003_35.length co172, .int .i64 x459004_35] 78 (0, 0))) := ⟨by (with_reducible repeat (first | apply dN | apply dW | apply dA)); refine blk_far ?_ NB458_443.out _; exact bp BK458⟩
   replace HB : Aside0 (Below w.heap.size w (w170.setCell ⟨gb443, 1, none⟩ (.slice Ao173 y520.length co173))) := ⟨bw HB⟩
   generalize (w170.setCell ⟨gb443, 1, none⟩ (.slice Ao173 y520.length co173)) = w175 at HO_17 HO_444002 HO522 HP0_ BK442 BK443 BK448 BK458 HB ⊢
   replace HO_17 := am (Kd.V_drew HO_17.out)
   replace HO_444002 := am (Kd.S_drew HO_444002.out)
   replace HO522 := am (Kd.S_drew HO522.out)
   replace HP0_ := am (blk_drew HP0_.out)
   replace BK442 := am (blk_drew BK442.out)
   replace BK443 := am (blk_drew BK443.out)
   replace BK448 := am (blk_drew BK448.out)
   replace BK458 := am (blk_drew BK458.out)
   replace HB := am (below_drew1 HB.out)
   refine start_ (n := 8) (S := fun w' => w'.cell? ⟨gb443, 0, none⟩ = some (.int .i64 a1) ∧ w'.cell? ⟨gb443, 1, none⟩ = some (.slice Ao173 y520.length co173) ∧ w'.cell? ⟨gb443, 2, none⟩ = some (u444002)) (ds := [7]) (bv 8 0) (by kernel_rfl) rfl (by kernel_rfl) ⟨bc BK443 0, bc BK443 1, bc BK443 2⟩ (fun hHeld => ?_); refine with_tabW impl_prog_plain.tab28 impl_prog_plain.bits28 (fun HT_ HW_ => ?_)
   generalize w175.drew = w176 at HO_17 HO_444002 HO522 HP0_ BK442 BK443 BK448 BK458 HB hHeld ⊢
   refine pu 0 131 8 1 HT_ ?_
   refine pu 2 133 8 5 HT_ ?_
   refine tk 1 132 8 7 HT_ HW_ hHeld ?_
   refine on 3 (some 134) 8 15 HT_ fun K hK => ?_
   refine goes_ Try.func100 (by kernel_rfl) rfl #[.int .i64 0, .int .i64 t466] (by rfl) rfl rfl gl ?_
   with_reducible refine (impl_memories.calls kj35 0 t466 t523 _ A159.out).mono ?_
   rintro e w177 ⟨v524, rfl, ho0, hb⟩
   refine ⟨_, rfl, ?_⟩
   have n0_ := am (Kd.V_elder' (kV HO_17) (Kd.R_base ho0) hb)
   have n1_ := am (Kd.S_elder' (kS HO_444002) (Kd.R_base ho0) hb)
   have n2_ := am (Kd.S_elder' (kS HO522) (Kd.R_base ho0) hb)
   have n3_ := am (Kd.R_lower ho0 (below_size (bw HB)))
   have n4_ := bb HP0_ hb
   have n5_ := bb BK442 hb
   have n6_ := bb BK443 hb
   have n7_ := bb BK448 hb
   have n8_ := bb BK458 hb
   have n9_ := am (below_step (bw HB) hb)
   clear HO_17
   clear HO_444002
   clear HO522
   clear HP0_
   clear BK442
   clear BK443
   clear BK448
   clear BK458
   clear HB
   have HO_17 := n0_
   have HO_444002 := n1_
   have HO522 := n2_
   have HO525 := n3_
   have HP0_ := n4_
   have BK442 := n5_
   have BK443 := n6_
   have BK448 := n7_
   have BK458 := n8_
   have HB := n9_
   clear n0_ n1_ n2_ n3_ n4_ n5_ n6_ n7_ n8_ n9_
   clear hb
   (try clear ho0)
   obtain ⟨Ao179, co179, eo179⟩ := Kd.R_slice HO525.out
   (first | subst eo179 | (injection eo179 with f1_ f2_ f3_; have f4_ := f1_.symm; have f5_ := f3_.symm; clear f1_ f2_ f3_; subst f4_; subst f5_))
   refine hK.out _ _ ⟨bc BK443 0, bc BK443 1, bc BK443 2⟩ (fun hHeld => ?_)
   clear hK K
   refine nm (some 134) ?_
   refine on 4 (some 135) 8 31 HT_ fun K hK => ?_
   refine value_ (w1 := ?_) (v := ?_) (by rfl) rfl ?_ ?_
   rotate_left 2
   ·go_simp
    constructor
    ·rfl
    rfl
   refine hK.out _ _ ⟨(blk_cell (blk_alloc BK443.out _) 0).trans rfl, (blk_cell (blk_alloc BK443.out _) 1).trans rfl, (blk_cell (blk_alloc BK443.out _) 2).trans rfl⟩ (fun hHeld => ?_)
   clear hK K
   refine nm (some 135) ?_
   refine on 5 (some 136) 8 63 HT_ fun K hK => ?_
   refine Kd.S_append_step (Kd.slice 95 k95) (w0 := w) w.heap.size (by rfl) (.tmp 132) (.tmp 135) 34 76 (.slice none 0 0) 24 rfl Try.underlying34 info76 rfl (by decide) (by omega) u444002 x444002_1 t523 [.slice Ao179 t523.length co179] (fun _ => True) (fun k_ => some k_ = (.slice Ao179 t523.length co179 : Value).ownBlock) rfl rfl ?aP (fun k_ hk_ => ((Kd.R_mono (ok' := fun k_ => ((fun _ => True)) k_ ∧ some k_ ≠ (u444002 : Value).ownBlock) (Kd.R_apart' (HO525.out) (Kd.S_typed HO_444002.out) (by decide)) (fun k_ hk => ⟨trivial, hk.2⟩))).1 k_ hk_.symm) ?aF ?aO ?aB ?aS ?aL ?_
   (case aP => exact Kd.M_row (Kd.R_mono (Kd.R_tight rfl (Kd.R_mono (ok' := fun k_ => ((fun _ => True)) k_ ∧ some k_ ≠ (u444002 : Value).ownBlock) (Kd.R_apart' (HO525.out) (Kd.S_typed HO_444002.out) (by decide)) (fun k_ hk => ⟨trivial, hk.2⟩))) (fun _ h_ => h_)))
   (case aB => exact (bw HB))
   (case aF => exact (fun _ _ => trivial))
   (case aO => exact (by (with_reducible repeat (first | apply Kd.S_alloc | apply Kd.S_drewN | apply Kd.S_drew)); exact Kd.S_mono HO_444002.out (fun k_ hk => ⟨trivial, fun e_ => hk.2 e_⟩)))
   (case aS => exact (below_size (bw HB)))
   (case aL => have := LMc160.out; omega)
   intro v527 w178 ho hb hg hat
   rw [← Ny526.out] at ho
   have n0_ := am (Kd.V_afterv (ok := (fun k_ => some k_ ≠ (.slice Ao173 y520.length co173 : Value).ownBlock ∧ some k_ ≠ (.slice Ao179 t523.length co179 : Value).ownBlock ∧ k_ ≠ gb442 ∧ k_ ≠ gb443 ∧ k_ ≠ gb448 ∧ k_ ≠ gb458)) (by (with_reducible repeat (first | apply Kd.V_alloc | apply Kd.V_drewN | apply Kd.V_drew)); exact Kd.V_mono HO_17.out (fun _ hk => ⟨⟨hk.1.2.1, ⟨hk.2, ⟨hk.1.2.2.1, ⟨hk.1.2.2.2.1, ⟨hk.1.2.2.2.2.1, hk.1.2.2.2.2.2⟩⟩⟩⟩⟩, hk.1.1⟩)) hg hat)
   have n1_ := bg HP0_ hg (Kd.S_ne HO_444002.out HP0_.out (by decide))
   have n2_ := bg BK442 hg (Kd.S_ne HO_444002.out BK442.out (by decide))
   have n3_ := bg BK443 hg (Kd.S_ne HO_444002.out BK443.out (by decide))
   have n4_ := bg BK448 hg (Kd.S_ne HO_444002.out BK448.out (by decide))
   have n5_ := bg BK458 hg (Kd.S_ne HO_444002.out BK458.out (by decide))
   have n6_ := am (Kd.S_over' (kS HO522) (Kd.S_typed (kS HO_444002)) (by decide) hg)
   have n7_ := am (hb)
   have n8_ := am (ho)
   clear HO_17
   clear HP0_
   clear BK442
   clear BK443
   clear BK448
   clear BK458
   clear HO522
   clear HB
   clear HO_444002
   clear HO525
   have HO_17 := n0_
   have HP0_ := n1_
   have BK442 := n2_
   have BK443 := n3_
   have BK448 := n4_
   have BK458 := n5_
   have HO522 := n6_
   have HB := n7_
   have HO528 := n8_
   clear n0_ n1_ n2_ n3_ n4_ n5_ n6_ n7_ n8_
   clear ho hb hg hat
   obtain ⟨Ao180, co180, eo180⟩ := Kd.S_slice HO528.out
   (first | subst eo180 | (injection eo180 with f1_ f2_ f3_; have f4_ := f1_.symm; have f5_ := f3_.symm; clear f1_ f2_ f3_; subst f4_; subst f5_))
   refine hK.out _ _ ⟨bc BK443 0, bc BK443 1, bc BK443 2⟩ (fun hHeld => ?_)
   clear hK K
   refine nm (some 136) ?_
   refine pu 6 137 8 127 HT_ ?_
   refine last_ (i := 7) (N := none) (bv 8 255) rfl rfl (one_of HT_.out (by kernel_rfl)) (by decide) (fun K hK => ?_)
   have hs181 := bk w178 BK443 2
   have hfs181 := bf BK443 2
   have hns181_0 := NB0_443.out
   have hns181_1 := NB442_443.out
   have hns181_3 := NB448_443.out
   have hns181_4 := NB458_443.out
   have hms181_0 := NB443_0.out
   have hms181_1 := NB443_442.out
   have hms181_3 := NB443_448.out
   have hms181_4 := NB443_458.out
   refine skip_ (w1 := ?_) (by rfl) rfl ?_ ?_
   rotate_left
   ·go_simp
    rfl
   refine hK.out _ _ ?_
   clear hK K
   refine done_ (done_of HT_.out (by kernel_rfl)) ?_
   try go_wp2
   go_roundg kj35
   case measure => have := HK1.out; have := HJ35.out; omega
   case rel => exact ⟨(wrap64 (x19_1 + 1)), (y520), (y526), (.slice Ao173 y520.length co173), (.slice Ao180 y526.length co180), dr, H', ⟨by have := HK1.out; have := HJ35.out; omega⟩, ⟨by (with_reducible repeat (first | apply Kd.V_alloc | apply Kd.V_drewN | apply Kd.V_drew)); exact Kd.V_mono (Kd.V_far (p := ⟨gb443, 2, none⟩) (Kd.V_mono HO_17.out (fun k_ hk => (⟨hk, hk.1.2.2.2.1⟩ : _ ∧ k_ ≠ gb443))) (fun _ hk => hk.2) (.slice Ao180 y526.length co180)) (fun _ hk => ⟨hk.1.1.1, ⟨hk.1.2, ⟨hk.1.1.2.2.1, hk.1.1.2.2.2.1⟩⟩⟩)⟩, ⟨by (with_reducible repeat (first | apply Kd.S_alloc | apply Kd.S_drewN | apply Kd.S_drew)); exact Kd.S_mono (Kd.S_far (p := ⟨gb443, 2, none⟩) (Kd.S_types HO522.out BK443.out (by decide)) (fun _ hk => hk.2) (.slice Ao180 y526.length co180)) (fun _ hk => trivial)⟩, ⟨by (with_reducible repeat (first | apply Kd.S_alloc | apply Kd.S_drewN | apply Kd.S_drew)); exact Kd.S_mono (Kd.S_far (p := ⟨gb443, 2, none⟩) (Kd.S_types HO528.out BK443.out (by decide)) (fun _ hk => hk.2) (.slice Ao180 y526.length co180)) (fun _ hk => trivial)⟩, ⟨by (with_reducible repeat (first | apply dN | apply dW | apply dA)); refine blk_far ?_ NB0_443.out _; exact bp HP0_⟩, ⟨by (with_reducible repeat (first | apply dN | apply dW | apply dA)); refine blk_far ?_ NB442_443.out _; exact bp BK442⟩, ⟨by (with_reducible repeat (first | apply dN | apply dW | apply dA)); refine blk_put (cs := #[.int .i64 a1, .slice Ao173 y520.length co173, u444002]) ?_ 2 _ rfl; exact bp BK443⟩, ⟨bw HB⟩⟩
  refine iN H ?_; clear H; intro c182 H
  have LMc182 := am c182
  clear c182
  obtain ⟨y460, hy460⟩ : ∃ y_ : List (S78), y_ = (x444001_1 ++ [(⟨t449, t452, t453, t454, t457⟩ : S78)]) := ⟨_, rfl⟩
  replace H : (if x444002_1.length < 5864062014805 then (impl_prog_plain.l0 k1 a1 t444 (t444.length : Int) (wrap64 (x19_1 + 1)) l0_0 l0_1 a1 y460 (x444002_1 ++ [[]])) else (none)) = some (r1, r2, r3) := by first | (rw [hy460]; with_reducible exact H) | (have H2_ := (Option.bind_some _ _).symm.trans H; rw [hy460]; with_reducible exact H2_) | (have H2_ := (Option.bind_some _ _).symm.trans H; with_reducible exact H2_) | with_reducible exact H | (rw [hy460]; exact H) | exact H
  have Ny460 := am hy460
  clear hy460
  refine iN H ?_; clear H; intro c183 H
  have LMc183 := am c183
  clear c183
  obtain ⟨y463, hy463⟩ : ∃ y_ : List (List (S95)), y_ = (x444002_1 ++ [[]]) := ⟨_, rfl⟩
  replace H : (impl_prog_plain.l0 k1 a1 t444 (t444.length : Int) (wrap64 (x19_1 + 1)) l0_0 l0_1 a1 y460 y463) = some (r1, r2, r3) := by first | (rw [hy463]; with_reducible exact H) | (have H2_ := (Option.bind_some _ _).symm.trans H; rw [hy463]; with_reducible exact H2_) | (have H2_ := (Option.bind_some _ _).symm.trans H; with_reducible exact H2_) | with_reducible exact H | (rw [hy463]; exact H) | exact H
  have Ny463 := am hy463
  clear hy463
  have H' := am H
  clear H
  have hnb184 := NB443_0.out
  have hnc184 := NB0_443.out
  have hnb185 := NB443_442.out
  have hnc185 := NB442_443.out
  have hnb186 := NB443_448.out
  have hnc186 := NB448_443.out
  have hnb187 := NB443_458.out
  have hnc187 := NB458_443.out
  have hcz188 := bK w32 BK443
  have hfz188 := bF BK443
  have hnb189 := NB458_0.out
  have hnc189 := NB0_458.out
  have hnb190 := NB458_442.out
  have hnc190 := NB442_458.out
  have hnb191 := NB458_448.out
  have hnc191 := NB448_458.out
  have hcz192_0 := bk w32 BK458 0
  have hcz192_1 := bk w32 BK458 1
  have hcz192_2 := bk w32 BK458 2
  have hcz192_3 := bk w32 BK458 3
  have hcz192_4 := bk w32 BK458 4
  have hfz192_0 := bf BK458 0
  have hfz192_1 := bf BK458 1
  have hfz192_2 := bf BK458 2
  have hfz192_3 := bf BK458 3
  have hfz192_4 := bf BK458 4
  go_wp2_with (first | ((with_reducible refine gate_builtin (b := .append) (xs := #[.tmp 32, .tmp 34]) rfl ?_); at_builtin; refine Kd.S_append k78 (w0 := w) w.heap.size rfl (.tmp 32) (.tmp 34) 33 78 (.agg #[(.slice none 0 0), (.int .i64 0), (.int .i64 0), (.slice none 0 0), (.int .i64 0)]) 72 rfl Try.underlying33 info78 rfl (by decide) (by omega) u444001 x444001_1 (⟨t449, t452, t453, t454, t457⟩ : S78) [.slice Ao25 t449.length co25, .int .i64 t452, .int .i64 t453, .slice Ao31 t454.length co31, .int .i64 t457] (fun k_ => k_ ≠ gb458) (fun k_ => some k_ = (.slice Ao25 t449.length co25 : Value).ownBlock ∨ some k_ = (.slice Ao31 t454.length co31 : Value).ownBlock) rfl rfl ?aP (fun k_ hk_ => hk_.elim (fun h_ => ((Kd.R_mono (ok' := fun k_ => ((fun k_ => k_ ≠ gb458)) k_ ∧ some k_ ≠ (u444001 : Value).ownBlock) (Kd.R_types (Kd.R_apart' (HO451.out) (Kd.S_typed HO_444001.out) (by decide)) BK458.out (by decide)) (fun k_ hk => ⟨hk.2, hk.1.2⟩))).1 k_ h_.symm) (fun h_ => ((Kd.R_mono (ok' := fun k_ => ((fun k_ => k_ ≠ gb458)) k_ ∧ some k_ ≠ (u444001 : Value).ownBlock) (Kd.R_types (Kd.R_apart' (HO456.out) (Kd.S_typed HO_444001.out) (by decide)) BK458.out (by decide)) (fun k_ hk => ⟨hk.2, hk.1.2⟩))).1 k_ h_.symm)) ?aF ?aO ?aB ?aS ?aL ?_; (case aP => exact k78_mkM _ _ _ (⟨t449, t452, t453, t454, t457⟩ : S78) (Kd.R_mono (Kd.R_tight rfl (Kd.R_mono (ok' := fun k_ => ((fun k_ => k_ ≠ gb458)) k_ ∧ some k_ ≠ (u444001 : Value).ownBlock) (Kd.R_types (Kd.R_apart' (HO451.out) (Kd.S_typed HO_444001.out) (by decide)) BK458.out (by decide)) (fun k_ hk => ⟨hk.2, hk.1.2⟩))) (fun _ h_ => Or.inl h_)) (Kd.R_mono (Kd.R_tight rfl (Kd.R_mono (ok' := fun k_ => ((fun k_ => k_ ≠ gb458)) k_ ∧ some k_ ≠ (u444001 : Value).ownBlock) (Kd.R_types (Kd.R_apart' (HO456.out) (Kd.S_typed HO_444001.out) (by decide)) BK458.out (by decide)) (fun k_ hk => ⟨hk.2, hk.1.2⟩))) (fun _ h_ => Or.inr (h_)))); (case aB => exact (bw HB)); (case aF => exact (fun k_ hk => Kd.freshB (g := gb458) (o := .cells #[.slice Ao25 t449.length co25, .int .i64 t452, .int .i64 t453, .slice Ao31 t454.length co31, .int .i64 t457] 78 (0, 0)) (bp BK458) k_ hk)); (case aO => exact (by (with_reducible repeat (first | apply Kd.S_alloc | apply Kd.S_drewN | apply Kd.S_drew)); exact Kd.S_mono HO_444001.out (fun k_ hk => ⟨hk.2, fun e_ => e_.elim (fun h_ => hk.1.1.2 h_) (fun h_ => hk.1.2 h_)⟩))); (case aS => exact (below_size (bw HB))); (case aL => have := LMc182.out; omega); intro v461 w193 ho hb hg hat; rw [← Ny460.out] at ho; replace HO_17 := am (Kd.V_afterv (ok := (fun k_ => some k_ ≠ (u444002 : Value).ownBlock ∧ some k_ ≠ (.slice Ao25 t449.length co25 : Value).ownBlock ∧ some k_ ≠ (.slice Ao31 t454.length co31 : Value).ownBlock ∧ k_ ≠ gb442 ∧ k_ ≠ gb443 ∧ k_ ≠ gb448 ∧ k_ ≠ gb458)) (by (with_reducible repeat (first | apply Kd.V_alloc | apply Kd.V_drewN | apply Kd.V_drew)); exact Kd.V_mono HO_17.out (fun _ hk => ⟨⟨hk.1.1.1.1.2.1, ⟨hk.1.1.2, ⟨hk.1.2, ⟨hk.1.1.1.1.2.2.1, ⟨hk.1.1.1.1.2.2.2, ⟨hk.1.1.1.2, hk.2⟩⟩⟩⟩⟩⟩, hk.1.1.1.1.1⟩)) hg hat); replace HO_444002 := am (Kd.S_over' (kS HO_444002) (Kd.S_typed (kS HO_444001)) (by decide) hg); replace HP0_ := bg HP0_ hg (Kd.S_ne HO_444001.out HP0_.out (by decide)); replace BK442 := bg BK442 hg (Kd.S_ne HO_444001.out BK442.out (by decide)); replace BK443 := bg BK443 hg (Kd.S_ne HO_444001.out BK443.out (by decide)); replace BK448 := bg BK448 hg (Kd.S_ne HO_444001.out BK448.out (by decide)); replace BK458 := bg BK458 hg (Kd.S_away HO_444001.out (fun _ hk => hk.2)); replace HB := am (hb); have HO462 := am (ho); clear HO_444001; clear HO451; clear HO456; clear ho hb hg hat; obtain ⟨Ao194, co194, eo194⟩ := Kd.S_slice HO462.out; subst eo194; have hcz195 := bK w193 BK443; have hfz195 := bF BK443) | ((with_reducible refine gate_builtin (b := .append) (xs := #[.tmp 38, .tmp 39]) rfl ?_); at_builtin; refine Kd.S_append (Kd.slice 95 k95) (w0 := w) w.heap.size rfl (.tmp 38) (.tmp 39) 34 76 (.slice none 0 0) 24 rfl Try.underlying34 info76 rfl (by decide) (by omega) u444002 x444002_1 ([] : List (S95)) [.slice none 0 0] (fun _ => True) (fun _ => False) rfl (by first | (go_simp; done) | (go_simp; rfl)) ?aP (fun k_ hk_ => hk_.elim) ?aF ?aO ?aB ?aS ?aL ?_; (case aP => exact Kd.M_row (Kd.R_nil _ _ _ _ _)); (case aB => exact (bw HB)); (case aF => exact (fun _ _ => trivial)); (case aO => exact (by (with_reducible repeat (first | apply Kd.S_alloc | apply Kd.S_drewN | apply Kd.S_drew)); exact Kd.S_mono (Kd.S_far (p := ⟨gb443, 1, none⟩) (Kd.S_types HO_444002.out BK443.out (by decide)) (fun _ hk => hk.2) (.slice Ao194 y460.length co194)) (fun k_ hk => ⟨trivial, fun e_ => e_⟩))); (case aS => exact (below_size (bw HB))); (case aL => have := LMc183.out; omega); intro v464 w196 ho hb hg hat; rw [← Ny463.out] at ho; replace HO_17 := am (Kd.V_afterv (ok := (fun k_ => some k_ ≠ (.slice Ao194 y460.length co194 : Value).ownBlock ∧ k_ ≠ gb442 ∧ k_ ≠ gb443 ∧ k_ ≠ gb448 ∧ k_ ≠ gb458)) (by (with_reducible repeat (first | apply Kd.V_alloc | apply Kd.V_drewN | apply Kd.V_drew)); exact Kd.V_mono (Kd.V_far (p := ⟨gb443, 1, none⟩) (Kd.V_mono HO_17.out (fun k_ hk => (⟨hk, hk.1.2.2.2.2.1⟩ : _ ∧ k_ ≠ gb443))) (fun _ hk => hk.2) (.slice Ao194 y460.length co194)) (fun _ hk => ⟨⟨hk.1.2, ⟨hk.1.1.2.2.2.1, ⟨hk.1.1.2.2.2.2.1, ⟨hk.1.1.2.2.2.2.2.1, hk.1.1.2.2.2.2.2.2⟩⟩⟩⟩, hk.1.1.1⟩)) hg hat); replace HP0_ := bO #[.slice A0_0 l0_0.length c0_0, .slice A0_1 l0_1.length c0_1] HP0_ hg (Kd.S_ne HO_444002.out HP0_.out (by decide)); replace BK442 := bO #[.int .i64 0, .slice none 0 0, .slice none 0 0] BK442 hg (Kd.S_ne HO_444002.out BK442.out (by decide)); replace BK448 := bO #[.int .i64 ((rd_T99 t444 x19_1).f0), .int .i64 ((rd_T99 t444 x19_1).f1)] BK448 hg (Kd.S_ne HO_444002.out BK448.out (by decide)); replace BK458 := bO #[.slice Ao25 t449.length co25, .int .i64 t452, .int .i64 t453, .slice Ao31 t454.length co31, .int .i64 t457] BK458 hg (Kd.S_ne HO_444002.out BK458.out (by decide)); replace HO462 := am (Kd.S_over' (by (with_reducible repeat (first | apply Kd.S_alloc | apply Kd.S_drewN | apply Kd.S_drew)); exact (Kd.S_mono (Kd.S_far (p := ⟨gb443, 1, none⟩) (Kd.S_types HO462.out BK443.out (by decide)) (fun _ hk => hk.2) (.slice Ao194 y460.length co194)) (fun _ h_ => h_.1))) (Kd.S_typed (by (with_reducible repeat (first | apply Kd.S_alloc | apply Kd.S_drewN | apply Kd.S_drew)); exact (Kd.S_mono (Kd.S_far (p := ⟨gb443, 1, none⟩) (Kd.S_types HO_444002.out BK443.out (by decide)) (fun _ hk => hk.2) (.slice Ao194 y460.length co194)) (fun _ h_ => h_.1)))) (by decide) hg); replace BK443 := bO #[.int .i64 a1, .slice Ao194 y460.length co194, u444002] BK443 hg (Kd.S_ne HO_444002.out BK443.out (by decide)); replace HB := am (hb); have HO465 := am (ho); clear HO_444002; clear ho hb hg hat; obtain ⟨Ao197, co197, eo197⟩ := Kd.S_slice HO465.out; subst eo197; have hcz198 := bK w196 BK443; have hfz198 := bF BK443))
  go_roundg k1
  case measure => have := HK1.out; omega
  case rel => exact ⟨(wrap64 (x19_1 + 1)), (y460), (y463), (.slice Ao194 y460.length co194), (.slice Ao197 y463.length co197), dr, H', ⟨by have := HK1.out; omega⟩, ⟨by (with_reducible repeat (first | apply Kd.V_alloc | apply Kd.V_drewN | apply Kd.V_drew)); exact Kd.V_mono (Kd.V_far (p := ⟨gb443, 2, none⟩) (Kd.V_mono HO_17.out (fun k_ hk => (⟨hk, hk.1.2.2.1⟩ : _ ∧ k_ ≠ gb443))) (fun _ hk => hk.2) (.slice Ao197 y463.length co197)) (fun _ hk => ⟨hk.1.1.1, ⟨hk.1.2, ⟨hk.1.1.2.1, hk.1.1.2.2.1⟩⟩⟩)⟩, ⟨by (with_reducible repeat (first | apply Kd.S_alloc | apply Kd.S_drewN | apply Kd.S_drew)); exact Kd.S_mono (Kd.S_far (p := ⟨gb443, 2, none⟩) (Kd.S_types HO462.out BK443.out (by decide)) (fun _ hk => hk.2) (.slice Ao197 y463.length co197)) (fun _ hk => trivial)⟩, ⟨by (with_reducible repeat (first | apply Kd.S_alloc | apply Kd.S_drewN | apply Kd.S_drew)); exact Kd.S_mono (Kd.S_far (p := ⟨gb443, 2, none⟩) (Kd.S_types HO465.out BK443.out (by decide)) (fun _ hk => hk.2) (.slice Ao197 y463.length co197)) (fun _ hk => trivial)⟩, ⟨by (with_reducible repeat (first | apply dN | apply dW | apply dA)); refine blk_far ?_ NB0_443.out _; exact bp HP0_⟩, ⟨by (with_reducible repeat (first | apply dN | apply dW | apply dA)); refine blk_far ?_ NB442_443.out _; exact bp BK442⟩, ⟨by (with_reducible repeat (first | apply dN | apply dW | apply dA)); refine blk_put (cs := #[.int .i64 a1, .slice Ao194 y460.length co194, u444002]) ?_ 2 _ rfl; exact bp BK443⟩, ⟨bw HB⟩⟩
 rw [if_neg c12] at H
 have c12b0 := decide_eq_false c12
 clear c12
 simp only [Option.some.injEq, Prod.mk.injEq] at H
 obtain ⟨rfl, rfl, rfl⟩ := H
 have hnb199 := NB443_0.out
 have hnc199 := NB0_443.out
 have hnb200 := NB443_442.out
 have hnc200 := NB442_443.out
 have hcz201 := bK wr BK443
 have hfz201 := bF BK443
 have hnb202 := NB442_0.out
 have hnc202 := NB0_442.out
 have hcz203 := bK wr BK442
 have hfz203 := bF BK442
 obtain ⟨Ao204, co204, eo204⟩ := Kd.S_slice HO_444001.out
 subst eo204
 obtain ⟨Ao205, co205, eo205⟩ := Kd.S_slice HO_444002.out
 subst eo205
 go_wp2
 refine bodyPost_ret (results_cell_row rfl _ _ gb442 36 #[.int .i64 a1, .slice Ao204 x444001_1.length co204, .slice Ao205 x444002_1.length co205] (0, 0) _ rfl (bt BK442) Try.underlying36 rfl (by kernel_rfl)) rfl ?_
 exact ⟨_, _, er, by (with_reducible repeat (first | apply Kd.S_alloc | apply Kd.S_drewN | apply Kd.S_drew)); exact Kd.S_mono (Kd.S_far (p := ⟨gb442, 2, none⟩) (Kd.S_far (p := ⟨gb442, 1, none⟩) (Kd.S_far (p := ⟨gb442, 0, none⟩) (Kd.S_types HO_444001.out BK442.out (by decide)) (fun _ hk => hk.2) (.int .i64 a1)) (fun _ hk => hk.2) (.slice Ao204 x444001_1.length co204)) (fun _ hk => hk.2) (.slice Ao205 x444002_1.length co205)) (fun _ hk => trivial), by (with_reducible repeat (first | apply Kd.S_alloc | apply Kd.S_drewN | apply Kd.S_drew)); exact Kd.S_mono (Kd.S_far (p := ⟨gb442, 2, none⟩) (Kd.S_far (p := ⟨gb442, 1, none⟩) (Kd.S_far (p := ⟨gb442, 0, none⟩) (Kd.S_types HO_444002.out BK442.out (by decide)) (fun _ hk => hk.2) (.int .i64 a1)) (fun _ hk => hk.2) (.slice Ao204 x444001_1.length co204)) (fun _ hk => hk.2) (.slice Ao205 x444002_1.length co205)) (fun _ hk => trivial), bw HB⟩

end Go.Proofs.Ythdfokebbcheoaa.QFnExactPlainSize
