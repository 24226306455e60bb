import Derived.Test.YtbmjmaahcaoajaaCFnExactStateRightx0
import Derived.Test.YtbmjmaahcaoajaaCFnExactStateRightx17
import Derived.Test.YtbmjmaahcaoajaaCFnExactStateRightx18
import Derived.Test.YtbmjmaahcaoajaaCFnExactStateRightx19
namespace Go.Proofs.Ytbmjmaahcaoajaa.QFnExactStateRight
open Go.RowKit Go.Proofs.YtbmjmaahcaoajaaW
open PrintWords PrintLast PrintMore PrintShort
attribute [local go_sem] max2_int min2_int max_two min_two max_three min_three max_four min_four   -- for this text's walks alone
set_option linter.unusedVariables false
set_option maxHeartbeats 8000000
set_option maxRecDepth 100000
set_option linter.unusedSimpArgs false

mutual
def impl_prog_stateRight.l0 : Nat → List (S129) → Int → Int → List (S100) → List (List Int) → List (S129) → List (List Int) → List Int → Int → Bool → Int → Int → Option (Bool)
 | 0, _, _, _, _, _, _, _, _, _, _, _, _ => none
 | k + 1, x29, x30, x31, x1000, x1001, x458000, x458001, x458002, x458003, x458004, x458005, x458006 => if x31 < x30 then (if 0 ≤ x31 then (if x31 < (x29.length : Int) then (if (wrap64 (x31 + 1)) < (x458000.length : Int) then (if 0 ≤ (wrap64 (x31 + 1)) then (impl_prog_stateRight.j1 k ((rd_T129 x458000 (wrap64 (x31 + 1))).f0) x29 x30 x31 x1000 x1001 x458000 x458001 x458002 x458003 x458004 x458005 x458006 ((rd_T129 x29 x31).f0) ((rd_T129 x29 x31).f1) ((rd_T129 x29 x31).f2) ((rd_T129 x29 x31).f3)) else (none)) else (impl_prog_stateRight.j1 k (-1) x29 x30 x31 x1000 x1001 x458000 x458001 x458002 x458003 x458004 x458005 x458006 ((rd_T129 x29 x31).f0) ((rd_T129 x29 x31).f1) ((rd_T129 x29 x31).f2) ((rd_T129 x29 x31).f3))) else (none)) else (none)) else (some true)
def impl_prog_stateRight.j1 : Nat → Int → List (S129) → Int → Int → List (S100) → List (List Int) → List (S129) → List (List Int) → List Int → Int → Bool → Int → Int → Int → Int → List Int → List Int → Option (Bool)
 | 0, _, _, _, _, _, _, _, _, _, _, _, _, _, _, _, _, _ => none
 | k + 1, x8, x29, x30, x31, x1000, x1001, x458000, x458001, x458002, x458003, x458004, x458005, x458006, x462000, x462001, x462002, x462003 => (impl_prog_frameRight.f x1000 x1001 x462000 x462001 x462002 x462003 x8).bind fun t463 => (if t463 = true then (impl_prog_stateRight.l0 k x29 x30 (wrap64 (x31 + 1)) x1000 x1001 x458000 x458001 x458002 x458003 x458004 x458005 x458006) else (some false))
end
def impl_prog_stateRight.f (k : Nat) (l0_0 : List (S100)) (l0_1 : List (List Int)) (l1_0 : List (S129)) (l1_1 : List (List Int)) (l1_2 : List Int) (a1_3 : Int) (a1_4 : Bool) (a1_5 : Int) (a1_6 : Int) : Option (Bool) := (impl_world_right.f k l1_1 l1_2 a1_3 a1_4 a1_5 a1_6 (l1_0.length : Int)).bind fun t459 => (if t459 = true then (impl_prog_stateRight.l0 k l1_0 (l1_0.length : Int) 0 l0_0 l0_1 l1_0 l1_1 l1_2 a1_3 a1_4 a1_5 a1_6) else (some false))
theorem impl_prog_stateRight.mono_l : ∀ k, (∀ y0 y1 y2 y3 y4 y5 y6 y7 y8 y9 y10 y11, LeO (impl_prog_stateRight.l0 k y0 y1 y2 y3 y4 y5 y6 y7 y8 y9 y10 y11) (impl_prog_stateRight.l0 (k + 1) y0 y1 y2 y3 y4 y5 y6 y7 y8 y9 y10 y11)) ∧ (∀ y0 y1 y2 y3 y4 y5 y6 y7 y8 y9 y10 y11 y12 y13 y14 y15 y16, LeO (impl_prog_stateRight.j1 k y0 y1 y2 y3 y4 y5 y6 y7 y8 y9 y10 y11 y12 y13 y14 y15 y16) (impl_prog_stateRight.j1 (k + 1) y0 y1 y2 y3 y4 y5 y6 y7 y8 y9 y10 y11 y12 y13 y14 y15 y16))
 | 0 => ⟨fun _ _ _ _ _ _ _ _ _ _ _ _ r h => by simp [impl_prog_stateRight.l0] at h, fun _ _ _ _ _ _ _ _ _ _ _ _ _ _ _ _ _ r h => by simp [impl_prog_stateRight.j1] at h⟩
 | k + 1 => by
  obtain ⟨ih0, ih1⟩ := impl_prog_stateRight.mono_l k
  refine ⟨?_, ?_⟩
  ·intro y0 y1 y2 y3 y4 y5 y6 y7 y8 y9 y10 y11
   unfold impl_prog_stateRight.l0
   with_reducible repeat' first | exact ih0 .. | exact ih1 .. | exact impl_world_right.mono .. | exact LeO.refl _ | exact LeO.none _ | refine LeO.ite ?_ ?_ | refine LeO.bind ?_ (fun _ => ?_)
  ·intro y0 y1 y2 y3 y4 y5 y6 y7 y8 y9 y10 y11 y12 y13 y14 y15 y16
   unfold impl_prog_stateRight.j1
   with_reducible repeat' first | exact ih0 .. | exact ih1 .. | exact impl_world_right.mono .. | exact LeO.refl _ | exact LeO.none _ | refine LeO.ite ?_ ?_ | refine LeO.bind ?_ (fun _ => ?_)
theorem impl_prog_stateRight.mono : ∀ a0 a1 a2 a3 a4 a5 a6 a7 a8 k, LeO (impl_prog_stateRight.f k a0 a1 a2 a3 a4 a5 a6 a7 a8) (impl_prog_stateRight.f (k + 1) a0 a1 a2 a3 a4 a5 a6 a7 a8) := by
 intro a0 a1 a2 a3 a4 a5 a6 a7 a8 k
 obtain ⟨ih0, ih1⟩ := impl_prog_stateRight.mono_l k
 unfold impl_prog_stateRight.f
 with_reducible repeat' first | exact ih0 .. | exact ih1 .. | exact impl_world_right.mono .. | exact LeO.refl _ | exact LeO.none _ | refine LeO.ite ?_ ?_ | refine LeO.bind ?_ (fun _ => ?_)
theorem impl_prog_stateRight.calls (k : Nat) (g0_ : Nat) (A0_0 : Option Addr) (c0_0 : Nat) (l0_0 : List (S100)) (A0_1 : Option Addr) (c0_1 : Nat) (l0_1 : List (List Int)) (A1_0 : Option Addr) (c1_0 : Nat) (l1_0 : List (S129)) (A1_1 : Option Addr) (c1_1 : Nat) (l1_1 : List (List Int)) (A1_2 : Option Addr) (c1_2 : Nat) (l1_2 : List Int) (a1_3 : Int) (a1_4 : Bool) (a1_5 : Int) (a1_6 : Int) (r : Bool) (w : World) (hp0 : w.heap[g0_]? = some (.cells #[.slice A0_0 l0_0.length c0_0, .slice A0_1 l0_1.length c0_1] 92 (0, 0))) (hr0_0 : Kd.C k100 w A0_0 l0_0.length l0_0) (hc0_0 : l0_0.length ≤ c0_0) (hr0_1 : Kd.C (Kd.slice 2 (Kd.int .i64)) w A0_1 l0_1.length l0_1) (hc0_1 : l0_1.length ≤ c0_1) (hr1_0 : Kd.C k129 w A1_0 l1_0.length l1_0) (hc1_0 : l1_0.length ≤ c1_0) (hr1_1 : Kd.C (Kd.slice 2 (Kd.int .i64)) w A1_1 l1_1.length l1_1) (hc1_1 : l1_1.length ≤ c1_1) (hr1_2 : Kd.C (Kd.int .i64) w A1_2 l1_2.length l1_2) (hc1_2 : l1_2.length ≤ c1_2) (h : impl_prog_stateRight.f k l0_0 l0_1 l1_0 l1_1 l1_2 a1_3 a1_4 a1_5 a1_6 = some r) :
  Calls Try.prog 115 #[.pointer (some ⟨g0_, 0, none⟩), .agg #[.slice A1_0 l1_0.length c1_0, .slice A1_1 l1_1.length c1_1, .slice A1_2 l1_2.length c1_2, .int .i64 a1_3, .bool a1_4, .int .i64 a1_5, .int .i64 a1_6]] w fun e w' => e = .returned (.bool r) ∧ Below w.heap.size w w' := by
 have hu52 := Try.underlying52
 have hu150 := Try.underlying150
 have hu129 := Try.underlying129
 have HP0_ := am hp0
 clear hp0
 have HR0_0 := am hr0_0
 have HC0_0 := am hc0_0
 clear hr0_0 hc0_0
 have HR0_1 := am hr0_1
 have HC0_1 := am hc0_1
 clear hr0_1 hc0_1
 have HR1_0 := am hr1_0
 have HC1_0 := am hc1_0
 clear hr1_0 hc1_0
 have HR1_1 := am hr1_1
 have HC1_1 := am hc1_1
 clear hr1_1 hc1_1
 have HR1_2 := am hr1_2
 have HC1_2 := am hc1_2
 clear hr1_2 hc1_2
 have HB := am (Below.refl w.heap.size w)
 have H : ((impl_world_right.f k l1_1 l1_2 a1_3 a1_4 a1_5 a1_6 (l1_0.length : Int)).bind fun t459 => (if t459 = true then (impl_prog_stateRight.l0 k l1_0 (l1_0.length : Int) 0 l0_0 l0_1 l1_0 l1_1 l1_2 a1_3 a1_4 a1_5 a1_6) else (some false))) = some r := h
 clear h
 refine be H ?_; clear H; intro t459 A3 H
 have HC4 := am H
 clear H
 go_enter Try.func115, Try.ntmps115
 go_upto_if 27 with (first | ((with_reducible refine gd 3 rfl ?_); refine bX 3 #[.slice A1_0 l1_0.length c1_0, .slice A1_1 l1_1.length c1_1, .slice A1_2 l1_2.length c1_2, .int .i64 a1_3, .bool a1_4, .int .i64 a1_5, .int .i64 a1_6] 52 HB ?_; clear HB; intro gb457 w5 hg hb BK457 GW457 HB; obtain ⟨NB0_457, NB457_0, HP0_⟩ := b3 hg HP0_ hb; clear hb hg; have hnb6 := NB457_0.out; have hnc6 := NB0_457.out; have hcz7_0 := bk w5 BK457 0; have hcz7_1 := bk w5 BK457 1; have hcz7_2 := bk w5 BK457 2; have hcz7_3 := bk w5 BK457 3; have hcz7_4 := bk w5 BK457 4; have hcz7_5 := bk w5 BK457 5; have hcz7_6 := bk w5 BK457 6; have hfz7_0 := bf BK457 0; have hfz7_1 := bf BK457 1; have hfz7_2 := bf BK457 2; have hfz7_3 := bf BK457 3; have hfz7_4 := bf BK457 4; have hfz7_5 := bf BK457 5; have hfz7_6 := bf BK457 6) | ((with_reducible refine gd 5 rfl ?_); refine bX 5 #[.slice none 0 0, .slice none 0 0, .int .i64 0, .bool false, .int .i64 0, .int .i64 0] 150 HB ?_; clear HB; intro gb458 w8 hg hb BK458 GW458 HB; obtain ⟨NB0_458, NB458_0, HP0_⟩ := b3 hg HP0_ hb; obtain ⟨NB457_458, NB458_457, BK457⟩ := b3 hg BK457 hb; clear hb hg; have hnb9 := NB458_0.out; have hnc9 := NB0_458.out; have hnb10 := NB458_457.out; have hnc10 := NB457_458.out; have hcz11_0 := bk w8 BK458 0; have hcz11_1 := bk w8 BK458 1; have hcz11_2 := bk w8 BK458 2; have hcz11_3 := bk w8 BK458 3; have hcz11_4 := bk w8 BK458 4; have hcz11_5 := bk w8 BK458 5; have hfz11_0 := bf BK458 0; have hfz11_1 := bf BK458 1; have hfz11_2 := bf BK458 2; have hfz11_3 := bf BK458 3; have hfz11_4 := bf BK458 4; have hfz11_5 := bf BK458 5; have hcz12_0 := bk w8 BK457 0; have hcz12_1 := bk w8 BK457 1; have hcz12_2 := bk w8 BK457 2; have hcz12_3 := bk w8 BK457 3; have hcz12_4 := bk w8 BK457 4; have hcz12_5 := bk w8 BK457 5; have hcz12_6 := bk w8 BK457 6; have hfz12_0 := bf BK457 0; have hfz12_1 := bf BK457 1; have hfz12_2 := bf BK457 2; have hfz12_3 := bf BK457 3; have hfz12_4 := bf BK457 4; have hfz12_5 := bf BK457 5; have hfz12_6 := bf BK457 6) | ((with_reducible refine gk 165 rfl ?_); refine gB 165 (some 26) Try.func165 #[.agg #[.slice A1_1 l1_1.length c1_1, .slice A1_2 l1_2.length c1_2, .int .i64 a1_3, .bool a1_4, .int .i64 a1_5, .int .i64 a1_6], .int .i64 (l1_0.length : Int)] (impl_world_right.calls k _ _ l1_1 _ _ l1_2 a1_3 a1_4 a1_5 a1_6 (l1_0.length : Int) t459 _ (Kd.C_below HR1_1.out (bw HB)) HC1_1.out (Kd.C_below HR1_2.out (bw HB)) HC1_2.out A3.out) ?_; intro w13 hb; replace HP0_ := bb2 HP0_ hb; replace BK457 := bb2 BK457 hb; replace BK458 := bo #[.slice A1_1 l1_1.length c1_1, .slice A1_2 l1_2.length c1_2, .int .i64 a1_3, .bool a1_4, .int .i64 a1_5, .int .i64 a1_6] BK458 hb; replace HB := bs HB hb; clear hb))
 (try simp only [Act.put, sa, sz, ss])
 have H := HC4.out
 clear HC4
 refine qT H ?_ ?_ <;> clear H <;> intro c14 H <;> subst c14
 ·have H' := am H
  clear H
  have hnb15 := NB457_0.out
  have hnc15 := NB0_457.out
  have hnb16 := NB457_458.out
  have hnc16 := NB458_457.out
  have hcz17_0 := bk w13 BK457 0
  have hcz17_1 := bk w13 BK457 1
  have hcz17_2 := bk w13 BK457 2
  have hcz17_3 := bk w13 BK457 3
  have hcz17_4 := bk w13 BK457 4
  have hcz17_5 := bk w13 BK457 5
  have hcz17_6 := bk w13 BK457 6
  have hfz17_0 := bf BK457 0
  have hfz17_1 := bf BK457 1
  have hfz17_2 := bf BK457 2
  have hfz17_3 := bf BK457 3
  have hfz17_4 := bf BK457 4
  have hfz17_5 := bf BK457 5
  have hfz17_6 := bf BK457 6
  go_wp2
  go_loopg [31] k (fun kq v31 w' => ∃ (x31_1 : Int), v31 = .int .i64 x31_1 ∧ Aside0 (impl_prog_stateRight.l0 kq l1_0 (l1_0.length : Int) x31_1 l0_0 l0_1 l1_0 l1_1 l1_2 a1_3 a1_4 a1_5 a1_6 = some r) ∧ Aside0 (kq ≤ k) ∧ Aside0 (w'.heap[g0_]? = some (.cells #[(.slice A0_0 l0_0.length c0_0), (.slice A0_1 l0_1.length c0_1)] 92 (0, 0))) ∧ Aside0 (w'.heap[gb457]? = some (.cells #[(.slice A1_0 l1_0.length c1_0), (.slice A1_1 l1_1.length c1_1), (.slice A1_2 l1_2.length c1_2), .int .i64 a1_3, .bool a1_4, .int .i64 a1_5, .int .i64 a1_6] 52 (0, 0))) ∧ Aside0 (w'.heap[gb458]? = some (.cells #[(.slice A1_1 l1_1.length c1_1), (.slice A1_2 l1_2.length c1_2), .int .i64 a1_3, .bool a1_4, .int .i64 a1_5, .int .i64 a1_6] 150 (0, 0))) ∧ Aside0 (Below w.heap.size w w'))
  case atStart => exact ⟨(0), dr, H', ⟨Nat.le_refl _⟩, ⟨bp HP0_⟩, ⟨bp BK457⟩, ⟨bp BK458⟩, ⟨bw HB⟩⟩
  clear H'
  (try clear c1); (try clear p2); (try clear c6); (try clear c9); (try clear c10); (try clear c11); (try clear c14); (try clear c15); (try clear c16); (try clear hcz11_0); (try clear hcz11_1); (try clear hcz11_2); (try clear hcz11_3); (try clear hcz11_4); (try clear hcz11_5); (try clear hcz12_0); (try clear hcz12_1); (try clear hcz12_2); (try clear hcz12_3); (try clear hcz12_4); (try clear hcz12_5); (try clear hcz12_6); (try clear hcz17_0); (try clear hcz17_1); (try clear hcz17_2); (try clear hcz17_3); (try clear hcz17_4); (try clear hcz17_5); (try clear hcz17_6); (try clear hcz7_0); (try clear hcz7_1); (try clear hcz7_2); (try clear hcz7_3); (try clear hcz7_4); (try clear hcz7_5); (try clear hcz7_6); (try clear hfz11_0); (try clear hfz11_1); (try clear hfz11_2); (try clear hfz11_3); (try clear hfz11_4); (try clear hfz11_5); (try clear hfz12_0); (try clear hfz12_1); (try clear hfz12_2); (try clear hfz12_3); (try clear hfz12_4); (try clear hfz12_5); (try clear hfz12_6); (try clear hfz17_0); (try clear hfz17_1); (try clear hfz17_2); (try clear hfz17_3); (try clear hfz17_4); (try clear hfz17_5); (try clear hfz17_6); (try clear hfz7_0); (try clear hfz7_1); (try clear hfz7_2); (try clear hfz7_3); (try clear hfz7_4); (try clear hfz7_5); (try clear hfz7_6)
  obtain ⟨x31_1, rfl, HA, HK1, HP0_, BK457, BK458, HB⟩ := hrel
  rcases gk with _ | k1
  ·exact absurd HA.out (by simp [impl_prog_stateRight.l0])
  have H := HA.out
  clear HA
  simp only [impl_prog_stateRight.l0] at H
  by_cases c18 : x31_1 < (l1_0.length : Int)
  ·rw [if_pos c18] at H
   have c18b0 := decide_eq_true c18
   clear c18
   (first | rw [c18b0] | (simp only [i64_w, i32_w]; rw [c18b0]) | skip)
   refine iN H ?_; clear H; intro c19 H
   have c19b0 := decide_eq_true c19
   clear c19
   refine iN H ?_; clear H; intro c20 H
   have c20b0 := decide_eq_true c20
   clear c20
   have HC21 := am H
   clear H
   have p460 : 0 ≤ (x31_1 : Int) := of_decide_eq_true as1
   have q460 : x31_1 < (l1_0.length : Int) := of_decide_eq_true as1
   obtain ⟨ad460, A460_2, c460_2, A460_3, c460_3, e460, hx460_0, hx460_1, hx460_2, hx460_3, hl460_2, hi460_2, hl460_3, hi460_3⟩ := at_T129 HR1_0.out x31_1 p460 q460
   cases e460
   replace hx460_0 := cl HB hx460_0
   replace hx460_1 := cl HB hx460_1
   replace hx460_2 := cl HB hx460_2
   replace hx460_3 := cl HB hx460_3
   have HR460_2 := am hi460_2
   have HC460_2 := am hl460_2
   clear hi460_2 hl460_2
   have HR460_3 := am hi460_3
   have HC460_3 := am hl460_3
   clear hi460_3 hl460_3
   replace p460 := eq_true p460
   replace q460 := eq_true q460
   go_upto_if 41 with (first | ((with_reducible refine gd 7 rfl ?_); refine bX 7 #[.int .i64 0, .int .i64 0, .slice none 0 0, .slice none 0 0] 129 HB ?_; clear HB; intro gb461 w22 hg hb BK461 GW461 HB; obtain ⟨NB0_461, NB461_0, HP0_⟩ := b3 hg HP0_ hb; obtain ⟨NB457_461, NB461_457, BK457⟩ := b3 hg BK457 hb; obtain ⟨NB458_461, NB461_458, BK458⟩ := b3 hg BK458 hb; clear hb hg; have hnb23 := NB461_0.out; have hnc23 := NB0_461.out; have hnb24 := NB461_457.out; have hnc24 := NB457_461.out; have hnb25 := NB461_458.out; have hnc25 := NB458_461.out; have hcz26 := bK w22 BK461; have hfz26 := bF BK461; have hnb27 := NB457_0.out; have hnc27 := NB0_457.out; have hnb28 := NB457_458.out; have hnc28 := NB458_457.out; have hcz29_0 := bk w22 BK457 0; have hcz29_1 := bk w22 BK457 1; have hcz29_2 := bk w22 BK457 2; have hcz29_3 := bk w22 BK457 3; have hcz29_4 := bk w22 BK457 4; have hcz29_5 := bk w22 BK457 5; have hcz29_6 := bk w22 BK457 6; have hfz29_0 := bf BK457 0; have hfz29_1 := bf BK457 1; have hfz29_2 := bf BK457 2; have hfz29_3 := bf BK457 3; have hfz29_4 := bf BK457 4; have hfz29_5 := bf BK457 5; have hfz29_6 := bf BK457 6))
   (try simp only [Act.put, sa, sz, ss])
   go_cut [8] (fun v8 wc => ∃ (kq : Nat) (x8_20 : Int), v8 = .int .i64 x8_20 ∧ Aside0 (impl_prog_stateRight.j1 kq x8_20 l1_0 (l1_0.length : Int) x31_1 l0_0 l0_1 l1_0 l1_1 l1_2 a1_3 a1_4 a1_5 a1_6 ((rd_T129 l1_0 x31_1).f0) ((rd_T129 l1_0 x31_1).f1) ((rd_T129 l1_0 x31_1).f2) ((rd_T129 l1_0 x31_1).f3) = some r) ∧ Aside0 (kq ≤ k1) ∧ Aside0 (wc.heap[g0_]? = some (.cells #[(.slice A0_0 l0_0.length c0_0), (.slice A0_1 l0_1.length c0_1)] 92 (0, 0))) ∧ Aside0 (wc.heap[gb457]? = some (.cells #[(.slice (some ad460) l1_0.length c1_0), (.slice A1_1 l1_1.length c1_1), (.slice A1_2 l1_2.length c1_2), .int .i64 a1_3, .bool a1_4, .int .i64 a1_5, .int .i64 a1_6] 52 (0, 0))) ∧ Aside0 (wc.heap[gb458]? = some (.cells #[(.slice A1_1 l1_1.length c1_1), (.slice A1_2 l1_2.length c1_2), .int .i64 a1_3, .bool a1_4, .int .i64 a1_5, .int .i64 a1_6] 150 (0, 0))) ∧ Aside0 (wc.heap[gb461]? = some (.cells #[.int .i64 ((rd_T129 l1_0 x31_1).f0), .int .i64 ((rd_T129 l1_0 x31_1).f1), (.slice A460_2 ((rd_T129 l1_0 x31_1).f2).length c460_2), (.slice A460_3 ((rd_T129 l1_0 x31_1).f3).length c460_3)] 129 (0, 0))) ∧ Aside0 (Below w.heap.size w wc))
   case first =>
    have H := HC21.out
    clear HC21
    refine qI H ?_ ?_ <;> clear H <;> intro c30b0 H
    ·(first | rw [c30b0] | (simp only [i64_w, i32_w]; rw [c30b0]) | skip)
     obtain ⟨ji31, hji31⟩ : ∃ j_ : Int, (wrap64 (x31_1 + 1)) = j_ := ⟨_, rfl⟩
     replace H : (if 0 ≤ (ji31) then (impl_prog_stateRight.j1 k1 ((rd_T129 l1_0 (ji31)).f0) l1_0 (l1_0.length : Int) x31_1 l0_0 l0_1 l1_0 l1_1 l1_2 a1_3 a1_4 a1_5 a1_6 ((rd_T129 l1_0 x31_1).f0) ((rd_T129 l1_0 x31_1).f1) ((rd_T129 l1_0 x31_1).f2) ((rd_T129 l1_0 x31_1).f3)) else (none)) = some r := by first | (rw [hji31] at H; exact H) | (simp only [hji31] at H ⊢; exact H)
     (try rw [hji31] at c30b0)
     have hji31w : (IntKind.i64.wrap (x31_1 + 1)) = ji31 := (i64_w _).trans hji31
     refine iM H ?_; clear H; intro c32b0 H
     have H' := am H
     clear H
     have hnb33 := NB457_0.out
     have hnc33 := NB0_457.out
     have hnb34 := NB457_458.out
     have hnc34 := NB458_457.out
     have hnb35 := NB457_461.out
     have hnc35 := NB461_457.out
     have hcz36_0 := bk w22 BK457 0
     have hcz36_1 := bk w22 BK457 1
     have hcz36_2 := bk w22 BK457 2
     have hcz36_3 := bk w22 BK457 3
     have hcz36_4 := bk w22 BK457 4
     have hcz36_5 := bk w22 BK457 5
     have hcz36_6 := bk w22 BK457 6
     have hfz36_0 := bf BK457 0
     have hfz36_1 := bf BK457 1
     have hfz36_2 := bf BK457 2
     have hfz36_3 := bf BK457 3
     have hfz36_4 := bf BK457 4
     have hfz36_5 := bf BK457 5
     have hfz36_6 := bf BK457 6
     have p462 : 0 ≤ ((ji31) : Int) := of_decide_eq_true as1
     have q462 : (ji31) < (l1_0.length : Int) := of_decide_eq_true as1
     obtain ⟨ad462, A462_2, c462_2, A462_3, c462_3, e462, hx462_0, hx462_1, hx462_2, hx462_3, hl462_2, hi462_2, hl462_3, hi462_3⟩ := at_T129 HR1_0.out (ji31) p462 q462
     obtain rfl : ad460 = ad462 := (by injection e462)
     have hn462_0 : ad460.block ≠ gb461 := Nat.ne_of_lt (Nat.lt_of_lt_of_le (by have := World.block_lt_of_cell? _ _ hx462_0; first | rwa [add_block] at this | exact this) GW461.out)
     have hn462_1 : ad460.block ≠ gb461 := Nat.ne_of_lt (Nat.lt_of_lt_of_le (by have := World.block_lt_of_cell? _ _ hx462_0; first | rwa [add_block] at this | exact this) GW461.out)
     have hn462_2 : ad460.block ≠ gb461 := Nat.ne_of_lt (Nat.lt_of_lt_of_le (by have := World.block_lt_of_cell? _ _ hx462_0; first | rwa [add_block] at this | exact this) GW461.out)
     have hn462_3 : ad460.block ≠ gb461 := Nat.ne_of_lt (Nat.lt_of_lt_of_le (by have := World.block_lt_of_cell? _ _ hx462_0; first | rwa [add_block] at this | exact this) GW461.out)
     replace hx462_0 := cl HB hx462_0
     replace hx462_1 := cl HB hx462_1
     replace hx462_2 := cl HB hx462_2
     replace hx462_3 := cl HB hx462_3
     have HR462_2 := am hi462_2
     have HC462_2 := am hl462_2
     clear hi462_2 hl462_2
     have HR462_3 := am hi462_3
     have HC462_3 := am hl462_3
     clear hi462_3 hl462_3
     replace hx462_0 := (cell_far (p := ⟨gb461, 0, none⟩) (by first | (rw [add_block]; exact hn462_0) | (show (Addr.add _ _).block ≠ _; rw [add_block]; exact hn462_0) | exact hn462_0) (.int .i64 ((rd_T129 l1_0 x31_1).f0))).trans hx462_0
     replace hx462_1 := (cell_far (p := ⟨gb461, 0, none⟩) (by first | (rw [add_block]; exact hn462_0) | (show (Addr.add _ _).block ≠ _; rw [add_block]; exact hn462_0) | exact hn462_0) (.int .i64 ((rd_T129 l1_0 x31_1).f0))).trans hx462_1
     replace hx462_2 := (cell_far (p := ⟨gb461, 0, none⟩) (by first | (rw [add_block]; exact hn462_0) | (show (Addr.add _ _).block ≠ _; rw [add_block]; exact hn462_0) | exact hn462_0) (.int .i64 ((rd_T129 l1_0 x31_1).f0))).trans hx462_2
     replace hx462_3 := (cell_far (p := ⟨gb461, 0, none⟩) (by first | (rw [add_block]; exact hn462_0) | (show (Addr.add _ _).block ≠ _; rw [add_block]; exact hn462_0) | exact hn462_0) (.int .i64 ((rd_T129 l1_0 x31_1).f0))).trans hx462_3
     replace hx462_0 := (cell_far (p := ⟨gb461, 1, none⟩) (by first | (rw [add_block]; exact hn462_1) | (show (Addr.add _ _).block ≠ _; rw [add_block]; exact hn462_1) | exact hn462_1) (.int .i64 ((rd_T129 l1_0 x31_1).f1))).trans hx462_0
     replace hx462_1 := (cell_far (p := ⟨gb461, 1, none⟩) (by first | (rw [add_block]; exact hn462_1) | (show (Addr.add _ _).block ≠ _; rw [add_block]; exact hn462_1) | exact hn462_1) (.int .i64 ((rd_T129 l1_0 x31_1).f1))).trans hx462_1
     replace hx462_2 := (cell_far (p := ⟨gb461, 1, none⟩) (by first | (rw [add_block]; exact hn462_1) | (show (Addr.add _ _).block ≠ _; rw [add_block]; exact hn462_1) | exact hn462_1) (.int .i64 ((rd_T129 l1_0 x31_1).f1))).trans hx462_2
     replace hx462_3 := (cell_far (p := ⟨gb461, 1, none⟩) (by first | (rw [add_block]; exact hn462_1) | (show (Addr.add _ _).block ≠ _; rw [add_block]; exact hn462_1) | exact hn462_1) (.int .i64 ((rd_T129 l1_0 x31_1).f1))).trans hx462_3
     replace hx462_0 := (cell_far (p := ⟨gb461, 2, none⟩) (by first | (rw [add_block]; exact hn462_2) | (show (Addr.add _ _).block ≠ _; rw [add_block]; exact hn462_2) | exact hn462_2) (.slice A460_2 ((rd_T129 l1_0 x31_1).f2).length c460_2)).trans hx462_0
     replace hx462_1 := (cell_far (p := ⟨gb461, 2, none⟩) (by first | (rw [add_block]; exact hn462_2) | (show (Addr.add _ _).block ≠ _; rw [add_block]; exact hn462_2) | exact hn462_2) (.slice A460_2 ((rd_T129 l1_0 x31_1).f2).length c460_2)).trans hx462_1
     replace hx462_2 := (cell_far (p := ⟨gb461, 2, none⟩) (by first | (rw [add_block]; exact hn462_2) | (show (Addr.add _ _).block ≠ _; rw [add_block]; exact hn462_2) | exact hn462_2) (.slice A460_2 ((rd_T129 l1_0 x31_1).f2).length c460_2)).trans hx462_2
     replace hx462_3 := (cell_far (p := ⟨gb461, 2, none⟩) (by first | (rw [add_block]; exact hn462_2) | (show (Addr.add _ _).block ≠ _; rw [add_block]; exact hn462_2) | exact hn462_2) (.slice A460_2 ((rd_T129 l1_0 x31_1).f2).length c460_2)).trans hx462_3
     replace hx462_0 := (cell_far (p := ⟨gb461, 3, none⟩) (by first | (rw [add_block]; exact hn462_3) | (show (Addr.add _ _).block ≠ _; rw [add_block]; exact hn462_3) | exact hn462_3) (.slice A460_3 ((rd_T129 l1_0 x31_1).f3).length c460_3)).trans hx462_0
     replace hx462_1 := (cell_far (p := ⟨gb461, 3, none⟩) (by first | (rw [add_block]; exact hn462_3) | (show (Addr.add _ _).block ≠ _; rw [add_block]; exact hn462_3) | exact hn462_3) (.slice A460_3 ((rd_T129 l1_0 x31_1).f3).length c460_3)).trans hx462_1
     replace hx462_2 := (cell_far (p := ⟨gb461, 3, none⟩) (by first | (rw [add_block]; exact hn462_3) | (show (Addr.add _ _).block ≠ _; rw [add_block]; exact hn462_3) | exact hn462_3) (.slice A460_3 ((rd_T129 l1_0 x31_1).f3).length c460_3)).trans hx462_2
     replace hx462_3 := (cell_far (p := ⟨gb461, 3, none⟩) (by first | (rw [add_block]; exact hn462_3) | (show (Addr.add _ _).block ≠ _; rw [add_block]; exact hn462_3) | exact hn462_3) (.slice A460_3 ((rd_T129 l1_0 x31_1).f3).length c460_3)).trans hx462_3
     clear hn462_0
     clear hn462_1
     clear hn462_2
     clear hn462_3
     replace p462 := eq_true p462
     replace q462 := eq_true q462
     go_wp2
     go_meet
     case rel => exact ⟨_, ((rd_T129 l1_0 (ji31)).f0), (by first | rfl | (simp; done) | (simp only [← hji31] <;> (first | rfl | simp)) | (simp [*]; done)), H', ⟨lk1 HK1⟩, ⟨by (with_reducible repeat (first | apply dN | apply dW | apply dA)); refine blk_far ?_ NB0_461.out _; (with_reducible repeat (first | apply dN | apply dW | apply dA)); refine blk_far ?_ NB0_461.out _; (with_reducible repeat (first | apply dN | apply dW | apply dA)); refine blk_far ?_ NB0_461.out _; (with_reducible repeat (first | apply dN | apply dW | apply dA)); refine blk_far ?_ NB0_461.out _; exact bp HP0_⟩, ⟨by (with_reducible repeat (first | apply dN | apply dW | apply dA)); refine blk_far ?_ NB457_461.out _; (with_reducible repeat (first | apply dN | apply dW | apply dA)); refine blk_far ?_ NB457_461.out _; (with_reducible repeat (first | apply dN | apply dW | apply dA)); refine blk_far ?_ NB457_461.out _; (with_reducible repeat (first | apply dN | apply dW | apply dA)); refine blk_far ?_ NB457_461.out _; exact bp BK457⟩, ⟨by (with_reducible repeat (first | apply dN | apply dW | apply dA)); refine blk_far ?_ NB458_461.out _; (with_reducible repeat (first | apply dN | apply dW | apply dA)); refine blk_far ?_ NB458_461.out _; (with_reducible repeat (first | apply dN | apply dW | apply dA)); refine blk_far ?_ NB458_461.out _; (with_reducible repeat (first | apply dN | apply dW | apply dA)); refine blk_far ?_ NB458_461.out _; exact bp BK458⟩, ⟨by (with_reducible repeat (first | apply dN | apply dW | apply dA)); refine blk_put (cs := #[.int .i64 ((rd_T129 l1_0 x31_1).f0), .int .i64 ((rd_T129 l1_0 x31_1).f1), .slice A460_2 ((rd_T129 l1_0 x31_1).f2).length c460_2, .slice none 0 0]) ?_ 3 _ rfl; (with_reducible repeat (first | apply dN | apply dW | apply dA)); refine blk_put (cs := #[.int .i64 ((rd_T129 l1_0 x31_1).f0), .int .i64 ((rd_T129 l1_0 x31_1).f1), .slice none 0 0, .slice none 0 0]) ?_ 2 _ rfl; (with_reducible repeat (first | apply dN | apply dW | apply dA)); refine blk_put (cs := #[.int .i64 ((rd_T129 l1_0 x31_1).f0), .int .i64 0, .slice none 0 0, .slice none 0 0]) ?_ 1 _ rfl; (with_reducible repeat (first | apply dN | apply dW | apply dA)); refine blk_put (cs := #[.int .i64 0, .int .i64 0, .slice none 0 0, .slice none 0 0]) ?_ 0 _ rfl; exact bp BK461⟩, ⟨bw HB⟩⟩
    (first | rw [c30b0] | (simp only [i64_w, i32_w]; rw [c30b0]) | skip)
    have H' := am H
    clear H
    go_wp2
    go_meet
    case rel => exact ⟨_, ((-1)), dr, H', ⟨lk1 HK1⟩, ⟨by (with_reducible repeat (first | apply dN | apply dW | apply dA)); refine blk_far ?_ NB0_461.out _; (with_reducible repeat (first | apply dN | apply dW | apply dA)); refine blk_far ?_ NB0_461.out _; (with_reducible repeat (first | apply dN | apply dW | apply dA)); refine blk_far ?_ NB0_461.out _; (with_reducible repeat (first | apply dN | apply dW | apply dA)); refine blk_far ?_ NB0_461.out _; exact bp HP0_⟩, ⟨by (with_reducible repeat (first | apply dN | apply dW | apply dA)); refine blk_far ?_ NB457_461.out _; (with_reducible repeat (first | apply dN | apply dW | apply dA)); refine blk_far ?_ NB457_461.out _; (with_reducible repeat (first | apply dN | apply dW | apply dA)); refine blk_far ?_ NB457_461.out _; (with_reducible repeat (first | apply dN | apply dW | apply dA)); refine blk_far ?_ NB457_461.out _; exact bp BK457⟩, ⟨by (with_reducible repeat (first | apply dN | apply dW | apply dA)); refine blk_far ?_ NB458_461.out _; (with_reducible repeat (first | apply dN | apply dW | apply dA)); refine blk_far ?_ NB458_461.out _; (with_reducible repeat (first | apply dN | apply dW | apply dA)); refine blk_far ?_ NB458_461.out _; (with_reducible repeat (first | apply dN | apply dW | apply dA)); refine blk_far ?_ NB458_461.out _; exact bp BK458⟩, ⟨by (with_reducible repeat (first | apply dN | apply dW | apply dA)); refine blk_put (cs := #[.int .i64 ((rd_T129 l1_0 x31_1).f0), .int .i64 ((rd_T129 l1_0 x31_1).f1), .slice A460_2 ((rd_T129 l1_0 x31_1).f2).length c460_2, .slice none 0 0]) ?_ 3 _ rfl; (with_reducible repeat (first | apply dN | apply dW | apply dA)); refine blk_put (cs := #[.int .i64 ((rd_T129 l1_0 x31_1).f0), .int .i64 ((rd_T129 l1_0 x31_1).f1), .slice none 0 0, .slice none 0 0]) ?_ 2 _ rfl; (with_reducible repeat (first | apply dN | apply dW | apply dA)); refine blk_put (cs := #[.int .i64 ((rd_T129 l1_0 x31_1).f0), .int .i64 0, .slice none 0 0, .slice none 0 0]) ?_ 1 _ rfl; (with_reducible repeat (first | apply dN | apply dW | apply dA)); refine blk_put (cs := #[.int .i64 0, .int .i64 0, .slice none 0 0, .slice none 0 0]) ?_ 0 _ rfl; exact bp BK461⟩, ⟨bw HB⟩⟩
   clear HC21
   (try clear c2); (try clear c3); (try clear c4); (try clear p4); (try clear q4); (try clear hx4); (try clear p6); (try clear c18); (try clear c18b0); (try clear c19); (try clear c19b0); (try clear c20); (try clear c20b0); (try clear c23); (try clear c24); (try clear c25); (try clear c27); (try clear c28); (try clear c30); (try clear c30b0); (try clear c32); (try clear c32b0); (try clear c33); (try clear c34); (try clear c35); (try clear hcz26); (try clear hcz29_0); (try clear hcz29_1); (try clear hcz29_2); (try clear hcz29_3); (try clear hcz29_4); (try clear hcz29_5); (try clear hcz29_6); (try clear hcz36_0); (try clear hcz36_1); (try clear hcz36_2); (try clear hcz36_3); (try clear hcz36_4); (try clear hcz36_5); (try clear hcz36_6); (try clear hfz26); (try clear hfz29_0); (try clear hfz29_1); (try clear hfz29_2); (try clear hfz29_3); (try clear hfz29_4); (try clear hfz29_5); (try clear hfz29_6); (try clear hfz36_0); (try clear hfz36_1); (try clear hfz36_2); (try clear hfz36_3); (try clear hfz36_4); (try clear hfz36_5); (try clear hfz36_6); (try clear hx460_0); (try clear hx460_1); (try clear hx460_2); (try clear hx460_3); (try clear hx462_0); (try clear hx462_1); (try clear hx462_2); (try clear hx462_3); (try clear p460); (try clear p462); (try clear q460); (try clear q462)
   obtain ⟨kq, x8_20, rfl, HA, HJ20, HP0_, BK457, BK458, BK461, HB⟩ := hcut
   rcases kq with _ | kj20
   ·exact absurd HA.out (by simp [impl_prog_stateRight.j1])
   have H := HA.out
   clear HA
   simp only [impl_prog_stateRight.j1] at H
   refine be H ?_; clear H; intro t463 A37 H
   have HC38 := am H
   clear H
   have hnb39 := NB461_0.out
   have hnc39 := NB0_461.out
   have hnb40 := NB461_457.out
   have hnc40 := NB457_461.out
   have hnb41 := NB461_458.out
   have hnc41 := NB458_461.out
   have hcz42 := bK wc BK461
   have hfz42 := bF BK461
   go_upto_if 53 with (first | ((with_reducible refine gk 166 rfl ?_); refine gB 166 (some 52) Try.func166 #[.pointer (some ⟨g0_, 0, none⟩), .agg #[.int .i64 ((rd_T129 l1_0 x31_1).f0), .int .i64 ((rd_T129 l1_0 x31_1).f1), .slice A460_2 ((rd_T129 l1_0 x31_1).f2).length c460_2, .slice A460_3 ((rd_T129 l1_0 x31_1).f3).length c460_3], .int .i64 x8_20] (impl_prog_frameRight.calls g0_ A0_0 c0_0 l0_0 A0_1 c0_1 l0_1 ((rd_T129 l1_0 x31_1).f0) ((rd_T129 l1_0 x31_1).f1) _ _ ((rd_T129 l1_0 x31_1).f2) _ _ ((rd_T129 l1_0 x31_1).f3) x8_20 t463 _ (bp HP0_) (cc (Kd.C_below HR0_0.out HB.out)) HC0_0.out (cc (Kd.C_below HR0_1.out HB.out)) HC0_1.out (cc (Kd.C_below HR460_2.out HB.out)) HC460_2.out (cc (Kd.C_below HR460_3.out HB.out)) HC460_3.out A37.out) ?_; intro w43 hb; replace HP0_ := bb HP0_ hb; replace BK457 := bb BK457 hb; replace BK458 := bb BK458 hb; replace BK461 := bb BK461 hb; replace HB := bs HB hb; clear hb))
   (try simp only [Act.put, sa, sz, ss])
   have H := HC38.out
   clear HC38
   refine qT H ?_ ?_ <;> clear H <;> intro c44 H <;> subst c44
   ·have H' := am H
    clear H
    go_wp2
    go_roundg kj20
    case measure => have := HK1.out; have := HJ20.out; omega
    case rel => exact ⟨(wrap64 (x31_1 + 1)), dr, H', ⟨by have := HK1.out; have := HJ20.out; omega⟩, ⟨bp HP0_⟩, ⟨bp BK457⟩, ⟨bp BK458⟩, ⟨bw HB⟩⟩
   obtain rfl := Option.some.inj H
   go_wp2
   go_ret
   exact ⟨er, bw HB⟩
  rw [if_neg c18] at H
  have c18b0 := decide_eq_false c18
  clear c18
  (first | rw [c18b0] | (simp only [i64_w, i32_w]; rw [c18b0]) | skip)
  obtain rfl := Option.some.inj H
  go_wp2
  go_ret
  exact ⟨er, bw HB⟩
 obtain rfl := Option.some.inj H
 go_wp2
 go_ret
 exact ⟨er, bw HB⟩

def impl_StateRight.f (k : Nat) (l0_0 : List (S100)) (l1_0 : List (S129)) (l1_1 : List (List Int)) (l1_2 : List Int) (a1_3 : Int) (a1_4 : Bool) (a1_5 : Int) (a1_6 : Int) : Option (Bool) := (impl_known.f k l0_0).bind fun bt466 => (if bt466.2.2 = true then ((impl_prog_stateRight.f k bt466.1 bt466.2.1 l1_0 l1_1 l1_2 a1_3 a1_4 a1_5 a1_6).bind fun t474 => (some t474)) else (some false))
theorem impl_StateRight.mono : ∀ a0 a1 a2 a3 a4 a5 a6 a7 k, LeO (impl_StateRight.f k a0 a1 a2 a3 a4 a5 a6 a7) (impl_StateRight.f (k + 1) a0 a1 a2 a3 a4 a5 a6 a7) := by
 intro a0 a1 a2 a3 a4 a5 a6 a7 k
 unfold impl_StateRight.f
 with_reducible repeat' first | exact impl_known.mono .. | exact impl_prog_stateRight.mono .. | exact LeO.refl _ | exact LeO.none _ | refine LeO.ite ?_ ?_ | refine LeO.bind ?_ (fun _ => ?_)
theorem impl_StateRight.calls (k : Nat) (A0_0 : Option Addr) (c0_0 : Nat) (l0_0 : List (S100)) (A1_0 : Option Addr) (c1_0 : Nat) (l1_0 : List (S129)) (A1_1 : Option Addr) (c1_1 : Nat) (l1_1 : List (List Int)) (A1_2 : Option Addr) (c1_2 : Nat) (l1_2 : List Int) (a1_3 : Int) (a1_4 : Bool) (a1_5 : Int) (a1_6 : Int) (r : Bool) (w : World) (hr0_0 : Kd.C k100 w A0_0 l0_0.length l0_0) (hc0_0 : l0_0.length ≤ c0_0) (hr1_0 : Kd.C k129 w A1_0 l1_0.length l1_0) (hc1_0 : l1_0.length ≤ c1_0) (hr1_1 : Kd.C (Kd.slice 2 (Kd.int .i64)) w A1_1 l1_1.length l1_1) (hc1_1 : l1_1.length ≤ c1_1) (hr1_2 : Kd.C (Kd.int .i64) w A1_2 l1_2.length l1_2) (hc1_2 : l1_2.length ≤ c1_2) (h : impl_StateRight.f k l0_0 l1_0 l1_1 l1_2 a1_3 a1_4 a1_5 a1_6 = some r) :
  Calls Try.prog 55 #[.agg #[.slice A0_0 l0_0.length c0_0], .agg #[.slice A1_0 l1_0.length c1_0, .slice A1_1 l1_1.length c1_1, .slice A1_2 l1_2.length c1_2, .int .i64 a1_3, .bool a1_4, .int .i64 a1_5, .int .i64 a1_6]] w fun e w' => e = .returned (.bool r) ∧ Below w.heap.size w w' := by
 have hu30 := Try.underlying30
 have hu52 := Try.underlying52
 have HR0_0 := am hr0_0
 have HC0_0 := am hc0_0
 clear hr0_0 hc0_0
 have HR1_0 := am hr1_0
 have HC1_0 := am hc1_0
 clear hr1_0 hc1_0
 have HR1_1 := am hr1_1
 have HC1_1 := am hc1_1
 clear hr1_1 hc1_1
 have HR1_2 := am hr1_2
 have HC1_2 := am hc1_2
 clear hr1_2 hc1_2
 have HB := am (Below.refl w.heap.size w)
 have H : ((impl_known.f k l0_0).bind fun bt466 => (if bt466.2.2 = true then ((impl_prog_stateRight.f k bt466.1 bt466.2.1 l1_0 l1_1 l1_2 a1_3 a1_4 a1_5 a1_6).bind fun t474 => (some t474)) else (some false))) = some r := h
 clear h
 replace H := Option.bind_eq_some_iff.mp H
 obtain ⟨⟨t466, t469, t473⟩, A30, H⟩ := H
 replace H : (if t473 = true then ((impl_prog_stateRight.f k t466 t469 l1_0 l1_1 l1_2 a1_3 a1_4 a1_5 a1_6).bind fun t474 => (some t474)) else (some false)) = some r := H
 have A3 := am A30
 clear A30
 refine qT H ?_ ?_ <;> clear H <;> intro c4 H <;> subst c4
 ·refine be H ?_; clear H; intro t474 A5 H
  obtain rfl := Option.some.inj H
  go_enter Try.func55, Try.ntmps55
  go_wp2_with (first | ((with_reducible refine gd 2 rfl ?_); refine bX 2 #[.slice A0_0 l0_0.length c0_0] 30 HB ?_; clear HB; intro gb464 w6 hg hb BK464 GW464 HB; clear hb hg) | ((with_reducible refine gd 3 rfl ?_); refine bX 3 #[.slice A1_0 l1_0.length c1_0, .slice A1_1 l1_1.length c1_1, .slice A1_2 l1_2.length c1_2, .int .i64 a1_3, .bool a1_4, .int .i64 a1_5, .int .i64 a1_6] 52 HB ?_; clear HB; intro gb465 w7 hg hb BK465 GW465 HB; obtain ⟨NB464_465, NB465_464, BK464⟩ := b3 hg BK464 hb; clear hb hg; have hnb8 := NB464_465.out; have hnc8 := NB465_464.out; have hcz9 := bK w7 BK464; have hfz9 := bF BK464) | ((with_reducible refine gk 66 rfl ?_); refine gC 66 (some 9) Try.func66 #[.agg #[.slice A0_0 l0_0.length c0_0]] ((impl_known.calls k (fun k_ => k_ < w.heap.size) _ _ l0_0 t466 t469 true _ (Kd.V_mk HC0_0.out (Kd.F_below (Kd.C_F k100_heap HR0_0.out) (bw HB))) A3.out).mono ?_); rintro e w10 ⟨v467, v470, gb472, rfl, ho0, ho1, hbx, hgx, hb⟩; refine ⟨_, rfl, ?_⟩; have HO468 := am (Kd.V_lower (Kd.V_mono (ok' := fun k_ => some k_ ≠ (v470 : Value).ownBlock ∧ k_ ≠ gb464 ∧ k_ ≠ gb465) ho0 (fun k_ hk_ => ⟨hk_.2, Or.elim hk_.1 (fun hs_ => fun e_ => Nat.not_le.2 hs_ (by rw [e_]; exact GW464.out)) (fun hn_ => (Kd.freshB (g := gb464) (o := .cells #[.slice A0_0 l0_0.length c0_0] 30 (0, 0)) (bp BK464) k_ hn_)), Or.elim hk_.1 (fun hs_ => fun e_ => Nat.not_le.2 hs_ (by rw [e_]; exact GW465.out)) (fun hn_ => (Kd.freshB (g := gb465) (o := .cells #[.slice A1_0 l1_0.length c1_0, .slice A1_1 l1_1.length c1_1, .slice A1_2 l1_2.length c1_2, .int .i64 a1_3, .bool a1_4, .int .i64 a1_5, .int .i64 a1_6] 52 (0, 0)) (bp BK465) k_ hn_))⟩)) (below_size (bw HB))); have HO471 := am (Kd.S_lower (Kd.S_mono (ok' := fun k_ => True) ho1 (fun _ hk_ => trivial)) (below_size (bw HB))); have BK472 := am (hbx); have GW472 := am ((Nat.le_trans (below_size (bw HB)) hgx)); have GE472 := am ((Nat.le_trans (below_size (bw HB)) hgx)); have NB464_472 := am ((Nat.ne_of_lt (Nat.lt_of_lt_of_le (blk_lt (g := gb464) (o := .cells #[.slice A0_0 l0_0.length c0_0] 30 (0, 0)) (bp BK464)) hgx) : gb464 ≠ gb472)); have NB472_464 := am ((Nat.ne_of_gt (Nat.lt_of_lt_of_le (blk_lt (g := gb464) (o := .cells #[.slice A0_0 l0_0.length c0_0] 30 (0, 0)) (bp BK464)) hgx) : gb472 ≠ gb464)); replace BK464 := bb BK464 hb; have NB465_472 := am ((Nat.ne_of_lt (Nat.lt_of_lt_of_le (blk_lt (g := gb465) (o := .cells #[.slice A1_0 l1_0.length c1_0, .slice A1_1 l1_1.length c1_1, .slice A1_2 l1_2.length c1_2, .int .i64 a1_3, .bool a1_4, .int .i64 a1_5, .int .i64 a1_6] 52 (0, 0)) (bp BK465)) hgx) : gb465 ≠ gb472)); have NB472_465 := am ((Nat.ne_of_gt (Nat.lt_of_lt_of_le (blk_lt (g := gb465) (o := .cells #[.slice A1_0 l1_0.length c1_0, .slice A1_1 l1_1.length c1_1, .slice A1_2 l1_2.length c1_2, .int .i64 a1_3, .bool a1_4, .int .i64 a1_5, .int .i64 a1_6] 52 (0, 0)) (bp BK465)) hgx) : gb472 ≠ gb465)); replace BK465 := bb BK465 hb; replace HB := bs HB hb; clear hb; (try clear ho0); (try clear ho1); (try clear hbx); (try clear hgx); have hnb11 := NB465_472.out; have hnc11 := NB472_465.out; have hcz12_0 := bk w10 BK465 0; have hcz12_1 := bk w10 BK465 1; have hcz12_2 := bk w10 BK465 2; have hcz12_3 := bk w10 BK465 3; have hcz12_4 := bk w10 BK465 4; have hcz12_5 := bk w10 BK465 5; have hcz12_6 := bk w10 BK465 6; have hfz12_0 := bf BK465 0; have hfz12_1 := bf BK465 1; have hfz12_2 := bf BK465 2; have hfz12_3 := bf BK465 3; have hfz12_4 := bf BK465 4; have hfz12_5 := bf BK465 5; have hfz12_6 := bf BK465 6; obtain ⟨Ao13, co13, eo13⟩ := Kd.V_slice HO468.out; subst eo13; obtain ⟨Ao14, co14, eo14⟩ := Kd.S_slice HO471.out; subst eo14) | (go_at_call 115; refine (impl_prog_stateRight.calls k gb472 Ao13 co13 t466 Ao14 co14 t469 _ _ l1_0 _ _ l1_1 _ _ l1_2 a1_3 a1_4 a1_5 a1_6 t474 _ (bp BK472) (cc (Kd.V_reads' HO468.out).2.2) ((Kd.V_reads' HO468.out).2.1) (cc (Kd.S_reads' HO471.out).2.2) ((Kd.S_reads' HO471.out).2.1) (cc (Kd.C_below HR1_0.out HB.out)) HC1_0.out (cc (Kd.C_below HR1_1.out HB.out)) HC1_1.out (cc (Kd.C_below HR1_2.out HB.out)) HC1_2.out A5.out).mono ?_; rintro e w15 ⟨rfl, hb⟩; replace HO468 := am (Kd.V_below (kV HO468) hb); replace HO471 := am (Kd.S_below (kS HO471) hb); replace BK464 := bb BK464 hb; replace BK465 := bb BK465 hb; replace BK472 := bb BK472 hb; replace HB := bs HB hb; clear hb))
  go_ret
  exact ⟨er, bw HB⟩
 obtain rfl := Option.some.inj H
 go_enter Try.func55, Try.ntmps55
 go_wp2_with (first | ((with_reducible refine gd 2 rfl ?_); refine bX 2 #[.slice A0_0 l0_0.length c0_0] 30 HB ?_; clear HB; intro gb464 w16 hg hb BK464 GW464 HB; clear hb hg) | ((with_reducible refine gd 3 rfl ?_); refine bX 3 #[.slice A1_0 l1_0.length c1_0, .slice A1_1 l1_1.length c1_1, .slice A1_2 l1_2.length c1_2, .int .i64 a1_3, .bool a1_4, .int .i64 a1_5, .int .i64 a1_6] 52 HB ?_; clear HB; intro gb465 w17 hg hb BK465 GW465 HB; obtain ⟨NB464_465, NB465_464, BK464⟩ := b3 hg BK464 hb; clear hb hg; have hnb18 := NB464_465.out; have hnc18 := NB465_464.out; have hcz19 := bK w17 BK464; have hfz19 := bF BK464) | ((with_reducible refine gk 66 rfl ?_); refine gC 66 (some 9) Try.func66 #[.agg #[.slice A0_0 l0_0.length c0_0]] ((impl_known.calls k (fun k_ => k_ < w.heap.size) _ _ l0_0 t466 t469 false _ (Kd.V_mk HC0_0.out (Kd.F_below (Kd.C_F k100_heap HR0_0.out) (bw HB))) A3.out).mono ?_); rintro e w20 ⟨v467, v470, gb472, rfl, ho0, ho1, hbx, hgx, hb⟩; refine ⟨_, rfl, ?_⟩; have HO468 := am (Kd.V_lower (Kd.V_mono (ok' := fun k_ => some k_ ≠ (v470 : Value).ownBlock ∧ k_ ≠ gb464 ∧ k_ ≠ gb465) ho0 (fun k_ hk_ => ⟨hk_.2, Or.elim hk_.1 (fun hs_ => fun e_ => Nat.not_le.2 hs_ (by rw [e_]; exact GW464.out)) (fun hn_ => (Kd.freshB (g := gb464) (o := .cells #[.slice A0_0 l0_0.length c0_0] 30 (0, 0)) (bp BK464) k_ hn_)), Or.elim hk_.1 (fun hs_ => fun e_ => Nat.not_le.2 hs_ (by rw [e_]; exact GW465.out)) (fun hn_ => (Kd.freshB (g := gb465) (o := .cells #[.slice A1_0 l1_0.length c1_0, .slice A1_1 l1_1.length c1_1, .slice A1_2 l1_2.length c1_2, .int .i64 a1_3, .bool a1_4, .int .i64 a1_5, .int .i64 a1_6] 52 (0, 0)) (bp BK465) k_ hn_))⟩)) (below_size (bw HB))); have HO471 := am (Kd.S_lower (Kd.S_mono (ok' := fun k_ => True) ho1 (fun _ hk_ => trivial)) (below_size (bw HB))); have BK472 := am (hbx); have GW472 := am ((Nat.le_trans (below_size (bw HB)) hgx)); have GE472 := am ((Nat.le_trans (below_size (bw HB)) hgx)); have NB464_472 := am ((Nat.ne_of_lt (Nat.lt_of_lt_of_le (blk_lt (g := gb464) (o := .cells #[.slice A0_0 l0_0.length c0_0] 30 (0, 0)) (bp BK464)) hgx) : gb464 ≠ gb472)); have NB472_464 := am ((Nat.ne_of_gt (Nat.lt_of_lt_of_le (blk_lt (g := gb464) (o := .cells #[.slice A0_0 l0_0.length c0_0] 30 (0, 0)) (bp BK464)) hgx) : gb472 ≠ gb464)); replace BK464 := bb BK464 hb; have NB465_472 := am ((Nat.ne_of_lt (Nat.lt_of_lt_of_le (blk_lt (g := gb465) (o := .cells #[.slice A1_0 l1_0.length c1_0, .slice A1_1 l1_1.length c1_1, .slice A1_2 l1_2.length c1_2, .int .i64 a1_3, .bool a1_4, .int .i64 a1_5, .int .i64 a1_6] 52 (0, 0)) (bp BK465)) hgx) : gb465 ≠ gb472)); have NB472_465 := am ((Nat.ne_of_gt (Nat.lt_of_lt_of_le (blk_lt (g := gb465) (o := .cells #[.slice A1_0 l1_0.length c1_0, .slice A1_1 l1_1.length c1_1, .slice A1_2 l1_2.length c1_2, .int .i64 a1_3, .bool a1_4, .int .i64 a1_5, .int .i64 a1_6] 52 (0, 0)) (bp BK465)) hgx) : gb472 ≠ gb465)); replace BK465 := bb BK465 hb; replace HB := bs HB hb; clear hb; (try clear ho0); (try clear ho1); (try clear hbx); (try clear hgx)))
 go_ret
 exact ⟨er, bw HB⟩

end Go.Proofs.Ytbmjmaahcaoajaa.QFnExactStateRight
