import Derived.Test.YtcdohkilplgmjaaCFnExactPlainx0
import Derived.Test.YtcdohkilplgmjaaCFnExactPlainx1
import Derived.Test.YtcdohkilplgmjaaCFnExactPlainx2
import Derived.Test.YtcdohkilplgmjaaCFnExactPlainx5
namespace Go.Proofs.Ytcdohkilplgmjaa.QFnExactPlain
open Go.RowKit Go.Proofs.YtcdohkilplgmjaaW
open PrintWords PrintLast PrintMore PrintShort PrintIsh
attribute [local go_sem] max2_int min2_int max_two min_two max_three min_three max_four min_four   -- for this text's walks alone
set_option linter.unusedVariables false
set_option maxHeartbeats 8000000
set_option maxRecDepth 100000
set_option linter.unusedSimpArgs false

mutual
def spec_l12Ins.l0 : Nat → Int → Int → Int → Int → Int → Int → Int → List (S55) → Int → Option ((List (S108)) × Int × Int × (List (S55)) × Int)
 | 0, _, _, _, _, _, _, _, _, _ => none
 | k + 1, x2, x7, x9, x198000, x198001, x201001, x201002, x201003, x201004 => if x9 < x2 then ((spec_l12Cell.f x9).bind fun bt201 => (if x201003.length < 8796093022208 then (spec_l12Ins.l0 k x2 x7 (wrap64 (x9 + 1)) x198000 x198001 x201001 x201002 (x201003 ++ [(⟨bt201.1, bt201.2⟩ : S55)]) x201004) else (none))) else (if x198000 = 1 then (some (([] : List (S108)), 1, wrap64 (6 + x7), (([(⟨2, x198001⟩ : S55)] : List (S55))), 0)) else (if x198000 = 2 then ((spec_l12Cell.f x198001).bind fun bt209 => (some (([] : List (S108)), 1, wrap64 (6 + x7), (([(⟨bt209.1, bt209.2⟩ : S55)] : List (S55))), 0))) else (if x198000 = 3 then ((spec_l12Cell.f x7).bind fun bt214 => (some (([] : List (S108)), 1, wrap64 (6 + x198001), (([(⟨bt214.1, bt214.2⟩ : S55)] : List (S55))), 0))) else (if x198000 = 4 then ((spec_l12Cell.f x7).bind fun bt219 => (some (([] : List (S108)), 1, wrap64 (6 + x2), (([(⟨bt219.1, bt219.2⟩ : S55)] : List (S55))), 0))) else (if x198000 = 5 then (some (([] : List (S108)), 0, (-1), ([] : List (S55)), 0)) else (if x198000 = 30 then (spec_l12Ins.j1 k x7 (x198000 == 30) x198000 x198001 x201001 x201002 x201003 x201004) else (if x198000 = 31 then (spec_l12Ins.j1 k x7 (x198000 == 31) x198000 x198001 x201001 x201002 x201003 x201004) else (spec_l12Ins.j1 k x7 (x198000 == 32) x198000 x198001 x201001 x201002 x201003 x201004))))))))
def spec_l12Ins.j2 : Nat → Int → Int → Int → Int → Int → List (S55) → Int → Option ((List (S108)) × Int × Int × (List (S55)) × Int)
 | 0, _, _, _, _, _, _, _ => none
 | k + 1, x7, x198000, x198001, x201001, x201002, x201003, x201004 => (spec_Puts.f k x198000 x198001).bind fun t224 => (if t224 > 0 then (some (([] : List (S108)), x201001, wrap64 (6 + x7), x201003, x201004)) else (some (([] : List (S108)), x201001, x201002, x201003, x201004)))
def spec_l12Ins.j1 : Nat → Int → Bool → Int → Int → Int → Int → List (S55) → Int → Option ((List (S108)) × Int × Int × (List (S55)) × Int)
 | 0, _, _, _, _, _, _, _, _ => none
 | k + 1, x7, x71, x198000, x198001, x201001, x201002, x201003, x201004 => if x71 = true then (spec_l12Ins.j2 k x7 x198000 x198001 x201001 x201002 x201003 x198001) else (spec_l12Ins.j2 k x7 x198000 x198001 x201001 x201002 x201003 x201004)
end
def spec_l12Ins.f (k : Nat) (l0_0 : List (S53)) (a1_0 : Int) (a1_1 : Int) (a2 : Int) : Option ((List (S108)) × Int × Int × (List (S55)) × Int) := (spec_Takes.f k l0_0 a1_0 a1_1).bind fun t199 => (spec_l12Ins.l0 k a2 (wrap64 (a2 - t199)) (wrap64 (a2 - t199)) a1_0 a1_1 a1_0 (-1) ([] : List (S55)) 0)
theorem spec_l12Ins.mono_l : ∀ k, (∀ y0 y1 y2 y3 y4 y5 y6 y7 y8, LeO (spec_l12Ins.l0 k y0 y1 y2 y3 y4 y5 y6 y7 y8) (spec_l12Ins.l0 (k + 1) y0 y1 y2 y3 y4 y5 y6 y7 y8)) ∧ (∀ y0 y1 y2 y3 y4 y5 y6, LeO (spec_l12Ins.j2 k y0 y1 y2 y3 y4 y5 y6) (spec_l12Ins.j2 (k + 1) y0 y1 y2 y3 y4 y5 y6)) ∧ (∀ y0 y1 y2 y3 y4 y5 y6 y7, LeO (spec_l12Ins.j1 k y0 y1 y2 y3 y4 y5 y6 y7) (spec_l12Ins.j1 (k + 1) y0 y1 y2 y3 y4 y5 y6 y7))
 | 0 => ⟨fun _ _ _ _ _ _ _ _ _ r h => by simp [spec_l12Ins.l0] at h, fun _ _ _ _ _ _ _ r h => by simp [spec_l12Ins.j2] at h, fun _ _ _ _ _ _ _ _ r h => by simp [spec_l12Ins.j1] at h⟩
 | k + 1 => by
  obtain ⟨ih0, ih1, ih2⟩ := spec_l12Ins.mono_l k
  refine ⟨?_, ?_, ?_⟩
  ·intro y0 y1 y2 y3 y4 y5 y6 y7 y8
   unfold spec_l12Ins.l0
   with_reducible repeat' first | exact ih0 .. | exact ih1 .. | exact ih2 .. | exact spec_Puts.mono .. | exact spec_Takes.mono .. | exact LeO.refl _ | exact LeO.none _ | refine LeO.ite ?_ ?_ | refine LeO.bind ?_ (fun _ => ?_)
  ·intro y0 y1 y2 y3 y4 y5 y6
   unfold spec_l12Ins.j2
   with_reducible repeat' first | exact ih0 .. | exact ih1 .. | exact ih2 .. | exact spec_Puts.mono .. | exact spec_Takes.mono .. | exact LeO.refl _ | exact LeO.none _ | refine LeO.ite ?_ ?_ | refine LeO.bind ?_ (fun _ => ?_)
  ·intro y0 y1 y2 y3 y4 y5 y6 y7
   unfold spec_l12Ins.j1
   with_reducible repeat' first | exact ih0 .. | exact ih1 .. | exact ih2 .. | exact spec_Puts.mono .. | exact spec_Takes.mono .. | exact LeO.refl _ | exact LeO.none _ | refine LeO.ite ?_ ?_ | refine LeO.bind ?_ (fun _ => ?_)
theorem spec_l12Ins.mono : ∀ a0 a1 a2 a3 k, LeO (spec_l12Ins.f k a0 a1 a2 a3) (spec_l12Ins.f (k + 1) a0 a1 a2 a3) := by
 intro a0 a1 a2 a3 k
 obtain ⟨ih0, ih1, ih2⟩ := spec_l12Ins.mono_l k
 unfold spec_l12Ins.f
 with_reducible repeat' first | exact ih0 .. | exact ih1 .. | exact ih2 .. | exact spec_Puts.mono .. | exact spec_Takes.mono .. | exact LeO.refl _ | exact LeO.none _ | refine LeO.ite ?_ ?_ | refine LeO.bind ?_ (fun _ => ?_)
def spec_l12Ins.T6 : Bool × List (List Nat × List Nat) := (true, [([], []), ([0], [0]), ([], []), ([2], [2]), ([3], [3]), ([1, 4, 3], [1, 4]), ([0, 1, 2, 3, 4, 5], []), ([6, 5, 5, 0, 1, 2, 3, 4, 5], [5, 6])])
def spec_l12Ins.B6 : List Nat := [0, 1, 0, 4, 12, 31, 63, 127]
theorem spec_l12Ins.tab6 : rtab .any (opsOf Try.f17 6) = spec_l12Ins.T6 := by kernel_rfl
theorem spec_l12Ins.bits6 : waitsOk spec_l12Ins.T6.2 spec_l12Ins.B6 = true := by kernel_rfl
def spec_l12Ins.T13 : Bool × List (List Nat × List Nat) := (true, [([], []), ([0], [0]), ([1], [1]), ([], []), ([3], [3]), ([4], [4]), ([2, 5], [2, 5]), ([6, 4, 0, 1, 2, 3, 4, 5, 6], [6])])
def spec_l12Ins.B13 : List Nat := [0, 1, 3, 0, 8, 24, 63, 127]
theorem spec_l12Ins.tab13 : rtab .any (opsOf Try.f17 13) = spec_l12Ins.T13 := by kernel_rfl
theorem spec_l12Ins.bits13 : waitsOk spec_l12Ins.T13.2 spec_l12Ins.B13 = true := by kernel_rfl
theorem spec_l12Ins.calls (k : Nat) (A0_0 : Option Addr) (c0_0 : Nat) (l0_0 : List (S53)) (a1_0 : Int) (a1_1 : Int) (a2 : Int) (r1 : List (S108)) (r2 : Int) (r3 : Int) (r4 : List (S55)) (r5 : Int) (w : World) (hr0_0 : Kd.C k53 w A0_0 l0_0.length l0_0) (hc0_0 : l0_0.length ≤ c0_0) (h : spec_l12Ins.f k l0_0 a1_0 a1_1 a2 = some (r1, r2, r3, r4, r5)) :
  Calls Try.prog 17 #[.agg #[.slice A0_0 l0_0.length c0_0], .agg #[.int .i64 a1_0, .int .i64 a1_1], .int .i64 a2] w fun e w' => ∃ v0_ v3_ : Value, e = .returned (.agg #[v0_, .int .i64 r2, .int .i64 r3, v3_, .int .i64 r5]) ∧ Kd.R k108 108 w' w.heap.size (fun _ => True) v0_ r1 ∧ Kd.R k55 55 w' w.heap.size (fun _ => True) v3_ r4 ∧ Below w.heap.size w w' := by
 have hu33 := Try.underlying33
 have hu59 := Try.underlying59
 have hu50 := Try.underlying50
 have hu55 := Try.underlying55
 have HR0_0 := am hr0_0
 have HC0_0 := am hc0_0
 clear hr0_0 hc0_0
 have HB := am (Below.refl w.heap.size w)
 have H : ((spec_Takes.f k l0_0 a1_0 a1_1).bind fun t199 => (spec_l12Ins.l0 k a2 (wrap64 (a2 - t199)) (wrap64 (a2 - t199)) a1_0 a1_1 a1_0 (-1) ([] : List (S55)) 0)) = some (r1, r2, r3, r4, r5) := h
 clear h
 refine be H ?_; clear H; intro t199 A4 H
 have H' := am H
 clear H
 go_enter Try.func17, Try.ntmps17
 go_wp2_with (first | ((with_reducible refine gd 3 rfl ?_); refine bX 3 #[.slice A0_0 l0_0.length c0_0] 33 HB ?_; clear HB; intro gb196 w5 hg hb BK196 GW196 HB; clear hb hg) | ((with_reducible refine gd 4 rfl ?_); refine bX 4 #[.int .i64 a1_0, .int .i64 a1_1] 59 HB ?_; clear HB; intro gb197 w6 hg hb BK197 GW197 HB; obtain ⟨NB196_197, NB197_196, BK196⟩ := b3 hg BK196 hb; clear hb hg) | ((with_reducible refine gd 6 rfl ?_); refine bX 6 #[.slice none 0 0, .int .i64 0, .int .i64 0, .slice none 0 0, .int .i64 0] 50 HB ?_; clear HB; intro gb198 w7 hg hb BK198 GW198 HB; obtain ⟨NB196_198, NB198_196, BK196⟩ := b3 hg BK196 hb; obtain ⟨NB197_198, NB198_197, BK197⟩ := b3 hg BK197 hb; clear hb hg; have hnb8 := NB196_197.out; have hnc8 := NB197_196.out; have hnb9 := NB196_198.out; have hnc9 := NB198_196.out; have hcz10 := bK w7 BK196; have hfz10 := bF BK196; have hnb11 := NB197_198.out; have hnc11 := NB198_197.out; have hcz12 := bK w7 BK197; have hfz12 := bF BK197) | ((with_reducible refine gk 32 rfl ?_); refine gB 32 (some 13) Try.func32 #[.agg #[.slice A0_0 l0_0.length c0_0], .agg #[.int .i64 a1_0, .int .i64 a1_1]] (spec_Takes.calls k _ _ l0_0 a1_0 a1_1 t199 _ (cc (Kd.C_below HR0_0.out HB.out)) HC0_0.out A4.out) ?_; intro w13 hb; replace BK196 := bb BK196 hb; replace BK197 := bb BK197 hb; replace BK198 := bb BK198 hb; replace HB := bs HB hb; clear hb; have hcz14 := bK w13 BK197; have hfz14 := bF BK197) | ((with_reducible refine gd 8 rfl ?_); refine bX 8 #[.slice none 0 0, .int .i64 0, .int .i64 0, .slice none 0 0, .int .i64 0] 50 HB ?_; clear HB; intro gb200 w15 hg hb BK200 GW200 HB; obtain ⟨NB196_200, NB200_196, BK196⟩ := b3 hg BK196 hb; obtain ⟨NB197_200, NB200_197, BK197⟩ := b3 hg BK197 hb; obtain ⟨NB198_200, NB200_198, BK198⟩ := b3 hg BK198 hb; clear hb hg; have hnb16 := NB200_196.out; have hnc16 := NB196_200.out; have hnb17 := NB200_197.out; have hnc17 := NB197_200.out; have hnb18 := NB200_198.out; have hnc18 := NB198_200.out; have hcz19_0 := bk w15 BK200 0; have hcz19_1 := bk w15 BK200 1; have hcz19_2 := bk w15 BK200 2; have hcz19_3 := bk w15 BK200 3; have hcz19_4 := bk w15 BK200 4; have hfz19_0 := bf BK200 0; have hfz19_1 := bf BK200 1; have hfz19_2 := bf BK200 2; have hfz19_3 := bf BK200 3; have hfz19_4 := bf BK200 4))
 go_loopg [9] k (fun kq v9 w' => ∃ (x9_1 : Int) (x201003_1 : List (S55)) (u201003 : Value), v9 = .int .i64 x9_1 ∧ Aside0 (spec_l12Ins.l0 kq a2 (wrap64 (a2 - t199)) x9_1 a1_0 a1_1 a1_0 (-1) x201003_1 0 = some (r1, r2, r3, r4, r5)) ∧ Aside0 (kq ≤ k) ∧ Aside0 (Kd.R k55 55 w' w.heap.size (fun _ => True) u201003 x201003_1) ∧ Aside0 (w'.heap[gb196]? = some (.cells #[(.slice A0_0 l0_0.length c0_0)] 33 (0, 0))) ∧ Aside0 (w'.heap[gb197]? = some (.cells #[.int .i64 a1_0, .int .i64 a1_1] 59 (0, 0))) ∧ Aside0 (w'.heap[gb198]? = some (.cells #[(.slice none 0 0), .int .i64 0, .int .i64 0, (.slice none 0 0), .int .i64 0] 50 (0, 0))) ∧ Aside0 (w'.heap[gb200]? = some (.cells #[(.slice none 0 0), .int .i64 a1_0, .int .i64 (-1), u201003, .int .i64 0] 50 (0, 0))) ∧ Aside0 (Below w.heap.size w w'))
 case atStart => exact ⟨(wrap64 (a2 - t199)), (([] : List (S55))), (.slice none 0 0), dr, H', ⟨Nat.le_refl _⟩, ⟨by first | exact Kd.R_nil _ _ _ _ _ | exact Kd.N_nil _ _ _ _ _ | exact Kd.V_nil _ _ _ _ _ | exact Kd.Q_nil _ _ _ _ _ | exact Kd.S_nil _ _ _ _ _⟩, ⟨by (with_reducible repeat (first | apply dN | apply dW | apply dA)); refine blk_far ?_ NB196_200.out _; (with_reducible repeat (first | apply dN | apply dW | apply dA)); refine blk_far ?_ NB196_200.out _; (with_reducible repeat (first | apply dN | apply dW | apply dA)); refine blk_far ?_ NB196_200.out _; (with_reducible repeat (first | apply dN | apply dW | apply dA)); refine blk_far ?_ NB196_200.out _; (with_reducible repeat (first | apply dN | apply dW | apply dA)); refine blk_far ?_ NB196_200.out _; exact bp BK196⟩, ⟨by (with_reducible repeat (first | apply dN | apply dW | apply dA)); refine blk_far ?_ NB197_200.out _; (with_reducible repeat (first | apply dN | apply dW | apply dA)); refine blk_far ?_ NB197_200.out _; (with_reducible repeat (first | apply dN | apply dW | apply dA)); refine blk_far ?_ NB197_200.out _; (with_reducible repeat (first | apply dN | apply dW | apply dA)); refine blk_far ?_ NB197_200.out _; (with_reducible repeat (first | apply dN | apply dW | apply dA)); refine blk_far ?_ NB197_200.out _; exact bp BK197⟩, ⟨by (with_reducible repeat (first | apply dN | apply dW | apply dA)); refine blk_far ?_ NB198_200.out _; (with_reducible repeat (first | apply dN | apply dW | apply dA)); refine blk_far ?_ NB198_200.out _; (with_reducible repeat (first | apply dN | apply dW | apply dA)); refine blk_far ?_ NB198_200.out _; (with_reducible repeat (first | apply dN | apply dW | apply dA)); refine blk_far ?_ NB198_200.out _; (with_reducible repeat (first | apply dN | apply dW | apply dA)); refine blk_far ?_ NB198_200.out _; exact bp BK198⟩, ⟨by (with_reducible repeat (first | apply dN | apply dW | apply dA)); refine blk_put (cs := #[.slice none 0 0, .int .i64 a1_0, .int .i64 (-1), .slice none 0 0, .int .i64 0]) ?_ 4 _ rfl; (with_reducible repeat (first | apply dN | apply dW | apply dA)); refine blk_put (cs := #[.slice none 0 0, .int .i64 a1_0, .int .i64 (-1), .slice none 0 0, .int .i64 0]) ?_ 3 _ rfl; (with_reducible repeat (first | apply dN | apply dW | apply dA)); refine blk_put (cs := #[.slice none 0 0, .int .i64 a1_0, .int .i64 0, .slice none 0 0, .int .i64 0]) ?_ 2 _ rfl; (with_reducible repeat (first | apply dN | apply dW | apply dA)); refine blk_put (cs := #[.slice none 0 0, .int .i64 0, .int .i64 0, .slice none 0 0, .int .i64 0]) ?_ 1 _ rfl; (with_reducible repeat (first | apply dN | apply dW | apply dA)); refine blk_put (cs := #[.slice none 0 0, .int .i64 0, .int .i64 0, .slice none 0 0, .int .i64 0]) ?_ 0 _ rfl; exact bp BK200⟩, ⟨bw HB⟩⟩
 clear H'
 (try clear c1); (try clear p2); (try clear c3); (try clear p6); (try clear c8); (try clear c9); (try clear c11); (try clear c16); (try clear c17); (try clear c18); (try clear hcz10); (try clear hcz12); (try clear hcz14); (try clear hcz19_0); (try clear hcz19_1); (try clear hcz19_2); (try clear hcz19_3); (try clear hcz19_4); (try clear hfz10); (try clear hfz12); (try clear hfz14); (try clear hfz19_0); (try clear hfz19_1); (try clear hfz19_2); (try clear hfz19_3); (try clear hfz19_4)
 obtain ⟨x9_1, x201003_1, u201003, rfl, HA, HK1, HO_201003, BK196, BK197, BK198, BK200, HB⟩ := hrel
 rcases gk with _ | k1
 ·exact absurd HA.out (by simp [spec_l12Ins.l0])
 have H := HA.out
 clear HA
 simp only [spec_l12Ins.l0] at H
 by_cases c20 : x9_1 < a2
 ·rw [if_pos c20] at H
  have c20b0 := decide_eq_true c20
  clear c20
  replace H := Option.bind_eq_some_iff.mp H
  obtain ⟨⟨t201, t202⟩, A210, H⟩ := H
  replace H : (if x201003_1.length < 8796093022208 then (spec_l12Ins.l0 k1 a2 (wrap64 (a2 - t199)) (wrap64 (x9_1 + 1)) a1_0 a1_1 a1_0 (-1) (x201003_1 ++ [(⟨t201, t202⟩ : S55)]) 0) else (none)) = some (r1, r2, r3, r4, r5) := H
  have A21 := am A210
  clear A210
  refine iN H ?_; clear H; intro c22 H
  have LMc22 := am c22
  clear c22
  obtain ⟨y203, hy203⟩ : ∃ y_ : List (S55), y_ = (x201003_1 ++ [(⟨t201, t202⟩ : S55)]) := ⟨_, rfl⟩
  replace H : (spec_l12Ins.l0 k1 a2 (wrap64 (a2 - t199)) (wrap64 (x9_1 + 1)) a1_0 a1_1 a1_0 (-1) y203 0) = some (r1, r2, r3, r4, r5) := by first | (rw [hy203]; with_reducible exact H) | (have H2_ := (Option.bind_some _ _).symm.trans H; rw [hy203]; with_reducible exact H2_) | (have H2_ := (Option.bind_some _ _).symm.trans H; with_reducible exact H2_) | with_reducible exact H | (rw [hy203]; exact H) | exact H
  have Ny203 := am hy203
  clear hy203
  have H' := am H
  clear H
  try go_wp2
  replace HO_201003 := am (Kd.R_drew HO_201003.out)
  replace BK196 := am (blk_drew BK196.out)
  replace BK197 := am (blk_drew BK197.out)
  replace BK198 := am (blk_drew BK198.out)
  replace BK200 := am (blk_drew BK200.out)
  replace HB := am (below_drew1 HB.out)
  refine start_ (n := 8) (S := fun w' => w'.cell? ⟨gb200, 0, none⟩ = some (.slice none 0 0) ∧ w'.cell? ⟨gb200, 1, none⟩ = some (.int .i64 a1_0) ∧ w'.cell? ⟨gb200, 2, none⟩ = some (.int .i64 (-1)) ∧ w'.cell? ⟨gb200, 3, none⟩ = some (u201003) ∧ w'.cell? ⟨gb200, 4, none⟩ = some (.int .i64 0)) (ds := [7]) (bv 8 0) (by kernel_rfl) rfl (by kernel_rfl) ⟨bc BK200 0, bc BK200 1, bc BK200 2, bc BK200 3, bc BK200 4⟩ (fun hHeld => ?_); refine with_tabW spec_l12Ins.tab6 spec_l12Ins.bits6 (fun HT_ HW_ => ?_)
  generalize wr.drew = w23 at HO_201003 BK196 BK197 BK198 BK200 HB hHeld ⊢
  refine pu 0 24 8 1 HT_ ?_
  refine pu 2 26 8 5 HT_ ?_
  refine tk 1 25 8 7 HT_ HW_ hHeld ?_
  refine on 3 (some 27) 8 15 HT_ fun K hK => ?_
  refine goes_ Try.func16 (by kernel_rfl) rfl #[.int .i64 x9_1] (by rfl) rfl rfl gl ?_
  with_reducible refine (spec_l12Cell.calls x9_1 t201 t202 _ A21.out).mono ?_
  rintro e w24 ⟨rfl, hb⟩
  refine ⟨_, rfl, ?_⟩
  replace HO_201003 := am (Kd.R_below (kR HO_201003) hb)
  replace BK196 := bb BK196 hb
  replace BK197 := bb BK197 hb
  replace BK198 := bb BK198 hb
  replace BK200 := bb BK200 hb
  replace HB := am (below_step (bw HB) hb)
  clear hb
  refine hK.out _ _ ⟨bc BK200 0, bc BK200 1, bc BK200 2, bc BK200 3, bc BK200 4⟩ (fun hHeld => ?_)
  clear hK K
  refine nm (some 27) ?_
  refine on 4 (some 28) 8 31 HT_ fun K hK => ?_
  refine value_ (w1 := ?_) (v := ?_) (by rfl) rfl ?_ ?_
  rotate_left 2
  ·go_simp
   constructor
   ·rfl
   rfl
  refine hK.out _ _ ⟨(blk_cell (blk_alloc BK200.out _) 0).trans rfl, (blk_cell (blk_alloc BK200.out _) 1).trans rfl, (blk_cell (blk_alloc BK200.out _) 2).trans rfl, (blk_cell (blk_alloc BK200.out _) 3).trans rfl, (blk_cell (blk_alloc BK200.out _) 4).trans rfl⟩ (fun hHeld => ?_)
  clear hK K
  refine nm (some 28) ?_
  refine on 5 (some 29) 8 63 HT_ fun K hK => ?_
  refine Kd.R_append_step k55 (w0 := w) w.heap.size (by rfl) (.tmp 25) (.tmp 28) 47 55 (.agg #[(.int .i64 0), (.int .i64 0)]) 16 rfl Try.underlying47 info55 rfl (by decide) (by omega) u201003 x201003_1 (⟨t201, t202⟩ : S55) [.int .i64 t201, .int .i64 t202] (fun _ => True) (fun _ => False) rfl rfl ?aP (fun _ hk => hk.elim) ?aF ?aO ?aB ?aS ?aL ?_
  (case aP => exact k55_mkM _ _ _ (⟨t201, t202⟩ : S55))
  (case aB => exact (bw HB))
  (case aF => exact (fun _ _ => trivial))
  (case aO => exact (kR HO_201003))
  (case aS => exact (below_size (bw HB)))
  (case aL => have := LMc22.out; omega)
  intro v204 w25 ho hb hg hat
  rw [← Ny203.out] at ho
  have n0_ := bg BK196 hg (Kd.R_ne HO_201003.out BK196.out (by decide))
  have n1_ := bg BK197 hg (Kd.R_ne HO_201003.out BK197.out (by decide))
  have n2_ := bg BK198 hg (Kd.R_ne HO_201003.out BK198.out (by decide))
  have n3_ := bg BK200 hg (Kd.R_ne HO_201003.out BK200.out (by decide))
  have n4_ := am (hb)
  have n5_ := am (ho)
  clear BK196
  clear BK197
  clear BK198
  clear BK200
  clear HB
  clear HO_201003
  have BK196 := n0_
  have BK197 := n1_
  have BK198 := n2_
  have BK200 := n3_
  have HB := n4_
  have HO205 := n5_
  clear n0_ n1_ n2_ n3_ n4_ n5_
  clear ho hb hg hat
  obtain ⟨Ao26, co26, eo26⟩ := Kd.R_slice HO205.out
  (first | subst eo26 | (injection eo26 with f1_ f2_ f3_; have f4_ := f1_.symm; have f5_ := f3_.symm; clear f1_ f2_ f3_; subst f4_; subst f5_))
  refine hK.out _ _ ⟨bc BK200 0, bc BK200 1, bc BK200 2, bc BK200 3, bc BK200 4⟩ (fun hHeld => ?_)
  clear hK K
  refine nm (some 29) ?_
  refine pu 6 30 8 127 HT_ ?_
  refine last_ (i := 7) (N := none) (bv 8 255) rfl rfl (one_of HT_.out (by kernel_rfl)) (by decide) (fun K hK => ?_)
  have hs27 := bk w25 BK200 3
  have hfs27 := bf BK200 3
  have hns27_0 := NB196_200.out
  have hns27_1 := NB197_200.out
  have hns27_2 := NB198_200.out
  have hms27_0 := NB200_196.out
  have hms27_1 := NB200_197.out
  have hms27_2 := NB200_198.out
  refine skip_ (w1 := ?_) (by rfl) rfl ?_ ?_
  rotate_left
  ·go_simp
   rfl
  refine hK.out _ _ ?_
  clear hK K
  refine done_ (done_of HT_.out (by kernel_rfl)) ?_
  try go_wp2
  go_roundg k1
  case measure => have := HK1.out; omega
  case rel => exact ⟨(wrap64 (x9_1 + 1)), (y203), (.slice Ao26 y203.length co26), dr, H', ⟨by have := HK1.out; omega⟩, ⟨by (with_reducible repeat (first | apply Kd.R_alloc | apply Kd.R_drewN | apply Kd.R_drew)); exact Kd.R_mono (Kd.R_far (p := ⟨gb200, 3, none⟩) (Kd.R_types HO205.out BK200.out (by decide)) (fun _ hk => hk.2) (.slice Ao26 y203.length co26)) (fun _ hk => trivial)⟩, ⟨by (with_reducible repeat (first | apply dN | apply dW | apply dA)); refine blk_far ?_ NB196_200.out _; exact bp BK196⟩, ⟨by (with_reducible repeat (first | apply dN | apply dW | apply dA)); refine blk_far ?_ NB197_200.out _; exact bp BK197⟩, ⟨by (with_reducible repeat (first | apply dN | apply dW | apply dA)); refine blk_far ?_ NB198_200.out _; exact bp BK198⟩, ⟨by (with_reducible repeat (first | apply dN | apply dW | apply dA)); refine blk_put (cs := #[.slice none 0 0, .int .i64 a1_0, .int .i64 (-1), u201003, .int .i64 0]) ?_ 3 _ rfl; exact bp BK200⟩, ⟨bw HB⟩⟩
 rw [if_neg c20] at H
 have c20b0 := decide_eq_false c20
 clear c20
 have HC28 := am H
 clear H
 have hnb29 := NB197_196.out
 have hnc29 := NB196_197.out
 have hnb30 := NB197_198.out
 have hnc30 := NB198_197.out
 have hnb31 := NB197_200.out
 have hnc31 := NB200_197.out
 have hcz32 := bK wr BK197
 have hfz32 := bF BK197
 go_upto_block 2 with (fail)
 go_cut [] (fun wc => ∃ (kq : Nat) (x199001_27 : Int) (x199002_27 : Int) (x199004_27 : Int) (x201004_27 : Int), Aside0 (spec_l12Ins.j2 kq (wrap64 (a2 - t199)) a1_0 a1_1 a1_0 (-1) x201003_1 x201004_27 = some (r1, r2, r3, r4, r5)) ∧ Aside0 (kq ≤ k1) ∧ Aside0 (Kd.R k55 55 wc w.heap.size (fun _ => True) u201003 x201003_1) ∧ Aside0 (wc.heap[gb196]? = some (.cells #[(.slice A0_0 l0_0.length c0_0)] 33 (0, 0))) ∧ Aside0 (wc.heap[gb197]? = some (.cells #[.int .i64 a1_0, .int .i64 a1_1] 59 (0, 0))) ∧ Aside0 (wc.heap[gb198]? = some (.cells #[(.slice none 0 0), .int .i64 x199001_27, .int .i64 x199002_27, (.slice none 0 0), .int .i64 x199004_27] 50 (0, 0))) ∧ Aside0 (wc.heap[gb200]? = some (.cells #[(.slice none 0 0), .int .i64 a1_0, .int .i64 (-1), u201003, .int .i64 x201004_27] 50 (0, 0))) ∧ Aside0 (Below w.heap.size w wc))
 case first =>
  have H := HC28.out
  clear HC28
  refine qE H ?_ ?_ <;> clear H
  ·intro c33b0 c33b1 H
   (first | rw [c33b0] | (simp only [i64_w, i32_w]; rw [c33b0]) | skip)
   obtain ⟨y206, hy206⟩ : ∃ y_ : List (S55), y_ = (([(⟨2, a1_1⟩ : S55)] : List (S55))) := ⟨_, rfl⟩
   replace H : (some (([] : List (S108)), 1, wrap64 (6 + (wrap64 (a2 - t199))), y206, 0)) = some (r1, r2, r3, r4, r5) := by first | (rw [hy206]; with_reducible exact H) | (have H2_ := (Option.bind_some _ _).symm.trans H; rw [hy206]; with_reducible exact H2_) | (have H2_ := (Option.bind_some _ _).symm.trans H; with_reducible exact H2_) | with_reducible exact H | (rw [hy206]; exact H) | exact H
   have Ny206 := am hy206
   clear hy206
   simp only [Option.some.injEq, Prod.mk.injEq] at H
   obtain ⟨rfl, rfl, rfl, rfl, rfl⟩ := H
   have hnb34 := NB197_196.out
   have hnc34 := NB196_197.out
   have hnb35 := NB197_198.out
   have hnc35 := NB198_197.out
   have hnb36 := NB197_200.out
   have hnc36 := NB200_197.out
   have hcz37 := bK wr BK197
   have hfz37 := bF BK197
   go_wp2_with (first | ((with_reducible refine gate_dst (N := 40) rfl ?_); refine Kd.R_lit k55 _ 55 ?hg (N := 40) ?hd (xs := ([(⟨2, a1_1⟩ : S55)] : List (S55))) (inner := [.int .i64 2, .int .i64 a1_1]) (ok := fun _ => True) (okp := fun _ => True) ?hr ?hp (fun _ hk => hk) trivial (Below.refl _ _) (Nat.le_refl _) (by simp) ?_; (case hd => rfl); (case hg => rfl); (case hr => exact gs); (case hp => exact (Reps.c2 (show Kd.M k55 _ _ _ (⟨2, a1_1⟩ : S55) [.int .i64 2, .int .i64 a1_1] from (k55_mkM _ _ _ (⟨2, a1_1⟩ : S55) )) (Reps.none _ _))); intro v207 w38 ho39 hb hg_ hnew_; clear hg_ hnew_; (first | rw [← Ny206.out] at ho39 | (simp only [Int.reduceToNat] at ho39; rw [← Ny206.out] at ho39)); have HO208 := am (Kd.R_lower (Kd.R_new' ho39 (Kd.R_lt (kR HO_201003))) (below_size (bw HB))); replace HO_201003 := am (Kd.R_elder' (kR HO_201003) (Kd.R_base ho39) hb); replace BK196 := bb BK196 hb; replace BK197 := bb BK197 hb; replace BK198 := bb BK198 hb; replace BK200 := bb BK200 hb; replace HB := bs HB hb; clear hb ho39; obtain ⟨Ao40, co40, eo40⟩ := Kd.R_slice HO208.out; subst eo40; have hnb41 := NB198_196.out; have hnc41 := NB196_198.out; have hnb42 := NB198_200.out; have hnc42 := NB200_198.out; have hcz43_0 := bk w38 BK198 0; have hcz43_1 := bk w38 BK198 1; have hcz43_2 := bk w38 BK198 2; have hcz43_3 := bk w38 BK198 3; have hcz43_4 := bk w38 BK198 4; have hfz43_0 := bf BK198 0; have hfz43_1 := bf BK198 1; have hfz43_2 := bf BK198 2; have hfz43_3 := bf BK198 3; have hfz43_4 := bf BK198 4))
   refine bodyPost_ret (results_cell_row rfl _ _ gb198 50 #[.slice none 0 0, .int .i64 1, .int .i64 (wrap64 (6 + (wrap64 (a2 - t199)))), .slice Ao40 y206.length co40, .int .i64 0] (0, 0) _ rfl (bt BK198) Try.underlying50 rfl (by kernel_rfl)) rfl ?_
   exact ⟨_, _, er, by first | exact Kd.R_nil _ _ _ _ _ | exact Kd.N_nil _ _ _ _ _ | exact Kd.V_nil _ _ _ _ _ | exact Kd.Q_nil _ _ _ _ _ | exact Kd.S_nil _ _ _ _ _, by (with_reducible repeat (first | apply Kd.R_alloc | apply Kd.R_drewN | apply Kd.R_drew)); exact Kd.R_mono (Kd.R_far (p := ⟨gb198, 4, none⟩) (Kd.R_far (p := ⟨gb198, 3, none⟩) (Kd.R_far (p := ⟨gb198, 2, none⟩) (Kd.R_far (p := ⟨gb198, 1, none⟩) (Kd.R_far (p := ⟨gb198, 0, none⟩) (Kd.R_types HO208.out BK198.out (by decide)) (fun _ hk => hk.2) (.slice none 0 0)) (fun _ hk => hk.2) (.int .i64 1)) (fun _ hk => hk.2) (.int .i64 (wrap64 (6 + (wrap64 (a2 - t199)))))) (fun _ hk => hk.2) (.slice Ao40 y206.length co40)) (fun _ hk => hk.2) (.int .i64 0)) (fun _ hk => trivial), bw HB⟩
  intro c33 c33b0 c33b1 H
  (first | rw [c33b0] | (simp only [i64_w, i32_w]; rw [c33b0]) | skip)
  refine qE H ?_ ?_ <;> clear H
  ·intro c44b0 c44b1 H
   replace H := Option.bind_eq_some_iff.mp H
   obtain ⟨⟨t209, t210⟩, A450, H⟩ := H
   replace H : (some (([] : List (S108)), 1, wrap64 (6 + (wrap64 (a2 - t199))), (([(⟨t209, t210⟩ : S55)] : List (S55))), 0)) = some (r1, r2, r3, r4, r5) := H
   have A45 := am A450
   clear A450
   obtain ⟨y211, hy211⟩ : ∃ y_ : List (S55), y_ = (([(⟨t209, t210⟩ : S55)] : List (S55))) := ⟨_, rfl⟩
   replace H : (some (([] : List (S108)), 1, wrap64 (6 + (wrap64 (a2 - t199))), y211, 0)) = some (r1, r2, r3, r4, r5) := by first | (rw [hy211]; with_reducible exact H) | (have H2_ := (Option.bind_some _ _).symm.trans H; rw [hy211]; with_reducible exact H2_) | (have H2_ := (Option.bind_some _ _).symm.trans H; with_reducible exact H2_) | with_reducible exact H | (rw [hy211]; exact H) | exact H
   have Ny211 := am hy211
   clear hy211
   simp only [Option.some.injEq, Prod.mk.injEq] at H
   obtain ⟨rfl, rfl, rfl, rfl, rfl⟩ := H
   have hnb46 := NB197_196.out
   have hnc46 := NB196_197.out
   have hnb47 := NB197_198.out
   have hnc47 := NB198_197.out
   have hnb48 := NB197_200.out
   have hnc48 := NB200_197.out
   have hcz49 := bK wr BK197
   have hfz49 := bF BK197
   (try clear HO_201003)
   go_wp2_with (first | ((with_reducible refine gate_callee (f := 16) rfl ?_); refine goesL_ (some 48) rfl rfl Try.func16 (by kernel_rfl) rfl #[.int .i64 a1_1] rfl gl ?_; (with_reducible refine (spec_l12Cell.calls a1_1 t209 t210 _ A45.out).mono ?_); rintro e w50 ⟨rfl, hb⟩; refine ⟨_, rfl, ?_⟩; replace BK196 := bb BK196 hb; replace BK197 := bb BK197 hb; replace BK198 := bb BK198 hb; replace BK200 := bb BK200 hb; replace HB := bs HB hb; clear hb) | ((with_reducible refine gate_dst (N := 49) rfl ?_); refine Kd.R_lit k55 _ 55 ?hg (N := 49) ?hd (xs := ([(⟨t209, t210⟩ : S55)] : List (S55))) (inner := [.int .i64 t209, .int .i64 t210]) (ok := fun _ => True) (okp := fun _ => True) ?hr ?hp (fun _ hk => hk) trivial (Below.refl _ _) (Nat.le_refl _) (by simp) ?_; (case hd => rfl); (case hg => rfl); (case hr => exact gs); (case hp => exact (Reps.c2 (show Kd.M k55 _ _ _ (⟨t209, t210⟩ : S55) [.int .i64 t209, .int .i64 t210] from (k55_mkM _ _ _ (⟨t209, t210⟩ : S55) )) (Reps.none _ _))); intro v212 w51 ho52 hb hg_ hnew_; clear hg_ hnew_; (first | rw [← Ny211.out] at ho52 | (simp only [Int.reduceToNat] at ho52; rw [← Ny211.out] at ho52)); have HO213 := am (Kd.R_lower ho52 (below_size (bw HB))); replace BK196 := bb BK196 hb; replace BK197 := bb BK197 hb; replace BK198 := bb BK198 hb; replace BK200 := bb BK200 hb; replace HB := bs HB hb; clear hb ho52; obtain ⟨Ao53, co53, eo53⟩ := Kd.R_slice HO213.out; subst eo53; have hnb54 := NB198_196.out; have hnc54 := NB196_198.out; have hnb55 := NB198_200.out; have hnc55 := NB200_198.out; have hcz56_0 := bk w51 BK198 0; have hcz56_1 := bk w51 BK198 1; have hcz56_2 := bk w51 BK198 2; have hcz56_3 := bk w51 BK198 3; have hcz56_4 := bk w51 BK198 4; have hfz56_0 := bf BK198 0; have hfz56_1 := bf BK198 1; have hfz56_2 := bf BK198 2; have hfz56_3 := bf BK198 3; have hfz56_4 := bf BK198 4))
   refine bodyPost_ret (results_cell_row rfl _ _ gb198 50 #[.slice none 0 0, .int .i64 1, .int .i64 (wrap64 (6 + (wrap64 (a2 - t199)))), .slice Ao53 y211.length co53, .int .i64 0] (0, 0) _ rfl (bt BK198) Try.underlying50 rfl (by kernel_rfl)) rfl ?_
   exact ⟨_, _, er, by first | exact Kd.R_nil _ _ _ _ _ | exact Kd.N_nil _ _ _ _ _ | exact Kd.V_nil _ _ _ _ _ | exact Kd.Q_nil _ _ _ _ _ | exact Kd.S_nil _ _ _ _ _, by (with_reducible repeat (first | apply Kd.R_alloc | apply Kd.R_drewN | apply Kd.R_drew)); exact Kd.R_mono (Kd.R_far (p := ⟨gb198, 4, none⟩) (Kd.R_far (p := ⟨gb198, 3, none⟩) (Kd.R_far (p := ⟨gb198, 2, none⟩) (Kd.R_far (p := ⟨gb198, 1, none⟩) (Kd.R_far (p := ⟨gb198, 0, none⟩) (Kd.R_types HO213.out BK198.out (by decide)) (fun _ hk => hk.2) (.slice none 0 0)) (fun _ hk => hk.2) (.int .i64 1)) (fun _ hk => hk.2) (.int .i64 (wrap64 (6 + (wrap64 (a2 - t199)))))) (fun _ hk => hk.2) (.slice Ao53 y211.length co53)) (fun _ hk => hk.2) (.int .i64 0)) (fun _ hk => trivial), bw HB⟩
  intro c44 c44b0 c44b1 H
  refine qE H ?_ ?_ <;> clear H
  ·intro c57b0 c57b1 H
   replace H := Option.bind_eq_some_iff.mp H
   obtain ⟨⟨t214, t215⟩, A580, H⟩ := H
   replace H : (some (([] : List (S108)), 1, wrap64 (6 + a1_1), (([(⟨t214, t215⟩ : S55)] : List (S55))), 0)) = some (r1, r2, r3, r4, r5) := H
   have A58 := am A580
   clear A580
   obtain ⟨y216, hy216⟩ : ∃ y_ : List (S55), y_ = (([(⟨t214, t215⟩ : S55)] : List (S55))) := ⟨_, rfl⟩
   replace H : (some (([] : List (S108)), 1, wrap64 (6 + a1_1), y216, 0)) = some (r1, r2, r3, r4, r5) := by first | (rw [hy216]; with_reducible exact H) | (have H2_ := (Option.bind_some _ _).symm.trans H; rw [hy216]; with_reducible exact H2_) | (have H2_ := (Option.bind_some _ _).symm.trans H; with_reducible exact H2_) | with_reducible exact H | (rw [hy216]; exact H) | exact H
   have Ny216 := am hy216
   clear hy216
   simp only [Option.some.injEq, Prod.mk.injEq] at H
   obtain ⟨rfl, rfl, rfl, rfl, rfl⟩ := H
   try go_wp2
   replace HO_201003 := am (Kd.R_drew HO_201003.out)
   replace BK196 := am (blk_drew BK196.out)
   replace BK197 := am (blk_drew BK197.out)
   replace BK198 := am (blk_drew BK198.out)
   replace BK200 := am (blk_drew BK200.out)
   replace HB := am (below_drew1 HB.out)
   refine start_ (n := 8) (S := fun w' => w'.cell? ⟨gb197, 0, none⟩ = some (.int .i64 a1_0) ∧ w'.cell? ⟨gb197, 1, none⟩ = some (.int .i64 a1_1)) (ds := []) (bv 8 0) (by kernel_rfl) rfl (by kernel_rfl) ⟨bc BK197 0, bc BK197 1⟩ (fun hHeld => ?_); refine with_tabW spec_l12Ins.tab13 spec_l12Ins.bits13 (fun HT_ HW_ => ?_)
   generalize wr.drew = w59 at HO_201003 BK196 BK197 BK198 BK200 HB hHeld ⊢
   refine pu 0 53 8 1 HT_ ?_
   refine pu 3 56 8 9 HT_ ?_
   refine tk 1 54 8 11 HT_ HW_ hHeld ?_
   refine pu 2 55 8 15 HT_ ?_
   refine on 4 (some 57) 8 31 HT_ fun K hK => ?_
   refine goes_ Try.func16 (by kernel_rfl) rfl #[.int .i64 (wrap64 (a2 - t199))] (by rfl) rfl rfl gl ?_
   with_reducible refine (spec_l12Cell.calls (wrap64 (a2 - t199)) t214 t215 _ A58.out).mono ?_
   rintro e w60 ⟨rfl, hb⟩
   refine ⟨_, rfl, ?_⟩
   replace HO_201003 := am (Kd.R_below (kR HO_201003) hb)
   replace BK196 := bb BK196 hb
   replace BK197 := bb BK197 hb
   replace BK198 := bb BK198 hb
   replace BK200 := bb BK200 hb
   replace HB := am (below_step (bw HB) hb)
   clear hb
   refine hK.out _ _ ⟨bc BK197 0, bc BK197 1⟩ (fun hHeld => ?_)
   clear hK K
   refine nm (some 57) ?_
   refine on 5 (some 58) 8 63 HT_ fun K hK => ?_
   refine Kd.R_lit_step k55 _ 55 ?hg (N := 58) ?hd (xs := ([(⟨t214, t215⟩ : S55)] : List (S55))) (inner := [.int .i64 t214, .int .i64 t215]) (ok := fun _ => True) (okp := fun _ => True) ?hr ?hp (fun _ hk => hk) trivial (Below.refl _ _) (Nat.le_refl _) (by simp) ?_; (case hd => rfl); (case hg => rfl); (case hr => exact gs); (case hp => exact (Reps.c2 (show Kd.M k55 _ _ _ (⟨t214, t215⟩ : S55) [.int .i64 t214, .int .i64 t215] from (k55_mkM _ _ _ (⟨t214, t215⟩ : S55) )) (Reps.none _ _)))
   intro v217 w61 ho62 hb hg_ hnew_
   clear hg_ hnew_
   (first | rw [← Ny216.out] at ho62 | (simp only [Int.reduceToNat] at ho62; rw [← Ny216.out] at ho62))
   have n0_ := am (Kd.R_elder' (kR HO_201003) (Kd.R_base ho62) hb)
   have n1_ := am (Kd.R_lower (Kd.R_new' ho62 (Kd.R_lt (kR HO_201003))) (below_size (bw HB)))
   have n2_ := bb BK196 hb
   have n3_ := bb BK197 hb
   have n4_ := bb BK198 hb
   have n5_ := bb BK200 hb
   have n6_ := am (below_step (bw HB) hb)
   clear HO_201003
   clear BK196
   clear BK197
   clear BK198
   clear BK200
   clear HB
   have HO_201003 := n0_
   have HO218 := n1_
   have BK196 := n2_
   have BK197 := n3_
   have BK198 := n4_
   have BK200 := n5_
   have HB := n6_
   clear n0_ n1_ n2_ n3_ n4_ n5_ n6_
   clear hb ho62
   obtain ⟨Ao63, co63, eo63⟩ := Kd.R_slice HO218.out
   (first | subst eo63 | (injection eo63 with f1_ f2_ f3_; have f4_ := f1_.symm; have f5_ := f3_.symm; clear f1_ f2_ f3_; subst f4_; subst f5_))
   refine hK.out _ _ ⟨bc BK197 0, bc BK197 1⟩ (fun hHeld => ?_)
   clear hK K
   refine nm (some 58) ?_
   refine pu 6 59 8 127 HT_ ?_
   refine on 7 none 8 255 HT_ fun K hK => ?_
   have hs64 := bk w61 BK198 0
   have hfs64 := bf BK198 0
   have hns64_0 := NB196_198.out
   have hns64_1 := NB197_198.out
   have hns64_3 := NB200_198.out
   have hms64_0 := NB198_196.out
   have hms64_1 := NB198_197.out
   have hms64_3 := NB198_200.out
   have hs65 := bk w61 BK198 1
   have hfs65 := bf BK198 1
   have hns65_0 := NB196_198.out
   have hns65_1 := NB197_198.out
   have hns65_3 := NB200_198.out
   have hms65_0 := NB198_196.out
   have hms65_1 := NB198_197.out
   have hms65_3 := NB198_200.out
   have hs66 := bk w61 BK198 2
   have hfs66 := bf BK198 2
   have hns66_0 := NB196_198.out
   have hns66_1 := NB197_198.out
   have hns66_3 := NB200_198.out
   have hms66_0 := NB198_196.out
   have hms66_1 := NB198_197.out
   have hms66_3 := NB198_200.out
   have hs67 := bk w61 BK198 3
   have hfs67 := bf BK198 3
   have hns67_0 := NB196_198.out
   have hns67_1 := NB197_198.out
   have hns67_3 := NB200_198.out
   have hms67_0 := NB198_196.out
   have hms67_1 := NB198_197.out
   have hms67_3 := NB198_200.out
   have hs68 := bk w61 BK198 4
   have hfs68 := bf BK198 4
   have hns68_0 := NB196_198.out
   have hns68_1 := NB197_198.out
   have hns68_3 := NB200_198.out
   have hms68_0 := NB198_196.out
   have hms68_1 := NB198_197.out
   have hms68_3 := NB198_200.out
   refine skip_ (w1 := ?_) (by rfl) rfl ?_ ?_
   rotate_left
   ·go_simp
    rfl
   refine hK.out _ _ ⟨((cell_far (p := ⟨gb198, _, none⟩) NB197_198.out _).trans (((cell_far (p := ⟨gb198, _, none⟩) NB197_198.out _).trans (((cell_far (p := ⟨gb198, _, none⟩) NB197_198.out _).trans (((cell_far (p := ⟨gb198, _, none⟩) NB197_198.out _).trans (((cell_far (p := ⟨gb198, _, none⟩) NB197_198.out _).trans (hHeld.1)))))))))), ((cell_far (p := ⟨gb198, _, none⟩) NB197_198.out _).trans (((cell_far (p := ⟨gb198, _, none⟩) NB197_198.out _).trans (((cell_far (p := ⟨gb198, _, none⟩) NB197_198.out _).trans (((cell_far (p := ⟨gb198, _, none⟩) NB197_198.out _).trans (((cell_far (p := ⟨gb198, _, none⟩) NB197_198.out _).trans (hHeld.2))))))))))⟩ (fun hHeld => ?_)
   clear hK K
   refine done_ (done_of HT_.out (by kernel_rfl)) ?_
   try go_wp2
   refine bodyPost_ret (results_cell_row rfl _ _ gb198 50 #[.slice none 0 0, .int .i64 1, .int .i64 (wrap64 (6 + a1_1)), .slice Ao63 y216.length co63, .int .i64 0] (0, 0) _ rfl (bt BK198) Try.underlying50 rfl (by kernel_rfl)) rfl ?_
   exact ⟨_, _, er, by first | exact Kd.R_nil _ _ _ _ _ | exact Kd.N_nil _ _ _ _ _ | exact Kd.V_nil _ _ _ _ _ | exact Kd.Q_nil _ _ _ _ _ | exact Kd.S_nil _ _ _ _ _, by (with_reducible repeat (first | apply Kd.R_alloc | apply Kd.R_drewN | apply Kd.R_drew)); exact Kd.R_mono (Kd.R_far (p := ⟨gb198, 4, none⟩) (Kd.R_far (p := ⟨gb198, 3, none⟩) (Kd.R_far (p := ⟨gb198, 2, none⟩) (Kd.R_far (p := ⟨gb198, 1, none⟩) (Kd.R_far (p := ⟨gb198, 0, none⟩) (Kd.R_types HO218.out BK198.out (by decide)) (fun _ hk => hk.2) (.slice none 0 0)) (fun _ hk => hk.2) (.int .i64 1)) (fun _ hk => hk.2) (.int .i64 (wrap64 (6 + a1_1)))) (fun _ hk => hk.2) (.slice Ao63 y216.length co63)) (fun _ hk => hk.2) (.int .i64 0)) (fun _ hk => trivial), bw HB⟩
  intro c57 c57b0 c57b1 H
  refine qE H ?_ ?_ <;> clear H
  ·intro c69b0 c69b1 H
   replace H := Option.bind_eq_some_iff.mp H
   obtain ⟨⟨t219, t220⟩, A700, H⟩ := H
   replace H : (some (([] : List (S108)), 1, wrap64 (6 + a2), (([(⟨t219, t220⟩ : S55)] : List (S55))), 0)) = some (r1, r2, r3, r4, r5) := H
   have A70 := am A700
   clear A700
   obtain ⟨y221, hy221⟩ : ∃ y_ : List (S55), y_ = (([(⟨t219, t220⟩ : S55)] : List (S55))) := ⟨_, rfl⟩
   replace H : (some (([] : List (S108)), 1, wrap64 (6 + a2), y221, 0)) = some (r1, r2, r3, r4, r5) := by first | (rw [hy221]; with_reducible exact H) | (have H2_ := (Option.bind_some _ _).symm.trans H; rw [hy221]; with_reducible exact H2_) | (have H2_ := (Option.bind_some _ _).symm.trans H; with_reducible exact H2_) | with_reducible exact H | (rw [hy221]; exact H) | exact H
   have Ny221 := am hy221
   clear hy221
   simp only [Option.some.injEq, Prod.mk.injEq] at H
   obtain ⟨rfl, rfl, rfl, rfl, rfl⟩ := H
   (try clear HO_201003)
   go_wp2_with (first | ((with_reducible refine gate_callee (f := 16) rfl ?_); refine goesL_ (some 65) rfl rfl Try.func16 (by kernel_rfl) rfl #[.int .i64 (wrap64 (a2 - t199))] rfl gl ?_; (with_reducible refine (spec_l12Cell.calls (wrap64 (a2 - t199)) t219 t220 _ A70.out).mono ?_); rintro e w71 ⟨rfl, hb⟩; refine ⟨_, rfl, ?_⟩; replace BK196 := bb BK196 hb; replace BK197 := bb BK197 hb; replace BK198 := bb BK198 hb; replace BK200 := bb BK200 hb; replace HB := bs HB hb; clear hb) | ((with_reducible refine gate_dst (N := 66) rfl ?_); refine Kd.R_lit k55 _ 55 ?hg (N := 66) ?hd (xs := ([(⟨t219, t220⟩ : S55)] : List (S55))) (inner := [.int .i64 t219, .int .i64 t220]) (ok := fun _ => True) (okp := fun _ => True) ?hr ?hp (fun _ hk => hk) trivial (Below.refl _ _) (Nat.le_refl _) (by simp) ?_; (case hd => rfl); (case hg => rfl); (case hr => exact gs); (case hp => exact (Reps.c2 (show Kd.M k55 _ _ _ (⟨t219, t220⟩ : S55) [.int .i64 t219, .int .i64 t220] from (k55_mkM _ _ _ (⟨t219, t220⟩ : S55) )) (Reps.none _ _))); intro v222 w72 ho73 hb hg_ hnew_; clear hg_ hnew_; (first | rw [← Ny221.out] at ho73 | (simp only [Int.reduceToNat] at ho73; rw [← Ny221.out] at ho73)); have HO223 := am (Kd.R_lower ho73 (below_size (bw HB))); replace BK196 := bb BK196 hb; replace BK197 := bb BK197 hb; replace BK198 := bb BK198 hb; replace BK200 := bb BK200 hb; replace HB := bs HB hb; clear hb ho73; obtain ⟨Ao74, co74, eo74⟩ := Kd.R_slice HO223.out; subst eo74; have hnb75 := NB198_196.out; have hnc75 := NB196_198.out; have hnb76 := NB198_197.out; have hnc76 := NB197_198.out; have hnb77 := NB198_200.out; have hnc77 := NB200_198.out; have hcz78_0 := bk w72 BK198 0; have hcz78_1 := bk w72 BK198 1; have hcz78_2 := bk w72 BK198 2; have hcz78_3 := bk w72 BK198 3; have hcz78_4 := bk w72 BK198 4; have hfz78_0 := bf BK198 0; have hfz78_1 := bf BK198 1; have hfz78_2 := bf BK198 2; have hfz78_3 := bf BK198 3; have hfz78_4 := bf BK198 4))
   refine bodyPost_ret (results_cell_row rfl _ _ gb198 50 #[.slice none 0 0, .int .i64 1, .int .i64 (wrap64 (6 + a2)), .slice Ao74 y221.length co74, .int .i64 0] (0, 0) _ rfl (bt BK198) Try.underlying50 rfl (by kernel_rfl)) rfl ?_
   exact ⟨_, _, er, by first | exact Kd.R_nil _ _ _ _ _ | exact Kd.N_nil _ _ _ _ _ | exact Kd.V_nil _ _ _ _ _ | exact Kd.Q_nil _ _ _ _ _ | exact Kd.S_nil _ _ _ _ _, by (with_reducible repeat (first | apply Kd.R_alloc | apply Kd.R_drewN | apply Kd.R_drew)); exact Kd.R_mono (Kd.R_far (p := ⟨gb198, 4, none⟩) (Kd.R_far (p := ⟨gb198, 3, none⟩) (Kd.R_far (p := ⟨gb198, 2, none⟩) (Kd.R_far (p := ⟨gb198, 1, none⟩) (Kd.R_far (p := ⟨gb198, 0, none⟩) (Kd.R_types HO223.out BK198.out (by decide)) (fun _ hk => hk.2) (.slice none 0 0)) (fun _ hk => hk.2) (.int .i64 1)) (fun _ hk => hk.2) (.int .i64 (wrap64 (6 + a2)))) (fun _ hk => hk.2) (.slice Ao74 y221.length co74)) (fun _ hk => hk.2) (.int .i64 0)) (fun _ hk => trivial), bw HB⟩
  intro c69 c69b0 c69b1 H
  refine qE H ?_ ?_ <;> clear H
  ·intro c79b0 c79b1 H
   simp only [Option.some.injEq, Prod.mk.injEq] at H
   obtain ⟨rfl, rfl, rfl, rfl, rfl⟩ := H
   have hnb80 := NB198_196.out
   have hnc80 := NB196_198.out
   have hnb81 := NB198_197.out
   have hnc81 := NB197_198.out
   have hnb82 := NB198_200.out
   have hnc82 := NB200_198.out
   have hcz83_0 := bk wr BK198 0
   have hcz83_1 := bk wr BK198 1
   have hcz83_2 := bk wr BK198 2
   have hcz83_3 := bk wr BK198 3
   have hcz83_4 := bk wr BK198 4
   have hfz83_0 := bf BK198 0
   have hfz83_1 := bf BK198 1
   have hfz83_2 := bf BK198 2
   have hfz83_3 := bf BK198 3
   have hfz83_4 := bf BK198 4
   go_wp2
   refine bodyPost_ret (results_cell_row rfl _ _ gb198 50 #[.slice none 0 0, .int .i64 0, .int .i64 (-1), .slice none 0 0, .int .i64 0] (0, 0) _ rfl (bt BK198) Try.underlying50 rfl (by kernel_rfl)) rfl ?_
   exact ⟨_, _, er, by first | exact Kd.R_nil _ _ _ _ _ | exact Kd.N_nil _ _ _ _ _ | exact Kd.V_nil _ _ _ _ _ | exact Kd.Q_nil _ _ _ _ _ | exact Kd.S_nil _ _ _ _ _, by first | exact Kd.R_nil _ _ _ _ _ | exact Kd.N_nil _ _ _ _ _ | exact Kd.V_nil _ _ _ _ _ | exact Kd.Q_nil _ _ _ _ _ | exact Kd.S_nil _ _ _ _ _, bw HB⟩
  intro c79 c79b0 c79b1 H
  have HC84 := am H
  clear H
  go_upto_if 71 with (fail)
  go_cut [71] (fun v71 wc => ∃ (kq : Nat) (x71_83 : Bool), v71 = .bool x71_83 ∧ Aside0 (spec_l12Ins.j1 kq (wrap64 (a2 - t199)) x71_83 a1_0 a1_1 a1_0 (-1) x201003_1 0 = some (r1, r2, r3, r4, r5)) ∧ Aside0 (kq ≤ k1) ∧ Aside0 (Kd.R k55 55 wc w.heap.size (fun _ => True) u201003 x201003_1) ∧ Aside0 (wc.heap[gb196]? = some (.cells #[(.slice A0_0 l0_0.length c0_0)] 33 (0, 0))) ∧ Aside0 (wc.heap[gb197]? = some (.cells #[.int .i64 a1_0, .int .i64 a1_1] 59 (0, 0))) ∧ Aside0 (wc.heap[gb198]? = some (.cells #[(.slice none 0 0), .int .i64 0, .int .i64 0, (.slice none 0 0), .int .i64 0] 50 (0, 0))) ∧ Aside0 (wc.heap[gb200]? = some (.cells #[(.slice none 0 0), .int .i64 a1_0, .int .i64 (-1), u201003, .int .i64 0] 50 (0, 0))) ∧ Aside0 (Below w.heap.size w wc))
  case first =>
   have H := HC84.out
   clear HC84
   refine qE H ?_ ?_ <;> clear H
   ·intro c85b0 c85b1 H
    (first | rw [c85b0] | (simp only [i64_w, i32_w]; rw [c85b0]) | skip)
    have H' := am H
    clear H
    go_wp2
    go_meet
    case rel => exact ⟨_, ((a1_0 == 30)), dr, H', ⟨lk1 HK1⟩, ⟨kR HO_201003⟩, ⟨bp BK196⟩, ⟨bp BK197⟩, ⟨bp BK198⟩, ⟨bp BK200⟩, ⟨bw HB⟩⟩
   intro c85 c85b0 c85b1 H
   (first | rw [c85b0] | (simp only [i64_w, i32_w]; rw [c85b0]) | skip)
   refine qE H ?_ ?_ <;> clear H
   ·intro c86b0 c86b1 H
    have H' := am H
    clear H
    go_wp2
    go_meet
    case rel => exact ⟨_, ((a1_0 == 31)), dr, H', ⟨lk1 HK1⟩, ⟨kR HO_201003⟩, ⟨bp BK196⟩, ⟨bp BK197⟩, ⟨bp BK198⟩, ⟨bp BK200⟩, ⟨bw HB⟩⟩
   intro c86 c86b0 c86b1 H
   have H' := am H
   clear H
   go_wp2
   go_meet
   case rel => exact ⟨_, ((a1_0 == 32)), dr, H', ⟨lk1 HK1⟩, ⟨kR HO_201003⟩, ⟨bp BK196⟩, ⟨bp BK197⟩, ⟨bp BK198⟩, ⟨bp BK200⟩, ⟨bw HB⟩⟩
  clear HC84
  (try clear c2); (try clear c4); (try clear c5); (try clear c6); (try clear c7); (try clear c20); (try clear c20b0); (try clear c22); (try clear c29); (try clear c30); (try clear c31); (try clear c33); (try clear c33b0); (try clear c33b1); (try clear c34); (try clear c35); (try clear c36); (try clear c41); (try clear c42); (try clear c44); (try clear c44b0); (try clear c44b1); (try clear c46); (try clear c47); (try clear c48); (try clear c54); (try clear c55); (try clear c57); (try clear c57b0); (try clear c57b1); (try clear p64); (try clear c69); (try clear c69b0); (try clear c69b1); (try clear c75); (try clear c76); (try clear c77); (try clear c79); (try clear c79b0); (try clear c79b1); (try clear c80); (try clear c81); (try clear c82); (try clear c85); (try clear c85b0); (try clear c85b1); (try clear c86); (try clear c86b0); (try clear c86b1); (try clear hcz32); (try clear hcz37); (try clear hcz43_0); (try clear hcz43_1); (try clear hcz43_2); (try clear hcz43_3); (try clear hcz43_4); (try clear hcz49); (try clear hcz56_0); (try clear hcz56_1); (try clear hcz56_2); (try clear hcz56_3); (try clear hcz56_4); (try clear hcz78_0); (try clear hcz78_1); (try clear hcz78_2); (try clear hcz78_3); (try clear hcz78_4); (try clear hcz83_0); (try clear hcz83_1); (try clear hcz83_2); (try clear hcz83_3); (try clear hcz83_4); (try clear hfz32); (try clear hfz37); (try clear hfz43_0); (try clear hfz43_1); (try clear hfz43_2); (try clear hfz43_3); (try clear hfz43_4); (try clear hfz49); (try clear hfz56_0); (try clear hfz56_1); (try clear hfz56_2); (try clear hfz56_3); (try clear hfz56_4); (try clear hfz78_0); (try clear hfz78_1); (try clear hfz78_2); (try clear hfz78_3); (try clear hfz78_4); (try clear hfz83_0); (try clear hfz83_1); (try clear hfz83_2); (try clear hfz83_3); (try clear hfz83_4)
  obtain ⟨kq, x71_83, rfl, HA, HJ83, HO_201003, BK196, BK197, BK198, BK200, HB⟩ := hcut
  rcases kq with _ | kj83
  ·exact absurd HA.out (by simp [spec_l12Ins.j1])
  have H := HA.out
  clear HA
  simp only [spec_l12Ins.j1] at H
  refine qT H ?_ ?_ <;> clear H <;> intro c87 H <;> subst c87
  ·have H' := am H
   clear H
   have hnb88 := NB197_196.out
   have hnc88 := NB196_197.out
   have hnb89 := NB197_198.out
   have hnc89 := NB198_197.out
   have hnb90 := NB197_200.out
   have hnc90 := NB200_197.out
   have hcz91 := bK wc BK197
   have hfz91 := bF BK197
   have hnb92 := NB200_196.out
   have hnc92 := NB196_200.out
   have hnb93 := NB200_198.out
   have hnc93 := NB198_200.out
   have hcz94_0 := bk wc BK200 0
   have hcz94_1 := bk wc BK200 1
   have hcz94_2 := bk wc BK200 2
   have hcz94_3 := bk wc BK200 3
   have hcz94_4 := bk wc BK200 4
   have hfz94_0 := bf BK200 0
   have hfz94_1 := bf BK200 1
   have hfz94_2 := bf BK200 2
   have hfz94_3 := bf BK200 3
   have hfz94_4 := bf BK200 4
   go_wp2
   go_meet
   case rel => exact ⟨_, (0), (0), (0), (a1_1), H', ⟨lk2 HK1 HJ83⟩, ⟨by (with_reducible repeat (first | apply Kd.R_alloc | apply Kd.R_drewN | apply Kd.R_drew)); exact Kd.R_mono (Kd.R_far (p := ⟨gb200, 4, none⟩) (Kd.R_types HO_201003.out BK200.out (by decide)) (fun _ hk => hk.2) (.int .i64 a1_1)) (fun _ hk => trivial)⟩, ⟨by (with_reducible repeat (first | apply dN | apply dW | apply dA)); refine blk_far ?_ NB196_200.out _; exact bp BK196⟩, ⟨by (with_reducible repeat (first | apply dN | apply dW | apply dA)); refine blk_far ?_ NB197_200.out _; exact bp BK197⟩, ⟨by (with_reducible repeat (first | apply dN | apply dW | apply dA)); refine blk_far ?_ NB198_200.out _; exact bp BK198⟩, ⟨by (with_reducible repeat (first | apply dN | apply dW | apply dA)); refine blk_put (cs := #[.slice none 0 0, .int .i64 a1_0, .int .i64 (-1), u201003, .int .i64 0]) ?_ 4 _ rfl; exact bp BK200⟩, ⟨bw HB⟩⟩
  have H' := am H
  clear H
  go_wp2
  go_meet
  case rel => exact ⟨_, (0), (0), (0), (0), H', ⟨lk2 HK1 HJ83⟩, ⟨kR HO_201003⟩, ⟨bp BK196⟩, ⟨bp BK197⟩, ⟨bp BK198⟩, ⟨bp BK200⟩, ⟨bw HB⟩⟩
 clear HC28
 (try clear c2); (try clear c4); (try clear c5); (try clear c6); (try clear c7); (try clear c20); (try clear c20b0); (try clear c22); (try clear c29); (try clear c30); (try clear c31); (try clear c33); (try clear c33b0); (try clear c33b1); (try clear c34); (try clear c35); (try clear c36); (try clear c41); (try clear c42); (try clear c44); (try clear c44b0); (try clear c44b1); (try clear c46); (try clear c47); (try clear c48); (try clear c54); (try clear c55); (try clear c57); (try clear c57b0); (try clear c57b1); (try clear p64); (try clear c69); (try clear c69b0); (try clear c69b1); (try clear c75); (try clear c76); (try clear c77); (try clear c79); (try clear c79b0); (try clear c79b1); (try clear c80); (try clear c81); (try clear c82); (try clear c85); (try clear c85b0); (try clear c85b1); (try clear c86); (try clear c86b0); (try clear c86b1); (try clear c87); (try clear c88); (try clear c89); (try clear c90); (try clear c92); (try clear c93); (try clear hcz32); (try clear hcz37); (try clear hcz43_0); (try clear hcz43_1); (try clear hcz43_2); (try clear hcz43_3); (try clear hcz43_4); (try clear hcz49); (try clear hcz56_0); (try clear hcz56_1); (try clear hcz56_2); (try clear hcz56_3); (try clear hcz56_4); (try clear hcz78_0); (try clear hcz78_1); (try clear hcz78_2); (try clear hcz78_3); (try clear hcz78_4); (try clear hcz83_0); (try clear hcz83_1); (try clear hcz83_2); (try clear hcz83_3); (try clear hcz83_4); (try clear hcz91); (try clear hcz94_0); (try clear hcz94_1); (try clear hcz94_2); (try clear hcz94_3); (try clear hcz94_4); (try clear hfz32); (try clear hfz37); (try clear hfz43_0); (try clear hfz43_1); (try clear hfz43_2); (try clear hfz43_3); (try clear hfz43_4); (try clear hfz49); (try clear hfz56_0); (try clear hfz56_1); (try clear hfz56_2); (try clear hfz56_3); (try clear hfz56_4); (try clear hfz78_0); (try clear hfz78_1); (try clear hfz78_2); (try clear hfz78_3); (try clear hfz78_4); (try clear hfz83_0); (try clear hfz83_1); (try clear hfz83_2); (try clear hfz83_3); (try clear hfz83_4); (try clear hfz91); (try clear hfz94_0); (try clear hfz94_1); (try clear hfz94_2); (try clear hfz94_3); (try clear hfz94_4); (try clear p64)
 obtain ⟨kq, x199001_27, x199002_27, x199004_27, x201004_27, HA, HJ27, HO_201003, BK196, BK197, BK198, BK200, HB⟩ := hcut
 rcases kq with _ | kj27
 ·exact absurd HA.out (by simp [spec_l12Ins.j2])
 have H := HA.out
 clear HA
 simp only [spec_l12Ins.j2] at H
 refine be H ?_; clear H; intro t224 A95 H
 have HC96 := am H
 clear H
 have hnb97 := NB197_196.out
 have hnc97 := NB196_197.out
 have hnb98 := NB197_198.out
 have hnc98 := NB198_197.out
 have hnb99 := NB197_200.out
 have hnc99 := NB200_197.out
 have hcz100 := bK wc BK197
 have hfz100 := bF BK197
 go_upto_if 80 with (first | ((with_reducible refine gate_callee (f := 33) rfl ?_); refine goesL_ (some 79) rfl rfl Try.func33 (by kernel_rfl) rfl #[.agg #[.int .i64 a1_0, .int .i64 a1_1]] rfl gl ?_; (with_reducible refine (spec_Puts.calls kj27 a1_0 a1_1 t224 _ A95.out).mono ?_); rintro e w101 ⟨rfl, hb⟩; refine ⟨_, rfl, ?_⟩; replace HO_201003 := am (Kd.R_below (kR HO_201003) hb); replace BK196 := bb BK196 hb; replace BK197 := bb BK197 hb; replace BK198 := bb BK198 hb; replace BK200 := bb BK200 hb; replace HB := bs HB hb; clear hb))
 (try simp only [Act.put, sa, sz, ss])
 have H := HC96.out
 clear HC96
 refine qG H ?_ ?_ <;> clear H <;> intro c102b0 H
 ·(first | rw [c102b0] | (simp only [i64_w, i32_w]; rw [c102b0]) | skip)
  simp only [Option.some.injEq, Prod.mk.injEq] at H
  obtain ⟨rfl, rfl, rfl, rfl, rfl⟩ := H
  have hnb103 := NB200_196.out
  have hnc103 := NB196_200.out
  have hnb104 := NB200_197.out
  have hnc104 := NB197_200.out
  have hnb105 := NB200_198.out
  have hnc105 := NB198_200.out
  have hcz106_0 := bk w101 BK200 0
  have hcz106_1 := bk w101 BK200 1
  have hcz106_2 := bk w101 BK200 2
  have hcz106_3 := bk w101 BK200 3
  have hcz106_4 := bk w101 BK200 4
  have hfz106_0 := bf BK200 0
  have hfz106_1 := bf BK200 1
  have hfz106_2 := bf BK200 2
  have hfz106_3 := bf BK200 3
  have hfz106_4 := bf BK200 4
  have hnb107 := NB198_196.out
  have hnc107 := NB196_198.out
  have hnb108 := NB198_197.out
  have hnc108 := NB197_198.out
  have hcz109_0 := bk w101 BK198 0
  have hcz109_1 := bk w101 BK198 1
  have hcz109_2 := bk w101 BK198 2
  have hcz109_3 := bk w101 BK198 3
  have hcz109_4 := bk w101 BK198 4
  have hfz109_0 := bf BK198 0
  have hfz109_1 := bf BK198 1
  have hfz109_2 := bf BK198 2
  have hfz109_3 := bf BK198 3
  have hfz109_4 := bf BK198 4
  obtain ⟨Ao110, co110, eo110⟩ := Kd.R_slice HO_201003.out
  subst eo110
  go_wp2
  refine bodyPost_ret (results_cell_row rfl _ _ gb198 50 #[.slice none 0 0, .int .i64 a1_0, .int .i64 (wrap64 (6 + (wrap64 (a2 - t199)))), .slice Ao110 x201003_1.length co110, .int .i64 x201004_27] (0, 0) _ rfl (bt BK198) Try.underlying50 rfl (by kernel_rfl)) rfl ?_
  exact ⟨_, _, er, by first | exact Kd.R_nil _ _ _ _ _ | exact Kd.N_nil _ _ _ _ _ | exact Kd.V_nil _ _ _ _ _ | exact Kd.Q_nil _ _ _ _ _ | exact Kd.S_nil _ _ _ _ _, by (with_reducible repeat (first | apply Kd.R_alloc | apply Kd.R_drewN | apply Kd.R_drew)); exact Kd.R_mono (Kd.R_far (p := ⟨gb198, 4, none⟩) (Kd.R_far (p := ⟨gb198, 3, none⟩) (Kd.R_far (p := ⟨gb198, 2, none⟩) (Kd.R_far (p := ⟨gb198, 1, none⟩) (Kd.R_far (p := ⟨gb198, 0, none⟩) (Kd.R_far (p := ⟨gb200, 2, none⟩) (Kd.R_types (Kd.R_types HO_201003.out BK200.out (by decide)) BK198.out (by decide)) (fun _ hk => hk.1.2) (.int .i64 (wrap64 (6 + (wrap64 (a2 - t199)))))) (fun _ hk => hk.2) (.slice none 0 0)) (fun _ hk => hk.2) (.int .i64 a1_0)) (fun _ hk => hk.2) (.int .i64 (wrap64 (6 + (wrap64 (a2 - t199)))))) (fun _ hk => hk.2) (.slice Ao110 x201003_1.length co110)) (fun _ hk => hk.2) (.int .i64 x201004_27)) (fun _ hk => trivial), bw HB⟩
 (first | rw [c102b0] | (simp only [i64_w, i32_w]; rw [c102b0]) | skip)
 simp only [Option.some.injEq, Prod.mk.injEq] at H
 obtain ⟨rfl, rfl, rfl, rfl, rfl⟩ := H
 have hnb111 := NB200_196.out
 have hnc111 := NB196_200.out
 have hnb112 := NB200_197.out
 have hnc112 := NB197_200.out
 have hnb113 := NB200_198.out
 have hnc113 := NB198_200.out
 have hcz114_0 := bk w101 BK200 0
 have hcz114_1 := bk w101 BK200 1
 have hcz114_2 := bk w101 BK200 2
 have hcz114_3 := bk w101 BK200 3
 have hcz114_4 := bk w101 BK200 4
 have hfz114_0 := bf BK200 0
 have hfz114_1 := bf BK200 1
 have hfz114_2 := bf BK200 2
 have hfz114_3 := bf BK200 3
 have hfz114_4 := bf BK200 4
 have hnb115 := NB198_196.out
 have hnc115 := NB196_198.out
 have hnb116 := NB198_197.out
 have hnc116 := NB197_198.out
 have hcz117_0 := bk w101 BK198 0
 have hcz117_1 := bk w101 BK198 1
 have hcz117_2 := bk w101 BK198 2
 have hcz117_3 := bk w101 BK198 3
 have hcz117_4 := bk w101 BK198 4
 have hfz117_0 := bf BK198 0
 have hfz117_1 := bf BK198 1
 have hfz117_2 := bf BK198 2
 have hfz117_3 := bf BK198 3
 have hfz117_4 := bf BK198 4
 obtain ⟨Ao118, co118, eo118⟩ := Kd.R_slice HO_201003.out
 subst eo118
 go_wp2
 refine bodyPost_ret (results_cell_row rfl _ _ gb198 50 #[.slice none 0 0, .int .i64 a1_0, .int .i64 (-1), .slice Ao118 x201003_1.length co118, .int .i64 x201004_27] (0, 0) _ rfl (bt BK198) Try.underlying50 rfl (by kernel_rfl)) rfl ?_
 exact ⟨_, _, er, by first | exact Kd.R_nil _ _ _ _ _ | exact Kd.N_nil _ _ _ _ _ | exact Kd.V_nil _ _ _ _ _ | exact Kd.Q_nil _ _ _ _ _ | exact Kd.S_nil _ _ _ _ _, by (with_reducible repeat (first | apply Kd.R_alloc | apply Kd.R_drewN | apply Kd.R_drew)); exact Kd.R_mono (Kd.R_far (p := ⟨gb198, 4, none⟩) (Kd.R_far (p := ⟨gb198, 3, none⟩) (Kd.R_far (p := ⟨gb198, 2, none⟩) (Kd.R_far (p := ⟨gb198, 1, none⟩) (Kd.R_far (p := ⟨gb198, 0, none⟩) (Kd.R_types HO_201003.out BK198.out (by decide)) (fun _ hk => hk.2) (.slice none 0 0)) (fun _ hk => hk.2) (.int .i64 a1_0)) (fun _ hk => hk.2) (.int .i64 (-1))) (fun _ hk => hk.2) (.slice Ao118 x201003_1.length co118)) (fun _ hk => hk.2) (.int .i64 x201004_27)) (fun _ hk => trivial), bw HB⟩

end Go.Proofs.Ytcdohkilplgmjaa.QFnExactPlain
