import Derived.Test.YticdldoijkdffaaCFnExactMixToldx0
import Derived.Test.YticdldoijkdffaaCFnExactMixToldx2
namespace Go.Proofs.Yticdldoijkdffaa.QFnExactMixTold
open Go.RowKit Go.Proofs.YticdldoijkdffaaW
open PrintWords PrintLast PrintMore PrintShort PrintIsh
attribute [local go_sem] max2_int min2_int max_two min_two max_three min_three max_four min_four   -- for this text's walks alone
set_option linter.unusedVariables false
set_option maxHeartbeats 8000000
set_option maxRecDepth 100000
set_option linter.unusedSimpArgs false

def spec_MixTold.l0 : Nat → Int → List (S73) → List (S75) → List (List Int) → List Int → Int → Bool → Int → Int → List (List Int) → List Int → Int → Bool → Int → Int → Option ((List (S79)) × (List (List Int)) × List Int × Int × Bool × Int × Int)
 | 0, _, _, _, _, _, _, _, _, _, _, _, _, _, _, _ => none
 | k + 1, x4, x133000, x133001, x133002, x133003, x133004, x133005, x133006, x133007, x138001, x138002, x138003, x138004, x138005, x138006 => if x4 < (x133002.length : Int) then (if 0 ≤ x4 then ((spec_l06Nums.f (rd_L10 x133002 x4)).bind fun t139 => (if x138001.length < 5864062014805 then (spec_MixTold.l0 k (wrap64 (x4 + 1)) x133000 x133001 x133002 x133003 x133004 x133005 x133006 x133007 (x138001 ++ [t139]) x138002 x138003 x138004 x138005 x138006) else (none))) else (none)) else (some (([] : List (S79)), x138001, x138002, x138003, x138004, x138005, x138006))
def spec_MixTold.f (k : Nat) (l0_0 : List (S73)) (l0_1 : List (S75)) (l0_2 : List (List Int)) (l0_3 : List Int) (a0_4 : Int) (a0_5 : Bool) (a0_6 : Int) (a0_7 : Int) : Option ((List (S79)) × (List (List Int)) × List Int × Int × Bool × Int × Int) := (spec_l06Nums.f l0_3).bind fun t134 => (spec_MixTold.l0 k 0 l0_0 l0_1 l0_2 l0_3 a0_4 a0_5 a0_6 a0_7 ([] : List (List Int)) t134 a0_4 a0_5 a0_6 a0_7)
theorem spec_MixTold.mono_l : ∀ k, (∀ y0 y1 y2 y3 y4 y5 y6 y7 y8 y9 y10 y11 y12 y13 y14, LeO (spec_MixTold.l0 k y0 y1 y2 y3 y4 y5 y6 y7 y8 y9 y10 y11 y12 y13 y14) (spec_MixTold.l0 (k + 1) y0 y1 y2 y3 y4 y5 y6 y7 y8 y9 y10 y11 y12 y13 y14))
 | 0 => fun _ _ _ _ _ _ _ _ _ _ _ _ _ _ _ r h => by simp [spec_MixTold.l0] at h
 | k + 1 => by
  have ih0 := spec_MixTold.mono_l k
  ·intro y0 y1 y2 y3 y4 y5 y6 y7 y8 y9 y10 y11 y12 y13 y14
   unfold spec_MixTold.l0
   with_reducible repeat' first | exact ih0 .. | exact LeO.refl _ | exact LeO.none _ | refine LeO.ite ?_ ?_ | refine LeO.bind ?_ (fun _ => ?_)
theorem spec_MixTold.mono : ∀ a0 a1 a2 a3 a4 a5 a6 a7 k, LeO (spec_MixTold.f k a0 a1 a2 a3 a4 a5 a6 a7) (spec_MixTold.f (k + 1) a0 a1 a2 a3 a4 a5 a6 a7) := by
 intro a0 a1 a2 a3 a4 a5 a6 a7 k
 have ih0 := spec_MixTold.mono_l k
 unfold spec_MixTold.f
 with_reducible repeat' first | exact ih0 .. | exact LeO.refl _ | exact LeO.none _ | refine LeO.ite ?_ ?_ | refine LeO.bind ?_ (fun _ => ?_)
def spec_MixTold.T1 : Bool × List (List Nat × List Nat) := (true, [([], []), ([0], [0]), ([1], [1]), ([], []), ([3], [3]), ([], []), ([5], [5]), ([], []), ([7], [7]), ([], []), ([9], [9]), ([2, 4, 6, 8, 10], [2, 4, 6, 8, 10]), ([], []), ([12, 11, 2, 0, 1, 2, 3, 4, 5, 6, 7, 8, 9, 10, 11, 12], [11, 12])])
def spec_MixTold.B1 : List Nat := [0, 1, 3, 0, 8, 0, 32, 0, 128, 0, 512, 2047, 0, 8191]
theorem spec_MixTold.tab1 : rtab .any (opsOf Try.f5 1) = spec_MixTold.T1 := by kernel_rfl
theorem spec_MixTold.bits1 : waitsOk spec_MixTold.T1.2 spec_MixTold.B1 = true := by kernel_rfl
def spec_MixTold.T5 : Bool × List (List Nat × List Nat) := (true, [([], []), ([0], [0]), ([], []), ([2], [2]), ([], []), ([3, 4], [3, 4]), ([5], [5]), ([6], [6]), ([7], [7]), ([1, 8, 7], [1, 8]), ([0, 1, 2, 3, 4, 5, 6, 7, 8, 9], []), ([10, 9, 9, 0, 1, 2, 3, 4, 5, 6, 7, 8, 9], [9, 10])])
def spec_MixTold.B5 : List Nat := [0, 1, 0, 4, 0, 28, 60, 124, 252, 511, 1023, 2047]
theorem spec_MixTold.tab5 : rtab .any (opsOf Try.f5 5) = spec_MixTold.T5 := by kernel_rfl
theorem spec_MixTold.bits5 : waitsOk spec_MixTold.T5.2 spec_MixTold.B5 = true := by kernel_rfl
theorem spec_MixTold.calls (k : Nat) (A0_0 : Option Addr) (c0_0 : Nat) (l0_0 : List (S73)) (A0_1 : Option Addr) (c0_1 : Nat) (l0_1 : List (S75)) (A0_2 : Option Addr) (c0_2 : Nat) (l0_2 : List (List Int)) (A0_3 : Option Addr) (c0_3 : Nat) (l0_3 : List Int) (a0_4 : Int) (a0_5 : Bool) (a0_6 : Int) (a0_7 : Int) (r1 : List (S79)) (r2 : List (List Int)) (r3 : List Int) (r4 : Int) (r5 : Bool) (r6 : Int) (r7 : Int) (w : World) (hr0_0 : Kd.C k73 w A0_0 l0_0.length l0_0) (hc0_0 : l0_0.length ≤ c0_0) (hr0_1 : Kd.C k75 w A0_1 l0_1.length l0_1) (hc0_1 : l0_1.length ≤ c0_1) (hr0_2 : Kd.C (Kd.slice 2 (Kd.int .i64)) w A0_2 l0_2.length l0_2) (hc0_2 : l0_2.length ≤ c0_2) (hr0_3 : Kd.C (Kd.int .i64) w A0_3 l0_3.length l0_3) (hc0_3 : l0_3.length ≤ c0_3) (h : spec_MixTold.f k l0_0 l0_1 l0_2 l0_3 a0_4 a0_5 a0_6 a0_7 = some (r1, r2, r3, r4, r5, r6, r7)) :
  Calls Try.prog 5 #[.agg #[.slice A0_0 l0_0.length c0_0, .slice A0_1 l0_1.length c0_1, .slice A0_2 l0_2.length c0_2, .slice A0_3 l0_3.length c0_3, .int .i64 a0_4, .bool a0_5, .int .i64 a0_6, .int .i64 a0_7]] w fun e w' => ∃ v0_ v1_ v2_ : Value, e = .returned (.agg #[v0_, v1_, v2_, .int .i64 r4, .bool r5, .int .i64 r6, .int .i64 r7]) ∧ Kd.S k79 79 w' w.heap.size (fun k_ => some k_ ≠ (v2_ : Value).ownBlock) v0_ r1 ∧ Kd.S (Kd.slice 2 (Kd.int .i64)) 25 w' w.heap.size (fun k_ => some k_ ≠ (v2_ : Value).ownBlock) v1_ r2 ∧ Kd.R (Kd.int .i64) 2 w' w.heap.size (fun _ => True) v2_ r3 ∧ Below w.heap.size w w' := by
 have hu36 := Try.underlying36
 have hu31 := Try.underlying31
 have HR0_0 := am hr0_0
 have HC0_0 := am hc0_0
 clear hr0_0 hc0_0
 have HR0_1 := am hr0_1
 have HC0_1 := am hc0_1
 clear hr0_1 hc0_1
 have HR0_2 := am hr0_2
 have HC0_2 := am hc0_2
 clear hr0_2 hc0_2
 have HR0_3 := am hr0_3
 have HC0_3 := am hc0_3
 clear hr0_3 hc0_3
 have HB := am (Below.refl w.heap.size w)
 have H : ((spec_l06Nums.f l0_3).bind fun t134 => (spec_MixTold.l0 k 0 l0_0 l0_1 l0_2 l0_3 a0_4 a0_5 a0_6 a0_7 ([] : List (List Int)) t134 a0_4 a0_5 a0_6 a0_7)) = some (r1, r2, r3, r4, r5, r6, r7) := h
 clear h
 refine be H ?_; clear H; intro t134 A2 H
 have H' := am H
 clear H
 go_enter Try.func5, Try.ntmps5
 try go_wp2_with (first | ((with_reducible refine gd 1 rfl ?_); refine bX 1 #[.slice A0_0 l0_0.length c0_0, .slice A0_1 l0_1.length c0_1, .slice A0_2 l0_2.length c0_2, .slice A0_3 l0_3.length c0_3, .int .i64 a0_4, .bool a0_5, .int .i64 a0_6, .int .i64 a0_7] 36 HB ?_; clear HB; intro gb132 w3 hg hb BK132 GW132 HB; clear hb hg) | ((with_reducible refine gd 2 rfl ?_); refine bX 2 #[.slice none 0 0, .slice none 0 0, .slice none 0 0, .int .i64 0, .bool false, .int .i64 0, .int .i64 0] 31 HB ?_; clear HB; intro gb133 w4 hg hb BK133 GW133 HB; obtain ⟨NB132_133, NB133_132, BK132⟩ := b3 hg BK132 hb; clear hb hg))
 replace BK132 := am (blk_drew BK132.out)
 replace BK133 := am (blk_drew BK133.out)
 replace HB := am (below_drew1 HB.out)
 refine start_ (n := 14) (S := fun w' => w'.cell? ⟨gb132, 0, none⟩ = some (.slice A0_0 l0_0.length c0_0) ∧ w'.cell? ⟨gb132, 1, none⟩ = some (.slice A0_1 l0_1.length c0_1) ∧ w'.cell? ⟨gb132, 2, none⟩ = some (.slice A0_2 l0_2.length c0_2) ∧ w'.cell? ⟨gb132, 3, none⟩ = some (.slice A0_3 l0_3.length c0_3) ∧ w'.cell? ⟨gb132, 4, none⟩ = some (.int .i64 a0_4) ∧ w'.cell? ⟨gb132, 5, none⟩ = some (.bool a0_5) ∧ w'.cell? ⟨gb132, 6, none⟩ = some (.int .i64 a0_6) ∧ w'.cell? ⟨gb132, 7, none⟩ = some (.int .i64 a0_7)) (ds := []) (bv 14 0) (by kernel_rfl) rfl (by kernel_rfl) ⟨bc BK132 0, bc BK132 1, bc BK132 2, bc BK132 3, bc BK132 4, bc BK132 5, bc BK132 6, bc BK132 7⟩ (fun hHeld => ?_); refine with_tabW spec_MixTold.tab1 spec_MixTold.bits1 (fun HT_ HW_ => ?_)
 generalize w4.drew = w5 at BK132 BK133 HB hHeld ⊢
 refine pu 0 5 14 1 HT_ ?_
 refine pu 3 8 14 9 HT_ ?_
 refine pu 5 10 14 41 HT_ ?_
 refine pu 7 12 14 169 HT_ ?_
 refine pu 9 14 14 681 HT_ ?_
 refine tk 1 6 14 683 HT_ HW_ hHeld ?_
 refine tk 4 9 14 699 HT_ HW_ hHeld ?_
 refine tk 6 11 14 763 HT_ HW_ hHeld ?_
 refine tk 8 13 14 1019 HT_ HW_ hHeld ?_
 refine tk 10 15 14 2043 HT_ HW_ hHeld ?_
 refine join_ (σ := Value × Nat) 1 (bv 14 8191) (fun s_ => [(7, s_.1), (3, .pointer (some ⟨s_.2, 0, none⟩)), (16, .agg #[.slice none 0 0, .slice none 0 0, s_.1, .int .i64 a0_4, .bool a0_5, .int .i64 a0_6, .int .i64 a0_7])]) (fun s_ w' => (w'.cell? ⟨gb132, 0, none⟩ = some (.slice A0_0 l0_0.length c0_0) ∧ w'.cell? ⟨gb132, 1, none⟩ = some (.slice A0_1 l0_1.length c0_1) ∧ w'.cell? ⟨gb132, 2, none⟩ = some (.slice A0_2 l0_2.length c0_2) ∧ w'.cell? ⟨gb132, 3, none⟩ = some (.slice A0_3 l0_3.length c0_3) ∧ w'.cell? ⟨gb132, 4, none⟩ = some (.int .i64 a0_4) ∧ w'.cell? ⟨gb132, 5, none⟩ = some (.bool a0_5) ∧ w'.cell? ⟨gb132, 6, none⟩ = some (.int .i64 a0_6) ∧ w'.cell? ⟨gb132, 7, none⟩ = some (.int .i64 a0_7)) ∧ (Kd.R (Kd.int .i64) 2 w' w.heap.size (fun _ => True) s_.1 t134) ∧ (w'.heap[gb132]? = some (.cells #[.slice A0_0 l0_0.length c0_0, .slice A0_1 l0_1.length c0_1, .slice A0_2 l0_2.length c0_2, .slice A0_3 l0_3.length c0_3, .int .i64 a0_4, .bool a0_5, .int .i64 a0_6, .int .i64 a0_7] 36 (0, 0))) ∧ (w'.heap[gb133]? = some (.cells #[.slice none 0 0, .slice none 0 0, .slice none 0 0, .int .i64 0, .bool false, .int .i64 0, .int .i64 0] 31 (0, 0))) ∧ (w'.heap[s_.2]? = some (.cells #[.slice none 0 0, .slice none 0 0, .slice none 0 0, .int .i64 0, .bool false, .int .i64 0, .int .i64 0] 31 (0, 0))) ∧ (w.heap.size ≤ s_.2) ∧ (w.heap.size ≤ s_.2) ∧ (gb132 ≠ s_.2) ∧ (s_.2 ≠ gb132) ∧ (gb133 ≠ s_.2) ∧ (s_.2 ≠ gb133) ∧ (Below w.heap.size w w')) ?_ ?_
 rotate_left
 ·intro hCont
  refine two_ (i := 2) (j := 12) (Ni := some 7) (Nj := some 3) (bv 14 2047) (bv 14 6139) rfl rfl rfl rfl (two_of HT_.out (by kernel_rfl)) (by decide) (by decide) (fun K hK => ?_) (fun K hK => ?_)
  ·skip
   refine goes_ Try.func17 (by kernel_rfl) rfl #[.slice A0_3 l0_3.length c0_3] (by rfl) rfl rfl gl ?_
   with_reducible refine (spec_l06Nums.calls _ _ l0_3 t134 _ ?side1 ?side2 A2.out).mono ?_
   (case side1 => exact cc (Kd.C_below HR0_3.out HB.out))
   (case side2 => exact HC0_3.out)
   rintro e w6 ⟨v135, rfl, ho0, hb⟩
   refine ⟨_, rfl, ?_⟩
   have n0_ := am (Kd.R_lower ho0 (below_size (bw HB)))
   have n1_ := bb BK132 hb
   have n2_ := bb BK133 hb
   have n3_ := am (below_step (bw HB) hb)
   clear BK132
   clear BK133
   clear HB
   have HO136 := n0_
   have BK132 := n1_
   have BK133 := n2_
   have HB := n3_
   clear n0_ n1_ n2_ n3_
   clear hb
   (try clear ho0)
   obtain ⟨Ao7, co7, eo7⟩ := Kd.R_slice HO136.out
   (first | subst eo7 | (injection eo7 with f1_ f2_ f3_; have f4_ := f1_.symm; have f5_ := f3_.symm; clear f1_ f2_ f3_; subst f4_; subst f5_))
   refine hK.out _ _ ⟨bc BK132 0, bc BK132 1, bc BK132 2, bc BK132 3, bc BK132 4, bc BK132 5, bc BK132 6, bc BK132 7⟩ (fun hHeld => ?_)
   clear hK K
   refine nm (some 7) ?_
   refine pu 11 16 14 4095 HT_ ?_
   refine on 12 (some 3) 14 8191 HT_ fun K hK => ?_
   refine box_step ?hg (N := 3) ?hd (cs := #[.slice none 0 0, .slice none 0 0, .slice none 0 0, .int .i64 0, .bool false, .int .i64 0, .int .i64 0]) (t := 31) ?hr ?_; (case hd => rfl); (case hg => rfl); (case hr => exact gs)
   intro gb137 hg w8 hbox hb
   have n0_ := am (Kd.R_below (kR HO136) hb)
   have n1_ := bb BK132 hb
   have n2_ := bb BK133 hb
   have n3_ := am (below_step (bw HB) hb)
   have n4_ := am (hbox)
   have n5_ := gw hg HB
   have n6_ := gw hg HB
   have n7_ := am ((by rw [hg]; exact Nat.ne_of_lt (blk_lt (g := gb132) (o := .cells #[.slice A0_0 l0_0.length c0_0, .slice A0_1 l0_1.length c0_1, .slice A0_2 l0_2.length c0_2, .slice A0_3 l0_3.length c0_3, .int .i64 a0_4, .bool a0_5, .int .i64 a0_6, .int .i64 a0_7] 36 (0, 0)) (bp BK132)) : gb132 ≠ gb137))
   have n8_ := am ((by rw [hg]; exact Nat.ne_of_gt (blk_lt (g := gb132) (o := .cells #[.slice A0_0 l0_0.length c0_0, .slice A0_1 l0_1.length c0_1, .slice A0_2 l0_2.length c0_2, .slice A0_3 l0_3.length c0_3, .int .i64 a0_4, .bool a0_5, .int .i64 a0_6, .int .i64 a0_7] 36 (0, 0)) (bp BK132)) : gb137 ≠ gb132))
   have n9_ := am ((by rw [hg]; exact Nat.ne_of_lt (blk_lt (g := gb133) (o := .cells #[.slice none 0 0, .slice none 0 0, .slice none 0 0, .int .i64 0, .bool false, .int .i64 0, .int .i64 0] 31 (0, 0)) (bp BK133)) : gb133 ≠ gb137))
   have n10_ := am ((by rw [hg]; exact Nat.ne_of_gt (blk_lt (g := gb133) (o := .cells #[.slice none 0 0, .slice none 0 0, .slice none 0 0, .int .i64 0, .bool false, .int .i64 0, .int .i64 0] 31 (0, 0)) (bp BK133)) : gb137 ≠ gb133))
   clear HO136
   clear BK132
   clear BK133
   clear HB
   have HO136 := n0_
   have BK132 := n1_
   have BK133 := n2_
   have HB := n3_
   have BK137 := n4_
   have GW137 := n5_
   have GE137 := n6_
   have NB132_137 := n7_
   have NB137_132 := n8_
   have NB133_137 := n9_
   have NB137_133 := n10_
   clear n0_ n1_ n2_ n3_ n4_ n5_ n6_ n7_ n8_ n9_ n10_
   clear hb hbox hg
   refine hK.out _ _ ⟨bc BK132 0, bc BK132 1, bc BK132 2, bc BK132 3, bc BK132 4, bc BK132 5, bc BK132 6, bc BK132 7⟩ (fun hHeld => ?_)
   clear hK K
   refine nm (some 3) ?_
   exact norm_ (by simp only [putAll, Act.put, sa, sz, ss]) (hCont (.slice Ao7 t134.length co7, gb137) _ ⟨hHeld, (kR HO136), (bp BK132), (bp BK133), (bp BK137), GW137.out, GE137.out, NB132_137.out, NB137_132.out, NB133_137.out, NB137_133.out, (bw HB)⟩)
  skip
  refine box_step ?hg (N := 3) ?hd (cs := #[.slice none 0 0, .slice none 0 0, .slice none 0 0, .int .i64 0, .bool false, .int .i64 0, .int .i64 0]) (t := 31) ?hr ?_; (case hd => rfl); (case hg => rfl); (case hr => exact gs)
  intro gb137 hg w6 hbox hb
  have n0_ := bb BK132 hb
  have n1_ := bb BK133 hb
  have n2_ := am (below_step (bw HB) hb)
  have n3_ := am (hbox)
  have n4_ := gw hg HB
  have n5_ := gw hg HB
  have n6_ := am ((by rw [hg]; exact Nat.ne_of_lt (blk_lt (g := gb132) (o := .cells #[.slice A0_0 l0_0.length c0_0, .slice A0_1 l0_1.length c0_1, .slice A0_2 l0_2.length c0_2, .slice A0_3 l0_3.length c0_3, .int .i64 a0_4, .bool a0_5, .int .i64 a0_6, .int .i64 a0_7] 36 (0, 0)) (bp BK132)) : gb132 ≠ gb137))
  have n7_ := am ((by rw [hg]; exact Nat.ne_of_gt (blk_lt (g := gb132) (o := .cells #[.slice A0_0 l0_0.length c0_0, .slice A0_1 l0_1.length c0_1, .slice A0_2 l0_2.length c0_2, .slice A0_3 l0_3.length c0_3, .int .i64 a0_4, .bool a0_5, .int .i64 a0_6, .int .i64 a0_7] 36 (0, 0)) (bp BK132)) : gb137 ≠ gb132))
  have n8_ := am ((by rw [hg]; exact Nat.ne_of_lt (blk_lt (g := gb133) (o := .cells #[.slice none 0 0, .slice none 0 0, .slice none 0 0, .int .i64 0, .bool false, .int .i64 0, .int .i64 0] 31 (0, 0)) (bp BK133)) : gb133 ≠ gb137))
  have n9_ := am ((by rw [hg]; exact Nat.ne_of_gt (blk_lt (g := gb133) (o := .cells #[.slice none 0 0, .slice none 0 0, .slice none 0 0, .int .i64 0, .bool false, .int .i64 0, .int .i64 0] 31 (0, 0)) (bp BK133)) : gb137 ≠ gb133))
  clear BK132
  clear BK133
  clear HB
  have BK132 := n0_
  have BK133 := n1_
  have HB := n2_
  have BK137 := n3_
  have GW137 := n4_
  have GE137 := n5_
  have NB132_137 := n6_
  have NB137_132 := n7_
  have NB133_137 := n8_
  have NB137_133 := n9_
  clear n0_ n1_ n2_ n3_ n4_ n5_ n6_ n7_ n8_ n9_
  clear hb hbox hg
  refine hK.out _ _ ⟨bc BK132 0, bc BK132 1, bc BK132 2, bc BK132 3, bc BK132 4, bc BK132 5, bc BK132 6, bc BK132 7⟩ (fun hHeld => ?_)
  clear hK K
  refine nm (some 3) ?_
  refine on 2 (some 7) 14 6143 HT_ fun K hK => ?_
  refine goes_ Try.func17 (by kernel_rfl) rfl #[.slice A0_3 l0_3.length c0_3] (by rfl) rfl rfl gl ?_
  with_reducible refine (spec_l06Nums.calls _ _ l0_3 t134 _ ?side1 ?side2 A2.out).mono ?_
  (case side1 => exact cc (Kd.C_below HR0_3.out HB.out))
  (case side2 => exact HC0_3.out)
  rintro e w7 ⟨v135, rfl, ho0, hb⟩
  refine ⟨_, rfl, ?_⟩
  have n0_ := am (Kd.R_lower ho0 (below_size (bw HB)))
  have n1_ := bb BK132 hb
  have n2_ := bb BK133 hb
  have n3_ := bb BK137 hb
  have n4_ := am (below_step (bw HB) hb)
  clear BK132
  clear BK133
  clear BK137
  clear HB
  have HO136 := n0_
  have BK132 := n1_
  have BK133 := n2_
  have BK137 := n3_
  have HB := n4_
  clear n0_ n1_ n2_ n3_ n4_
  clear hb
  (try clear ho0)
  obtain ⟨Ao8, co8, eo8⟩ := Kd.R_slice HO136.out
  (first | subst eo8 | (injection eo8 with f1_ f2_ f3_; have f4_ := f1_.symm; have f5_ := f3_.symm; clear f1_ f2_ f3_; subst f4_; subst f5_))
  refine hK.out _ _ ⟨bc BK132 0, bc BK132 1, bc BK132 2, bc BK132 3, bc BK132 4, bc BK132 5, bc BK132 6, bc BK132 7⟩ (fun hHeld => ?_)
  clear hK K
  refine nm (some 7) ?_
  refine pu 11 16 14 8191 HT_ ?_
  exact norm_ (by simp only [putAll, Act.put, sa, sz, ss]) (hCont (.slice Ao8 t134.length co8, gb137) _ ⟨hHeld, (kR HO136), (bp BK132), (bp BK133), (bp BK137), GW137.out, GE137.out, NB132_137.out, NB137_132.out, NB133_137.out, NB137_133.out, (bw HB)⟩)
 rintro ⟨v135, gb137⟩ w9 ⟨hS_, h0_, h1_, h2_, h3_, h4_, h5_, h6_, h7_, h8_, h9_, h10_⟩
 have n0_ : Aside0 (Kd.R (Kd.int .i64) 2 w9 w.heap.size (fun _ => True) v135 t134) := ⟨h0_⟩
 have n1_ : Aside0 (w9.heap[gb132]? = some (.cells #[.slice A0_0 l0_0.length c0_0, .slice A0_1 l0_1.length c0_1, .slice A0_2 l0_2.length c0_2, .slice A0_3 l0_3.length c0_3, .int .i64 a0_4, .bool a0_5, .int .i64 a0_6, .int .i64 a0_7] 36 (0, 0))) := ⟨h1_⟩
 have n2_ : Aside0 (w9.heap[gb133]? = some (.cells #[.slice none 0 0, .slice none 0 0, .slice none 0 0, .int .i64 0, .bool false, .int .i64 0, .int .i64 0] 31 (0, 0))) := ⟨h2_⟩
 have n3_ : Aside0 (w9.heap[gb137]? = some (.cells #[.slice none 0 0, .slice none 0 0, .slice none 0 0, .int .i64 0, .bool false, .int .i64 0, .int .i64 0] 31 (0, 0))) := ⟨h3_⟩
 have n4_ : Aside0 (w.heap.size ≤ gb137) := ⟨h4_⟩
 have n5_ : Aside0 (w.heap.size ≤ gb137) := ⟨h5_⟩
 have n6_ : Aside0 (gb132 ≠ gb137) := ⟨h6_⟩
 have n7_ : Aside0 (gb137 ≠ gb132) := ⟨h7_⟩
 have n8_ : Aside0 (gb133 ≠ gb137) := ⟨h8_⟩
 have n9_ : Aside0 (gb137 ≠ gb133) := ⟨h9_⟩
 have n10_ : Aside0 (Below w.heap.size w w9) := ⟨h10_⟩
 clear BK132
 clear BK133
 clear HB
 clear h0_ h1_ h2_ h3_ h4_ h5_ h6_ h7_ h8_ h9_ h10_
 have HO136 := n0_
 have BK132 := n1_
 have BK133 := n2_
 have BK137 := n3_
 have GW137 := n4_
 have GE137 := n5_
 have NB132_137 := n6_
 have NB137_132 := n7_
 have NB133_137 := n8_
 have NB137_133 := n9_
 have HB := n10_
 clear n0_ n1_ n2_ n3_ n4_ n5_ n6_ n7_ n8_ n9_ n10_
 have hHeld : w9.cell? ⟨gb132, 0, none⟩ = some (.slice A0_0 l0_0.length c0_0) ∧ w9.cell? ⟨gb132, 1, none⟩ = some (.slice A0_1 l0_1.length c0_1) ∧ w9.cell? ⟨gb132, 2, none⟩ = some (.slice A0_2 l0_2.length c0_2) ∧ w9.cell? ⟨gb132, 3, none⟩ = some (.slice A0_3 l0_3.length c0_3) ∧ w9.cell? ⟨gb132, 4, none⟩ = some (.int .i64 a0_4) ∧ w9.cell? ⟨gb132, 5, none⟩ = some (.bool a0_5) ∧ w9.cell? ⟨gb132, 6, none⟩ = some (.int .i64 a0_6) ∧ w9.cell? ⟨gb132, 7, none⟩ = some (.int .i64 a0_7) := hS_
 obtain ⟨Ao10, co10, eo10⟩ := Kd.R_slice HO136.out
 (first | subst eo10 | (injection eo10 with f1_ f2_ f3_; have f4_ := f1_.symm; have f5_ := f3_.symm; clear f1_ f2_ f3_; subst f4_; subst f5_))
 refine norm_ (a' := ?_) ?_ ?_
 rotate_left
 ·simp only [putAll, Act.put, sa, sz, ss]
  rfl
 refine on 13 none 14 16383 HT_ fun K hK => ?_
 have hs11 := bk w9 BK137 0
 have hfs11 := bf BK137 0
 have hns11_0 := NB132_137.out
 have hns11_1 := NB133_137.out
 have hms11_0 := NB137_132.out
 have hms11_1 := NB137_133.out
 have hs12 := bk w9 BK137 1
 have hfs12 := bf BK137 1
 have hns12_0 := NB132_137.out
 have hns12_1 := NB133_137.out
 have hms12_0 := NB137_132.out
 have hms12_1 := NB137_133.out
 have hs13 := bk w9 BK137 2
 have hfs13 := bf BK137 2
 have hns13_0 := NB132_137.out
 have hns13_1 := NB133_137.out
 have hms13_0 := NB137_132.out
 have hms13_1 := NB137_133.out
 have hs14 := bk w9 BK137 3
 have hfs14 := bf BK137 3
 have hns14_0 := NB132_137.out
 have hns14_1 := NB133_137.out
 have hms14_0 := NB137_132.out
 have hms14_1 := NB137_133.out
 have hs15 := bk w9 BK137 4
 have hfs15 := bf BK137 4
 have hns15_0 := NB132_137.out
 have hns15_1 := NB133_137.out
 have hms15_0 := NB137_132.out
 have hms15_1 := NB137_133.out
 have hs16 := bk w9 BK137 5
 have hfs16 := bf BK137 5
 have hns16_0 := NB132_137.out
 have hns16_1 := NB133_137.out
 have hms16_0 := NB137_132.out
 have hms16_1 := NB137_133.out
 have hs17 := bk w9 BK137 6
 have hfs17 := bf BK137 6
 have hns17_0 := NB132_137.out
 have hns17_1 := NB133_137.out
 have hms17_0 := NB137_132.out
 have hms17_1 := NB137_133.out
 refine skip_ (w1 := ?_) (by rfl) rfl ?_ ?_
 rotate_left
 ·go_simp
  rfl
 refine hK.out _ _ ⟨((cell_far (p := ⟨gb137, _, none⟩) NB132_137.out _).trans (((cell_far (p := ⟨gb137, _, none⟩) NB132_137.out _).trans (((cell_far (p := ⟨gb137, _, none⟩) NB132_137.out _).trans (((cell_far (p := ⟨gb137, _, none⟩) NB132_137.out _).trans (((cell_far (p := ⟨gb137, _, none⟩) NB132_137.out _).trans (((cell_far (p := ⟨gb137, _, none⟩) NB132_137.out _).trans (((cell_far (p := ⟨gb137, _, none⟩) NB132_137.out _).trans (hHeld.1)))))))))))))), ((cell_far (p := ⟨gb137, _, none⟩) NB132_137.out _).trans (((cell_far (p := ⟨gb137, _, none⟩) NB132_137.out _).trans (((cell_far (p := ⟨gb137, _, none⟩) NB132_137.out _).trans (((cell_far (p := ⟨gb137, _, none⟩) NB132_137.out _).trans (((cell_far (p := ⟨gb137, _, none⟩) NB132_137.out _).trans (((cell_far (p := ⟨gb137, _, none⟩) NB132_137.out _).trans (((cell_far (p := ⟨gb137, _, none⟩) NB132_137.out _).trans (hHeld.2.1)))))))))))))), ((cell_far (p := ⟨gb137, _, none⟩) NB132_137.out _).trans (((cell_far (p := ⟨gb137, _, none⟩) NB132_137.out _).trans (((cell_far (p := ⟨gb137, _, none⟩) NB132_137.out _).trans (((cell_far (p := ⟨gb137, _, none⟩) NB132_137.out _).trans (((cell_far (p := ⟨gb137, _, none⟩) NB132_137.out _).trans (((cell_far (p := ⟨gb137, _, none⟩) NB132_137.out _).trans (((cell_far (p := ⟨gb137, _, none⟩) NB132_137.out _).trans (hHeld.2.2.1)))))))))))))), ((cell_far (p := ⟨gb137, _, none⟩) NB132_137.out _).trans (((cell_far (p := ⟨gb137, _, none⟩) NB132_137.out _).trans (((cell_far (p := ⟨gb137, _, none⟩) NB132_137.out _).trans (((cell_far (p := ⟨gb137, _, none⟩) NB132_137.out _).trans (((cell_far (p := ⟨gb137, _, none⟩) NB132_137.out _).trans (((cell_far (p := ⟨gb137, _, none⟩) NB132_137.out _).trans (((cell_far (p := ⟨gb137, _, none⟩) NB132_137.out _).trans (hHeld.2.2.2.1)))))))))))))), ((cell_far (p := ⟨gb137, _, none⟩) NB132_137.out _).trans (((cell_far (p := ⟨gb137, _, none⟩) NB132_137.out _).trans (((cell_far (p := ⟨gb137, _, none⟩) NB132_137.out _).trans (((cell_far (p := ⟨gb137, _, none⟩) NB132_137.out _).trans (((cell_far (p := ⟨gb137, _, none⟩) NB132_137.out _).trans (((cell_far (p := ⟨gb137, _, none⟩) NB132_137.out _).trans (((cell_far (p := ⟨gb137, _, none⟩) NB132_137.out _).trans (hHeld.2.2.2.2.1)))))))))))))), ((cell_far (p := ⟨gb137, _, none⟩) NB132_137.out _).trans (((cell_far (p := ⟨gb137, _, none⟩) NB132_137.out _).trans (((cell_far (p := ⟨gb137, _, none⟩) NB132_137.out _).trans (((cell_far (p := ⟨gb137, _, none⟩) NB132_137.out _).trans (((cell_far (p := ⟨gb137, _, none⟩) NB132_137.out _).trans (((cell_far (p := ⟨gb137, _, none⟩) NB132_137.out _).trans (((cell_far (p := ⟨gb137, _, none⟩) NB132_137.out _).trans (hHeld.2.2.2.2.2.1)))))))))))))), ((cell_far (p := ⟨gb137, _, none⟩) NB132_137.out _).trans (((cell_far (p := ⟨gb137, _, none⟩) NB132_137.out _).trans (((cell_far (p := ⟨gb137, _, none⟩) NB132_137.out _).trans (((cell_far (p := ⟨gb137, _, none⟩) NB132_137.out _).trans (((cell_far (p := ⟨gb137, _, none⟩) NB132_137.out _).trans (((cell_far (p := ⟨gb137, _, none⟩) NB132_137.out _).trans (((cell_far (p := ⟨gb137, _, none⟩) NB132_137.out _).trans (hHeld.2.2.2.2.2.2.1)))))))))))))), ((cell_far (p := ⟨gb137, _, none⟩) NB132_137.out _).trans (((cell_far (p := ⟨gb137, _, none⟩) NB132_137.out _).trans (((cell_far (p := ⟨gb137, _, none⟩) NB132_137.out _).trans (((cell_far (p := ⟨gb137, _, none⟩) NB132_137.out _).trans (((cell_far (p := ⟨gb137, _, none⟩) NB132_137.out _).trans (((cell_far (p := ⟨gb137, _, none⟩) NB132_137.out _).trans (((cell_far (p := ⟨gb137, _, none⟩) NB132_137.out _).trans (hHeld.2.2.2.2.2.2.2))))))))))))))⟩ (fun hHeld => ?_)
 clear hK K
 refine done_ (done_of HT_.out (by kernel_rfl)) ?_
 try go_wp2
 go_loopg [4] k (fun kq v4 w' => ∃ (x4_1 : Int) (x138001_1 : List (List Int)) (u138001 : Value), v4 = .int .i64 x4_1 ∧ Aside0 (spec_MixTold.l0 kq x4_1 l0_0 l0_1 l0_2 l0_3 a0_4 a0_5 a0_6 a0_7 x138001_1 t134 a0_4 a0_5 a0_6 a0_7 = some (r1, r2, r3, r4, r5, r6, r7)) ∧ Aside0 (kq ≤ k) ∧ Aside0 (Kd.S (Kd.slice 2 (Kd.int .i64)) 25 w' w.heap.size (fun k_ => some k_ ≠ ((.slice Ao10 t134.length co10) : Value).ownBlock) u138001 x138001_1) ∧ Aside0 (Kd.R (Kd.int .i64) 2 w' w.heap.size (fun _ => True) (.slice Ao10 t134.length co10) t134) ∧ Aside0 (w'.heap[gb132]? = some (.cells #[(.slice A0_0 l0_0.length c0_0), (.slice A0_1 l0_1.length c0_1), (.slice A0_2 l0_2.length c0_2), (.slice A0_3 l0_3.length c0_3), .int .i64 a0_4, .bool a0_5, .int .i64 a0_6, .int .i64 a0_7] 36 (0, 0))) ∧ Aside0 (w'.heap[gb133]? = some (.cells #[(.slice none 0 0), (.slice none 0 0), (.slice none 0 0), .int .i64 0, .bool false, .int .i64 0, .int .i64 0] 31 (0, 0))) ∧ Aside0 (w'.heap[gb137]? = some (.cells #[(.slice none 0 0), u138001, (.slice Ao10 t134.length co10), .int .i64 a0_4, .bool a0_5, .int .i64 a0_6, .int .i64 a0_7] 31 (0, 0))) ∧ Aside0 (Below w.heap.size w w'))
 case atStart => exact ⟨(0), (([] : List (List Int))), (.slice none 0 0), dr, H', ⟨Nat.le_refl _⟩, ⟨by first | exact Kd.S_nil _ _ _ _ _ | exact Kd.N_nil _ _ _ _ _ | exact Kd.V_nil _ _ _ _ _ | exact Kd.Q_nil _ _ _ _ _ | exact Kd.R_nil _ _ _ _ _⟩, ⟨by (with_reducible repeat (first | apply Kd.R_alloc | apply Kd.R_drewN | apply Kd.R_drew)); exact Kd.R_mono (Kd.R_far (p := ⟨gb137, 6, none⟩) (Kd.R_far (p := ⟨gb137, 5, none⟩) (Kd.R_far (p := ⟨gb137, 4, none⟩) (Kd.R_far (p := ⟨gb137, 3, none⟩) (Kd.R_far (p := ⟨gb137, 2, none⟩) (Kd.R_far (p := ⟨gb137, 1, none⟩) (Kd.R_far (p := ⟨gb137, 0, none⟩) (Kd.R_types HO136.out BK137.out (by decide)) (fun _ hk => hk.2) (.slice none 0 0)) (fun _ hk => hk.2) (.slice none 0 0)) (fun _ hk => hk.2) (.slice Ao10 t134.length co10)) (fun _ hk => hk.2) (.int .i64 a0_4)) (fun _ hk => hk.2) (.bool a0_5)) (fun _ hk => hk.2) (.int .i64 a0_6)) (fun _ hk => hk.2) (.int .i64 a0_7)) (fun _ hk => trivial)⟩, ⟨by (with_reducible repeat (first | apply dN | apply dW | apply dA)); refine blk_far ?_ NB132_137.out _; (with_reducible repeat (first | apply dN | apply dW | apply dA)); refine blk_far ?_ NB132_137.out _; (with_reducible repeat (first | apply dN | apply dW | apply dA)); refine blk_far ?_ NB132_137.out _; (with_reducible repeat (first | apply dN | apply dW | apply dA)); refine blk_far ?_ NB132_137.out _; (with_reducible repeat (first | apply dN | apply dW | apply dA)); refine blk_far ?_ NB132_137.out _; (with_reducible repeat (first | apply dN | apply dW | apply dA)); refine blk_far ?_ NB132_137.out _; (with_reducible repeat (first | apply dN | apply dW | apply dA)); refine blk_far ?_ NB132_137.out _; exact bp BK132⟩, ⟨by (with_reducible repeat (first | apply dN | apply dW | apply dA)); refine blk_far ?_ NB133_137.out _; (with_reducible repeat (first | apply dN | apply dW | apply dA)); refine blk_far ?_ NB133_137.out _; (with_reducible repeat (first | apply dN | apply dW | apply dA)); refine blk_far ?_ NB133_137.out _; (with_reducible repeat (first | apply dN | apply dW | apply dA)); refine blk_far ?_ NB133_137.out _; (with_reducible repeat (first | apply dN | apply dW | apply dA)); refine blk_far ?_ NB133_137.out _; (with_reducible repeat (first | apply dN | apply dW | apply dA)); refine blk_far ?_ NB133_137.out _; (with_reducible repeat (first | apply dN | apply dW | apply dA)); refine blk_far ?_ NB133_137.out _; exact bp BK133⟩, ⟨by (with_reducible repeat (first | apply dN | apply dW | apply dA)); refine blk_put (cs := #[.slice none 0 0, .slice none 0 0, .slice Ao10 t134.length co10, .int .i64 a0_4, .bool a0_5, .int .i64 a0_6, .int .i64 0]) ?_ 6 _ rfl; (with_reducible repeat (first | apply dN | apply dW | apply dA)); refine blk_put (cs := #[.slice none 0 0, .slice none 0 0, .slice Ao10 t134.length co10, .int .i64 a0_4, .bool a0_5, .int .i64 0, .int .i64 0]) ?_ 5 _ rfl; (with_reducible repeat (first | apply dN | apply dW | apply dA)); refine blk_put (cs := #[.slice none 0 0, .slice none 0 0, .slice Ao10 t134.length co10, .int .i64 a0_4, .bool false, .int .i64 0, .int .i64 0]) ?_ 4 _ rfl; (with_reducible repeat (first | apply dN | apply dW | apply dA)); refine blk_put (cs := #[.slice none 0 0, .slice none 0 0, .slice Ao10 t134.length co10, .int .i64 0, .bool false, .int .i64 0, .int .i64 0]) ?_ 3 _ rfl; (with_reducible repeat (first | apply dN | apply dW | apply dA)); refine blk_put (cs := #[.slice none 0 0, .slice none 0 0, .slice none 0 0, .int .i64 0, .bool false, .int .i64 0, .int .i64 0]) ?_ 2 _ rfl; (with_reducible repeat (first | apply dN | apply dW | apply dA)); refine blk_put (cs := #[.slice none 0 0, .slice none 0 0, .slice none 0 0, .int .i64 0, .bool false, .int .i64 0, .int .i64 0]) ?_ 1 _ rfl; (with_reducible repeat (first | apply dN | apply dW | apply dA)); refine blk_put (cs := #[.slice none 0 0, .slice none 0 0, .slice none 0 0, .int .i64 0, .bool false, .int .i64 0, .int .i64 0]) ?_ 0 _ rfl; exact bp BK137⟩, ⟨bw HB⟩⟩
 clear H'
 (try clear c1); (try clear p2); (try clear c5); (try clear c17)
 obtain ⟨x4_1, x138001_1, u138001, rfl, HA, HK1, HO_138001, HO_138002, BK132, BK133, BK137, HB⟩ := hrel
 rcases gk with _ | k1
 ·exact absurd HA.out (by simp [spec_MixTold.l0])
 have H := HA.out
 clear HA
 simp only [spec_MixTold.l0] at H
 refine qI H ?_ ?_ <;> clear H <;> intro c18b0 H
 ·refine iM H ?_; clear H; intro c19b0 H
  refine be H ?_; clear H; intro t139 A20 H
  refine iN H ?_; clear H; intro c21 H
  have LMc21 := am c21
  clear c21
  obtain ⟨y142, hy142⟩ : ∃ y_ : List (List Int), y_ = (x138001_1 ++ [t139]) := ⟨_, rfl⟩
  replace H : (spec_MixTold.l0 k1 (wrap64 (x4_1 + 1)) l0_0 l0_1 l0_2 l0_3 a0_4 a0_5 a0_6 a0_7 y142 t134 a0_4 a0_5 a0_6 a0_7) = some (r1, r2, r3, r4, r5, r6, r7) := by first | (rw [hy142]; with_reducible exact H) | (have H2_ := (Option.bind_some _ _).symm.trans H; rw [hy142]; with_reducible exact H2_) | (have H2_ := (Option.bind_some _ _).symm.trans H; with_reducible exact H2_) | with_reducible exact H | (rw [hy142]; exact H) | exact H
  have Ny142 := am hy142
  clear hy142
  have H' := am H
  clear H
  have hnb22 := NB132_133.out
  have hnc22 := NB133_132.out
  have hnb23 := NB132_137.out
  have hnc23 := NB137_132.out
  have hcz24_0 := bk wr BK132 0
  have hcz24_1 := bk wr BK132 1
  have hcz24_2 := bk wr BK132 2
  have hcz24_3 := bk wr BK132 3
  have hcz24_4 := bk wr BK132 4
  have hcz24_5 := bk wr BK132 5
  have hcz24_6 := bk wr BK132 6
  have hcz24_7 := bk wr BK132 7
  have hfz24_0 := bf BK132 0
  have hfz24_1 := bf BK132 1
  have hfz24_2 := bf BK132 2
  have hfz24_3 := bf BK132 3
  have hfz24_4 := bf BK132 4
  have hfz24_5 := bf BK132 5
  have hfz24_6 := bf BK132 6
  have hfz24_7 := bf BK132 7
  try go_wp2
  replace HO_138001 := am (Kd.S_drew HO_138001.out)
  replace HO_138002 := am (Kd.R_drew HO_138002.out)
  replace BK132 := am (blk_drew BK132.out)
  replace BK133 := am (blk_drew BK133.out)
  replace BK137 := am (blk_drew BK137.out)
  replace HB := am (below_drew1 HB.out)
  have p138 : 0 ≤ (x4_1 : Int) := of_decide_eq_true as1
  have q138 : x4_1 < (l0_2.length : Int) := of_decide_eq_true as1
  obtain ⟨ad138, A138_0, c138_0, e138, hx138_0, hl138_0, hi138_0⟩ := at_L10 HR0_2.out x4_1 p138 q138
  have hw138_0 := hx138_0
  cases e138
  replace hx138_0 := cl HB hx138_0
  have HR138_0 := am hi138_0
  have HC138_0 := am hl138_0
  clear hi138_0 hl138_0
  replace p138 := eq_true p138
  replace q138 := eq_true q138
  refine start_ (n := 12) (S := fun w' => w'.cell? ⟨gb137, 0, none⟩ = some (.slice none 0 0) ∧ w'.cell? ⟨gb137, 1, none⟩ = some (u138001) ∧ w'.cell? ⟨gb137, 2, none⟩ = some (.slice Ao10 t134.length co10) ∧ w'.cell? ⟨gb137, 3, none⟩ = some (.int .i64 a0_4) ∧ w'.cell? ⟨gb137, 4, none⟩ = some (.bool a0_5) ∧ w'.cell? ⟨gb137, 5, none⟩ = some (.int .i64 a0_6) ∧ w'.cell? ⟨gb137, 6, none⟩ = some (.int .i64 a0_7) ∧ w'.cell? ⟨gb132, 0, none⟩ = some (.slice A0_0 l0_0.length c0_0) ∧ w'.cell? ⟨gb132, 1, none⟩ = some (.slice A0_1 l0_1.length c0_1) ∧ w'.cell? ⟨gb132, 2, none⟩ = some (.slice (some ad138) l0_2.length c0_2) ∧ w'.cell? ⟨gb132, 3, none⟩ = some (.slice A0_3 l0_3.length c0_3) ∧ w'.cell? ⟨gb132, 4, none⟩ = some (.int .i64 a0_4) ∧ w'.cell? ⟨gb132, 5, none⟩ = some (.bool a0_5) ∧ w'.cell? ⟨gb132, 6, none⟩ = some (.int .i64 a0_6) ∧ w'.cell? ⟨gb132, 7, none⟩ = some (.int .i64 a0_7) ∧ w'.cell? (ad138.add (x4_1).toNat) = some (.slice A138_0 (rd_L10 l0_2 x4_1).length c138_0)) (ds := [11]) (bv 12 0) (by kernel_rfl) rfl (by kernel_rfl) ⟨bc BK137 0, bc BK137 1, bc BK137 2, bc BK137 3, bc BK137 4, bc BK137 5, bc BK137 6, bc BK132 0, bc BK132 1, bc BK132 2, bc BK132 3, bc BK132 4, bc BK132 5, bc BK132 6, bc BK132 7, (cq HB hw138_0)⟩ (fun hHeld => ?_); refine with_tabW spec_MixTold.tab5 spec_MixTold.bits5 (fun HT_ HW_ => ?_)
  generalize wr.drew = w25 at HO_138001 HO_138002 BK132 BK133 BK137 HB HR138_0 hx138_0 hHeld ⊢
  refine pu 0 24 12 1 HT_ ?_
  refine pu 2 26 12 5 HT_ ?_
  refine pu 4 28 12 21 HT_ ?_
  refine tk 1 25 12 23 HT_ HW_ hHeld ?_
  refine tk 3 27 12 31 HT_ HW_ hHeld ?_
  refine pu 5 29 12 63 HT_ ?_
  refine tk 6 30 12 127 HT_ HW_ hHeld ?_
  refine on 7 (some 31) 12 255 HT_ fun K hK => ?_
  refine goes_ Try.func17 (by kernel_rfl) rfl #[.slice A138_0 (rd_L10 l0_2 x4_1).length c138_0] (by rfl) rfl rfl gl ?_
  with_reducible refine (spec_l06Nums.calls _ _ (rd_L10 l0_2 x4_1) t139 _ ?side1 ?side2 A20.out).mono ?_
  (case side1 => exact cc (Kd.C_below HR138_0.out HB.out))
  (case side2 => exact HC138_0.out)
  rintro e w26 ⟨v140, rfl, ho0, hb⟩
  refine ⟨_, rfl, ?_⟩
  have n0_ := am (Kd.S_elder' (kS HO_138001) (Kd.R_base ho0) hb)
  have n1_ := am (Kd.R_elder' (kR HO_138002) (Kd.R_base ho0) hb)
  have n2_ := am (Kd.R_lower (Kd.R_new' ho0 (Kd.R_lt (kR HO_138002))) (below_size (bw HB)))
  have n3_ := bb BK132 hb
  have n4_ := bb BK133 hb
  have n5_ := bb BK137 hb
  have n6_ := am (below_step (bw HB) hb)
  clear HO_138001
  clear HO_138002
  clear BK132
  clear BK133
  clear BK137
  clear HB
  have HO_138001 := n0_
  have HO_138002 := n1_
  have HO141 := n2_
  have BK132 := n3_
  have BK133 := n4_
  have BK137 := n5_
  have HB := n6_
  clear n0_ n1_ n2_ n3_ n4_ n5_ n6_
  clear hb
  (try clear ho0)
  obtain ⟨Ao28, co28, eo28⟩ := Kd.R_slice HO141.out
  (first | subst eo28 | (injection eo28 with f1_ f2_ f3_; have f4_ := f1_.symm; have f5_ := f3_.symm; clear f1_ f2_ f3_; subst f4_; subst f5_))
  refine hK.out _ _ ⟨bc BK137 0, bc BK137 1, bc BK137 2, bc BK137 3, bc BK137 4, bc BK137 5, bc BK137 6, bc BK132 0, bc BK132 1, bc BK132 2, bc BK132 3, bc BK132 4, bc BK132 5, bc BK132 6, bc BK132 7, (cq HB hw138_0)⟩ (fun hHeld => ?_)
  clear hK K
  refine nm (some 31) ?_
  refine on 8 (some 32) 12 511 HT_ fun K hK => ?_
  refine value_ (w1 := ?_) (v := ?_) (by rfl) rfl ?_ ?_
  rotate_left 2
  ·go_simp
   constructor
   ·rfl
   rfl
  refine hK.out _ _ ⟨(blk_cell (blk_alloc BK137.out _) 0).trans rfl, (blk_cell (blk_alloc BK137.out _) 1).trans rfl, (blk_cell (blk_alloc BK137.out _) 2).trans rfl, (blk_cell (blk_alloc BK137.out _) 3).trans rfl, (blk_cell (blk_alloc BK137.out _) 4).trans rfl, (blk_cell (blk_alloc BK137.out _) 5).trans rfl, (blk_cell (blk_alloc BK137.out _) 6).trans rfl, (blk_cell (blk_alloc BK132.out _) 0).trans rfl, (blk_cell (blk_alloc BK132.out _) 1).trans rfl, (blk_cell (blk_alloc BK132.out _) 2).trans rfl, (blk_cell (blk_alloc BK132.out _) 3).trans rfl, (blk_cell (blk_alloc BK132.out _) 4).trans rfl, (blk_cell (blk_alloc BK132.out _) 5).trans rfl, (blk_cell (blk_alloc BK132.out _) 6).trans rfl, (blk_cell (blk_alloc BK132.out _) 7).trans rfl, (World.cell?_alloc_lt _ _ _ (World.block_lt_of_cell? _ _ ((cq HB hw138_0)))).trans ((cq HB hw138_0))⟩ (fun hHeld => ?_)
  clear hK K
  refine nm (some 32) ?_
  refine on 9 (some 33) 12 1023 HT_ fun K hK => ?_
  refine Kd.S_append_step (Kd.slice 2 (Kd.int .i64)) (w0 := w) w.heap.size (by rfl) (.tmp 25) (.tmp 32) 24 25 (.slice none 0 0) 24 rfl Try.underlying24 info25 rfl (by decide) (by omega) u138001 x138001_1 t139 [.slice Ao28 t139.length co28] (fun k_ => some k_ ≠ (.slice Ao10 t134.length co10 : Value).ownBlock) (fun k_ => some k_ = (.slice Ao28 t139.length co28 : Value).ownBlock) rfl rfl ?aP (fun k_ hk_ => ((Kd.R_mono (ok' := fun k_ => ((fun k_ => some k_ ≠ (.slice Ao10 t134.length co10 : Value).ownBlock)) k_ ∧ some k_ ≠ (u138001 : Value).ownBlock) (Kd.R_apart' (HO141.out) (Kd.S_typed HO_138001.out) (by decide)) (fun k_ hk => ⟨hk.1.2, hk.2⟩))).1 k_ hk_.symm) ?aF ?aO ?aB ?aS ?aL ?_
  (case aP => exact Kd.M_row (Kd.R_mono (Kd.R_tight rfl (Kd.R_mono (ok' := fun k_ => ((fun k_ => some k_ ≠ (.slice Ao10 t134.length co10 : Value).ownBlock)) k_ ∧ some k_ ≠ (u138001 : Value).ownBlock) (Kd.R_apart' (HO141.out) (Kd.S_typed HO_138001.out) (by decide)) (fun k_ hk => ⟨hk.1.2, hk.2⟩))) (fun _ h_ => h_)))
  (case aB => exact (bw HB))
  (case aF => exact (fun k_ hk => Kd.fresh' (Kd.R_lt (kR HO_138002)) k_ hk))
  (case aO => exact (by (with_reducible repeat (first | apply Kd.S_alloc | apply Kd.S_drewN | apply Kd.S_drew)); exact Kd.S_mono HO_138001.out (fun k_ hk => ⟨hk.1, fun e_ => hk.2 e_⟩)))
  (case aS => exact (below_size (bw HB)))
  (case aL => have := LMc21.out; omega)
  intro v143 w27 ho hb hg hat
  rw [← Ny142.out] at ho
  have n0_ := am (Kd.R_over' (kR HO_138002) (Kd.S_typed (kS HO_138001)) (by decide) hg)
  have n1_ := bg BK132 hg (Kd.S_ne HO_138001.out BK132.out (by decide))
  have n2_ := bg BK133 hg (Kd.S_ne HO_138001.out BK133.out (by decide))
  have n3_ := bg BK137 hg (Kd.S_ne HO_138001.out BK137.out (by decide))
  have n4_ := am (hb)
  have n5_ := am (ho)
  clear HO_138002
  clear BK132
  clear BK133
  clear BK137
  clear HB
  clear HO_138001
  clear HO141
  have HO_138002 := n0_
  have BK132 := n1_
  have BK133 := n2_
  have BK137 := n3_
  have HB := n4_
  have HO144 := n5_
  clear n0_ n1_ n2_ n3_ n4_ n5_
  clear ho hb hg hat
  obtain ⟨Ao29, co29, eo29⟩ := Kd.S_slice HO144.out
  (first | subst eo29 | (injection eo29 with f1_ f2_ f3_; have f4_ := f1_.symm; have f5_ := f3_.symm; clear f1_ f2_ f3_; subst f4_; subst f5_))
  refine hK.out _ _ ⟨bc BK137 0, bc BK137 1, bc BK137 2, bc BK137 3, bc BK137 4, bc BK137 5, bc BK137 6, bc BK132 0, bc BK132 1, bc BK132 2, bc BK132 3, bc BK132 4, bc BK132 5, bc BK132 6, bc BK132 7, (cq HB hw138_0)⟩ (fun hHeld => ?_)
  clear hK K
  refine nm (some 33) ?_
  refine pu 10 34 12 2047 HT_ ?_
  refine last_ (i := 11) (N := none) (bv 12 4095) rfl rfl (one_of HT_.out (by kernel_rfl)) (by decide) (fun K hK => ?_)
  have hs30 := bk w27 BK137 1
  have hfs30 := bf BK137 1
  have hns30_0 := NB132_137.out
  have hns30_1 := NB133_137.out
  have hms30_0 := NB137_132.out
  have hms30_1 := NB137_133.out
  refine skip_ (w1 := ?_) (by rfl) rfl ?_ ?_
  rotate_left
  ·go_simp
   rfl
  refine hK.out _ _ ?_
  clear hK K
  refine done_ (done_of HT_.out (by kernel_rfl)) ?_
  try go_wp2
  go_roundg k1
  case measure => have := HK1.out; omega
  case rel => exact ⟨(wrap64 (x4_1 + 1)), (y142), (.slice Ao29 y142.length co29), dr, H', ⟨by have := HK1.out; omega⟩, ⟨by (with_reducible repeat (first | apply Kd.S_alloc | apply Kd.S_drewN | apply Kd.S_drew)); exact Kd.S_mono (Kd.S_far (p := ⟨gb137, 1, none⟩) (Kd.S_types HO144.out BK137.out (by decide)) (fun _ hk => hk.2) (.slice Ao29 y142.length co29)) (fun _ hk => hk.1)⟩, ⟨by (with_reducible repeat (first | apply Kd.R_alloc | apply Kd.R_drewN | apply Kd.R_drew)); exact Kd.R_mono (Kd.R_far (p := ⟨gb137, 1, none⟩) (Kd.R_types HO_138002.out BK137.out (by decide)) (fun _ hk => hk.2) (.slice Ao29 y142.length co29)) (fun _ hk => trivial)⟩, ⟨by (with_reducible repeat (first | apply dN | apply dW | apply dA)); refine blk_far ?_ NB132_137.out _; exact bp BK132⟩, ⟨by (with_reducible repeat (first | apply dN | apply dW | apply dA)); refine blk_far ?_ NB133_137.out _; exact bp BK133⟩, ⟨by (with_reducible repeat (first | apply dN | apply dW | apply dA)); refine blk_put (cs := #[.slice none 0 0, u138001, .slice Ao10 t134.length co10, .int .i64 a0_4, .bool a0_5, .int .i64 a0_6, .int .i64 a0_7]) ?_ 1 _ rfl; exact bp BK137⟩, ⟨bw HB⟩⟩
 simp only [Option.some.injEq, Prod.mk.injEq] at H
 obtain ⟨rfl, rfl, rfl, rfl, rfl, rfl, rfl⟩ := H
 have hnb31 := NB132_133.out
 have hnc31 := NB133_132.out
 have hnb32 := NB132_137.out
 have hnc32 := NB137_132.out
 have hcz33_0 := bk wr BK132 0
 have hcz33_1 := bk wr BK132 1
 have hcz33_2 := bk wr BK132 2
 have hcz33_3 := bk wr BK132 3
 have hcz33_4 := bk wr BK132 4
 have hcz33_5 := bk wr BK132 5
 have hcz33_6 := bk wr BK132 6
 have hcz33_7 := bk wr BK132 7
 have hfz33_0 := bf BK132 0
 have hfz33_1 := bf BK132 1
 have hfz33_2 := bf BK132 2
 have hfz33_3 := bf BK132 3
 have hfz33_4 := bf BK132 4
 have hfz33_5 := bf BK132 5
 have hfz33_6 := bf BK132 6
 have hfz33_7 := bf BK132 7
 have hnb34 := NB137_133.out
 have hnc34 := NB133_137.out
 have hcz35_0 := bk wr BK137 0
 have hcz35_1 := bk wr BK137 1
 have hcz35_2 := bk wr BK137 2
 have hcz35_3 := bk wr BK137 3
 have hcz35_4 := bk wr BK137 4
 have hcz35_5 := bk wr BK137 5
 have hcz35_6 := bk wr BK137 6
 have hfz35_0 := bf BK137 0
 have hfz35_1 := bf BK137 1
 have hfz35_2 := bf BK137 2
 have hfz35_3 := bf BK137 3
 have hfz35_4 := bf BK137 4
 have hfz35_5 := bf BK137 5
 have hfz35_6 := bf BK137 6
 have hcz36_0 := bk wr BK133 0
 have hcz36_1 := bk wr BK133 1
 have hcz36_2 := bk wr BK133 2
 have hcz36_3 := bk wr BK133 3
 have hcz36_4 := bk wr BK133 4
 have hcz36_5 := bk wr BK133 5
 have hcz36_6 := bk wr BK133 6
 have hfz36_0 := bf BK133 0
 have hfz36_1 := bf BK133 1
 have hfz36_2 := bf BK133 2
 have hfz36_3 := bf BK133 3
 have hfz36_4 := bf BK133 4
 have hfz36_5 := bf BK133 5
 have hfz36_6 := bf BK133 6
 obtain ⟨Ao37, co37, eo37⟩ := Kd.S_slice HO_138001.out
 subst eo37
 go_wp2
 refine bodyPost_ret (results_cell_row rfl _ _ gb133 31 #[.slice none 0 0, .slice Ao37 x138001_1.length co37, .slice Ao10 t134.length co10, .int .i64 a0_4, .bool a0_5, .int .i64 a0_6, .int .i64 a0_7] (0, 0) _ rfl (bt BK133) Try.underlying31 rfl (by kernel_rfl)) rfl ?_
 exact ⟨_, _, _, er, by first | exact Kd.S_nil _ _ _ _ _ | exact Kd.N_nil _ _ _ _ _ | exact Kd.V_nil _ _ _ _ _ | exact Kd.Q_nil _ _ _ _ _ | exact Kd.R_nil _ _ _ _ _, by (with_reducible repeat (first | apply Kd.S_alloc | apply Kd.S_drewN | apply Kd.S_drew)); exact Kd.S_mono (Kd.S_far (p := ⟨gb133, 6, none⟩) (Kd.S_far (p := ⟨gb133, 5, none⟩) (Kd.S_far (p := ⟨gb133, 4, none⟩) (Kd.S_far (p := ⟨gb133, 3, none⟩) (Kd.S_far (p := ⟨gb133, 2, none⟩) (Kd.S_far (p := ⟨gb133, 1, none⟩) (Kd.S_far (p := ⟨gb133, 0, none⟩) (Kd.S_types HO_138001.out BK133.out (by decide)) (fun _ hk => hk.2) (.slice none 0 0)) (fun _ hk => hk.2) (.slice Ao37 x138001_1.length co37)) (fun _ hk => hk.2) (.slice Ao10 t134.length co10)) (fun _ hk => hk.2) (.int .i64 a0_4)) (fun _ hk => hk.2) (.bool a0_5)) (fun _ hk => hk.2) (.int .i64 a0_6)) (fun _ hk => hk.2) (.int .i64 a0_7)) (fun _ hk => hk.1), by (with_reducible repeat (first | apply Kd.R_alloc | apply Kd.R_drewN | apply Kd.R_drew)); exact Kd.R_mono (Kd.R_far (p := ⟨gb133, 6, none⟩) (Kd.R_far (p := ⟨gb133, 5, none⟩) (Kd.R_far (p := ⟨gb133, 4, none⟩) (Kd.R_far (p := ⟨gb133, 3, none⟩) (Kd.R_far (p := ⟨gb133, 2, none⟩) (Kd.R_far (p := ⟨gb133, 1, none⟩) (Kd.R_far (p := ⟨gb133, 0, none⟩) (Kd.R_types HO_138002.out BK133.out (by decide)) (fun _ hk => hk.2) (.slice none 0 0)) (fun _ hk => hk.2) (.slice Ao37 x138001_1.length co37)) (fun _ hk => hk.2) (.slice Ao10 t134.length co10)) (fun _ hk => hk.2) (.int .i64 a0_4)) (fun _ hk => hk.2) (.bool a0_5)) (fun _ hk => hk.2) (.int .i64 a0_6)) (fun _ hk => hk.2) (.int .i64 a0_7)) (fun _ hk => trivial), bw HB⟩

def laws_toVal.f (a0_0 : Int) (a0_1 : Int) : Option (Int × Int) := some (a0_0, a0_1)
theorem laws_toVal.calls (a0_0 : Int) (a0_1 : Int) (r1 : Int) (r2 : Int) (w : World) (h : laws_toVal.f a0_0 a0_1 = some (r1, r2)) :
  Calls Try.prog 63 #[.agg #[.int .i64 a0_0, .int .i64 a0_1]] w fun e w' => e = .returned (.agg #[.int .i64 r1, .int .i64 r2]) ∧ Below w.heap.size w w' := by
 have hu113 := Try.underlying113
 have hu107 := Try.underlying107
 have HB := am (Below.refl w.heap.size w)
 have H : (some (a0_0, a0_1)) = some (r1, r2) := h
 clear h
 simp only [Option.some.injEq, Prod.mk.injEq] at H
 obtain ⟨rfl, rfl⟩ := H
 go_enter Try.func63, Try.ntmps63
 go_wp2_with (first | ((with_reducible refine gd 1 rfl ?_); refine bX 1 #[.int .i64 a0_0, .int .i64 a0_1] 113 HB ?_; clear HB; intro gb145 w2 hg hb BK145 GW145 HB; clear hb hg) | ((with_reducible refine gd 2 rfl ?_); refine bX 2 #[.int .i64 0, .int .i64 0] 107 HB ?_; clear HB; intro gb146 w3 hg hb BK146 GW146 HB; obtain ⟨NB145_146, NB146_145, BK145⟩ := b3 hg BK145 hb; clear hb hg) | ((with_reducible refine gd 3 rfl ?_); refine bX 3 #[.int .i64 0, .int .i64 0] 107 HB ?_; clear HB; intro gb147 w4 hg hb BK147 GW147 HB; obtain ⟨NB145_147, NB147_145, BK145⟩ := b3 hg BK145 hb; obtain ⟨NB146_147, NB147_146, BK146⟩ := b3 hg BK146 hb; clear hb hg; have hnb5 := NB145_146.out; have hnc5 := NB146_145.out; have hnb6 := NB145_147.out; have hnc6 := NB147_145.out; have hcz7 := bK w4 BK145; have hfz7 := bF BK145; have hnb8 := NB147_146.out; have hnc8 := NB146_147.out; have hcz9 := bK w4 BK147; have hfz9 := bF BK147; have hcz10 := bK w4 BK146; have hfz10 := bF BK146))
 refine bodyPost_ret (results_cell_row rfl _ _ gb146 107 #[.int .i64 a0_0, .int .i64 a0_1] (0, 0) _ rfl (bt BK146) Try.underlying107 rfl (by kernel_rfl)) rfl ?_
 exact ⟨er, bw HB⟩

def laws_toValS.l0 : Nat → List (S113) → List (S107) → Int → Option ((List (S107)))
 | 0, _, _, _ => none
 | k + 1, x0, x3, x4 => if x4 < (x0.length : Int) then (if 0 ≤ x4 then ((laws_toVal.f ((rd_T113 x0 x4).f0) ((rd_T113 x0 x4).f1)).bind fun bt152 => (if x4 < (x3.length : Int) then (laws_toValS.l0 k x0 (x3.set (x4 : Int).toNat (⟨bt152.1, bt152.2⟩ : S107)) (wrap64 (x4 + 1))) else (none))) else (none)) else (some x3)
def laws_toValS.f (k : Nat) (l0 : List (S113)) : Option ((List (S107))) := if 0 ≤ (l0.length : Int) then (if ((l0.length : Int) : Int).toNat ≤ 17592186044416 then (laws_toValS.l0 k l0 (List.replicate ((l0.length : Int) : Int).toNat z107) 0) else (none)) else (none)
theorem laws_toValS.mono_l : ∀ k, (∀ y0 y1 y2, LeO (laws_toValS.l0 k y0 y1 y2) (laws_toValS.l0 (k + 1) y0 y1 y2))
 | 0 => fun _ _ _ r h => by simp [laws_toValS.l0] at h
 | k + 1 => by
  have ih0 := laws_toValS.mono_l k
  ·intro y0 y1 y2
   unfold laws_toValS.l0
   with_reducible repeat' first | exact ih0 .. | exact LeO.refl _ | exact LeO.none _ | refine LeO.ite ?_ ?_ | refine LeO.bind ?_ (fun _ => ?_)
theorem laws_toValS.mono : ∀ a0 k, LeO (laws_toValS.f k a0) (laws_toValS.f (k + 1) a0) := by
 intro a0 k
 have ih0 := laws_toValS.mono_l k
 unfold laws_toValS.f
 with_reducible repeat' first | exact ih0 .. | exact LeO.refl _ | exact LeO.none _ | refine LeO.ite ?_ ?_ | refine LeO.bind ?_ (fun _ => ?_)
theorem laws_toValS.calls (k : Nat) (A0 : Option Addr) (c0 : Nat) (l0 : List (S113)) (r : List (S107)) (w : World) (hr0 : Kd.C k113 w A0 l0.length l0) (hc0 : l0.length ≤ c0) (h : laws_toValS.f k l0 = some r) :
  Calls Try.prog 58 #[.slice A0 l0.length c0] w fun e w' => ∃ v0_ : Value, e = .returned (v0_) ∧ Kd.R k107 107 w' w.heap.size (fun _ => True) v0_ r ∧ Below w.heap.size w w' := by
 have hu113 := Try.underlying113
 have hu107 := Try.underlying107
 have HR0 := am hr0
 have HC0 := am hc0
 clear hr0 hc0
 have HB := am (Below.refl w.heap.size w)
 have H : (if 0 ≤ (l0.length : Int) then (if ((l0.length : Int) : Int).toNat ≤ 17592186044416 then (laws_toValS.l0 k l0 (List.replicate ((l0.length : Int) : Int).toNat z107) 0) else (none)) else (none)) = some r := h
 clear h
 refine iN H ?_; clear H; intro c2 H
 have c2b0 := eq_true c2
 have c2b1 := decide_eq_true c2
 clear c2
 refine iN H ?_; clear H; intro c3 H
 have c3b0 := eq_true c3
 have c3b1 := decide_eq_true c3
 clear c3
 obtain ⟨y148, hy148⟩ : ∃ y_ : List (S107), y_ = (List.replicate ((l0.length : Int) : Int).toNat z107) := ⟨_, rfl⟩
 replace H : (laws_toValS.l0 k l0 y148 0) = some r := by first | (rw [hy148]; with_reducible exact H) | (have H2_ := (Option.bind_some _ _).symm.trans H; rw [hy148]; with_reducible exact H2_) | (have H2_ := (Option.bind_some _ _).symm.trans H; with_reducible exact H2_) | with_reducible exact H | (rw [hy148]; exact H) | exact H
 have Ny148 := am hy148
 clear hy148
 have H' := am H
 clear H
 go_enter Try.func58, Try.ntmps58
 go_wp2_with (first | ((with_reducible refine gate_dst (N := 7) rfl ?_); refine Kd.R_make k107 _ 107 rfl (N := 7) rfl 92 _ _ rfl (l0.length : Int) rfl rfl Try.underlying92 (.agg #[(.int .i64 0), (.int .i64 0)]) 16 info107 rfl (by decide) (by omega) z107 (ok := fun _ => True) (okp := fun _ => True) (k107_mkM _ _ _ z107 ) (fun _ hk => hk) trivial (of_decide_eq_true as1) (Nat.le_trans (Nat.mul_le_mul_right _ (of_decide_eq_true as1 : (l0.length : Int).toNat ≤ 17592186044416)) (by omega)) (Below.refl _ _) (Nat.le_refl _) ?_; intro v149 w4 ho5 hb hg_ hnew_; clear hg_ hnew_; (first | rw [← Ny148.out] at ho5 | (simp only [Int.reduceToNat] at ho5; rw [← Ny148.out] at ho5)); have HO150 := am (Kd.R_lower ho5 (below_size (bw HB))); replace HB := bs HB hb; clear hb ho5))
 go_loopg [4] k (fun kq v4 w' => ∃ (x3_1 : List (S107)) (x4_1 : Int), v4 = .int .i64 x4_1 ∧ Aside0 (laws_toValS.l0 kq l0 x3_1 x4_1 = some r) ∧ Aside0 (kq ≤ k) ∧ Aside0 (Kd.R k107 107 w' w.heap.size (fun _ => True) v149 x3_1) ∧ Aside0 (Below w.heap.size w w'))
 case atStart => exact ⟨(y148), (0), dr, H', ⟨Nat.le_refl _⟩, ⟨kR HO150⟩, ⟨bw HB⟩⟩
 clear H'
 (try clear c2); (try clear c2b0); (try clear c2b1); (try clear p2); (try clear c3); (try clear c3b0); (try clear c3b1); (try clear c5)
 obtain ⟨x3_1, x4_1, rfl, HA, HK1, HO_3, HB⟩ := hrel
 rcases gk with _ | k1
 ·exact absurd HA.out (by simp [laws_toValS.l0])
 have H := HA.out
 clear HA
 simp only [laws_toValS.l0] at H
 refine qI H ?_ ?_ <;> clear H <;> intro c6b0 H
 ·refine iM H ?_; clear H; intro c7b0 H
  replace H := Option.bind_eq_some_iff.mp H
  obtain ⟨⟨t152, t153⟩, A80, H⟩ := H
  replace H : (if x4_1 < (x3_1.length : Int) then (laws_toValS.l0 k1 l0 (x3_1.set (x4_1 : Int).toNat (⟨t152, t153⟩ : S107)) (wrap64 (x4_1 + 1))) else (none)) = some r := H
  have A8 := am A80
  clear A80
  refine iM H ?_; clear H; intro c9b0 H
  obtain ⟨y154, hy154⟩ : ∃ y_ : List (S107), y_ = (x3_1.set (x4_1 : Int).toNat (⟨t152, t153⟩ : S107)) := ⟨_, rfl⟩
  replace H : (laws_toValS.l0 k1 l0 y154 (wrap64 (x4_1 + 1))) = some r := by first | (rw [hy154]; with_reducible exact H) | (have H2_ := (Option.bind_some _ _).symm.trans H; rw [hy154]; with_reducible exact H2_) | (have H2_ := (Option.bind_some _ _).symm.trans H; with_reducible exact H2_) | with_reducible exact H | (rw [hy154]; exact H) | exact H
  have Ny154 := am hy154
  clear hy154
  have H' := am H
  clear H
  have p151 : 0 ≤ (x4_1 : Int) := of_decide_eq_true as1
  have q151 : x4_1 < (l0.length : Int) := of_decide_eq_true as1
  obtain ⟨ad151, e151, hx151_0, hx151_1⟩ := at_T113 HR0.out x4_1 p151 q151
  cases e151
  replace hx151_0 := cl HB hx151_0
  replace hx151_1 := cl HB hx151_1
  replace p151 := eq_true p151
  replace q151 := eq_true q151
  go_wp2_with (first | ((with_reducible refine gate_callee (f := 63) rfl ?_); refine goesL_ (some 20) rfl rfl Try.func63 (by kernel_rfl) rfl #[.agg #[.int .i64 ((rd_T113 l0 x4_1).f0), .int .i64 ((rd_T113 l0 x4_1).f1)]] rfl gl ?_; (with_reducible refine (laws_toVal.calls ((rd_T113 l0 x4_1).f0) ((rd_T113 l0 x4_1).f1) t152 t153 _ A8.out).mono ?_); rintro e w11 ⟨rfl, hb⟩; refine ⟨_, rfl, ?_⟩; replace HO_3 := am (Kd.R_below (kR HO_3) hb); replace HB := bs HB hb; clear hb; have p10 : 0 ≤ (x4_1 : Int) := of_decide_eq_true as1; have q10 : (x4_1 : Int) < ((x3_1.length : Int) : Int) := of_decide_eq_true as1; obtain ⟨go10, co10, eo10, gb10, gl10, cl10, HG10⟩ := Kd.R_form HO_3.out (by omega); (first | cases eo10 | (injection eo10 with ea_ en_ ec_; (first | subst ea_ | (injection ea_ with ea_; subst ea_)); subst ec_; clear en_)); have GB10 := am gb10; have GG10 := am HG10; clear gb10 gl10 HG10; obtain ⟨ce10, hcl10, hM10, hcc10, hfr10⟩ := Kd.R_elem HO_3.out z107 (x4_1 : Int) p10 q10; obtain rfl := k107_openM hM10; have hx10_0 : w11.cell? ⟨go10, (x4_1 : Int).toNat * 2, none⟩ = some (.int .i64 ((rd_T107 x3_1 x4_1).f0)) := hcc10 0 _ rfl; have hx10_1 : w11.cell? ⟨go10, (x4_1 : Int).toNat * 2 + 1, none⟩ = some (.int .i64 ((rd_T107 x3_1 x4_1).f1)) := hcc10 1 _ rfl; have hf10_0 : w11.frozen? ⟨go10, (x4_1 : Int).toNat * 2, none⟩ = false := hfr10 0; have hf10_1 : w11.frozen? ⟨go10, (x4_1 : Int).toNat * 2 + 1, none⟩ = false := hfr10 1; (try clear hM10); (try clear hfr10); (try clear hcc10); (try clear hcl10); replace p10 := eq_true p10; replace q10 := eq_true q10; have HX12 := am (show Kd.R k107 107 w11 w.heap.size (fun _ => True) (.slice (some ⟨go10, 0, none⟩) x3_1.length co10) x3_1 from (kR HO_3)); obtain ⟨ce12, hcl12, hM12, hcc12, hfr12⟩ := Kd.R_elem HX12.out z107 (x4_1 : Int) (of_decide_eq_true as1) (by have h_ : (x4_1 : Int) < ((x3_1.length : Int) : Int) := of_decide_eq_true as1; first | exact h_ | (have e_ := (Kd.R_reads' HO_3.out).1; omega) | simpa using h_); obtain rfl := k107_openM hM12; have HP12 := Kd.R_seg HX12.out (x4_1 : Int) (of_decide_eq_true as1) (by have h_ : (x4_1 : Int) < ((x3_1.length : Int) : Int) := of_decide_eq_true as1; first | exact h_ | (have e_ := (Kd.R_reads' HO_3.out).1; omega) | simpa using h_) (seg := [.int .i64 t152, .int .i64 t153]) (j := 0) hcl12 hcc12 (show 2 ≤ 2 from by decide) (x' := (⟨t152, t153⟩ : S107)) (k107_mkM _ _ _ (⟨t152, t153⟩ : S107) ) (fun _ hk => hk); have hx12_0 := hcc12 0 _ rfl; (try simp only [show (k107).sz = 2 from rfl, Nat.mul_one, Nat.add_zero] at hx12_0); have hf12_0 := hfr12 0; (try simp only [show (k107).sz = 2 from rfl, Nat.mul_one, Nat.add_zero] at hf12_0); have hx12_1 := hcc12 1 _ rfl; (try simp only [show (k107).sz = 2 from rfl, Nat.mul_one, Nat.add_zero] at hx12_1); have hf12_1 := hfr12 1; (try simp only [show (k107).sz = 2 from rfl, Nat.mul_one, Nat.add_zero] at hf12_1); (try clear hM12); (try clear hfr12); (try clear hcc12); (try clear hcl12)) | ((with_reducible refine gt 107 21 rfl ?_); refine sE 107 21 ((w11.setCell ⟨go10, (x4_1 : Int).toNat * 2, none⟩ (.int .i64 t152)).setCell ⟨go10, (x4_1 : Int).toNat * 2 + 1, none⟩ (.int .i64 t153)) ?_; intro w13 hw; have hg : w11.grownBy w13 (some go10) := (by rw [hw]; exact HP12.2); have hp_ : Kd.R k107 107 w13 w.heap.size (fun _ => True) (.slice (some ⟨go10, 0, none⟩) x3_1.length co10) y154 := (by rw [hw, Ny154.out]; exact HP12.1); clear HP12; replace HO_3 := am (hp_); replace HB := am ((by rw [hw]; exact below_set (below_set (HB.out) GB10.out) GB10.out : Below w.heap.size w w13)); clear hg hw hp_))
  go_roundg k1
  case measure => have := HK1.out; omega
  case rel => exact ⟨(y154), (wrap64 (x4_1 + 1)), dr, H', ⟨by have := HK1.out; omega⟩, ⟨kR HO_3⟩, ⟨bw HB⟩⟩
 obtain rfl := Option.some.inj H
 go_wp2
 go_ret
 exact ⟨_, er, kR HO_3, bw HB⟩

end Go.Proofs.Yticdldoijkdffaa.QFnExactMixTold
