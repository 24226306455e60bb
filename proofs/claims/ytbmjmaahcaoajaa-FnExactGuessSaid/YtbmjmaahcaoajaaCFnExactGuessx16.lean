import Derived.Test.YtbmjmaahcaoajaaCFnExactGuessx0
import Derived.Test.YtbmjmaahcaoajaaCFnExactGuessx14
namespace Go.Proofs.Ytbmjmaahcaoajaa.QFnExactGuess
open Go.RowKit Go.Proofs.YtbmjmaahcaoajaaW
open PrintWords PrintLast PrintMore PrintShort PrintIsh
attribute [local go_sem] max2_int min2_int max_two min_two max_three min_three max_four min_four   -- for this text's walks alone
set_option linter.unusedVariables false
set_option maxHeartbeats 8000000
set_option maxRecDepth 100000
set_option linter.unusedSimpArgs false

def impl_Seen.l0 : Nat → List (S108) → Int → Int → Int → Int → Int → Int → Int → Option (Int × Bool)
 | 0, _, _, _, _, _, _, _, _ => none
 | k + 1, x0, x8, x9, x10, x392000, x392001, x392002, x392003 => if x9 < x10 then (if 0 ≤ (wrap64 ((IntKind.u64.wrap (wrap64 (x9 + x10))) / 2)) then (if (wrap64 ((IntKind.u64.wrap (wrap64 (x9 + x10))) / 2)) < (x0.length : Int) then ((impl_bySpot.f ((rd_T108 x0 (wrap64 ((IntKind.u64.wrap (wrap64 (x9 + x10))) / 2))).f0) ((rd_T108 x0 (wrap64 ((IntKind.u64.wrap (wrap64 (x9 + x10))) / 2))).f1) ((rd_T108 x0 (wrap64 ((IntKind.u64.wrap (wrap64 (x9 + x10))) / 2))).f2) ((rd_T108 x0 (wrap64 ((IntKind.u64.wrap (wrap64 (x9 + x10))) / 2))).f3) x392000 x392001 x392002 x392003).bind fun t393 => (if t393 < 0 then (impl_Seen.l0 k x0 x8 (wrap64 ((wrap64 ((IntKind.u64.wrap (wrap64 (x9 + x10))) / 2)) + 1)) x10 x392000 x392001 x392002 x392003) else (impl_Seen.l0 k x0 x8 x9 (wrap64 ((IntKind.u64.wrap (wrap64 (x9 + x10))) / 2)) x392000 x392001 x392002 x392003))) else (none)) else (none)) else (if x9 < x8 then (if 0 ≤ x9 then (if x9 < (x0.length : Int) then ((impl_bySpot.f ((rd_T108 x0 x9).f0) ((rd_T108 x0 x9).f1) ((rd_T108 x0 x9).f2) ((rd_T108 x0 x9).f3) x392000 x392001 x392002 x392003).bind fun t395 => (some (x9, (t395 == 0)))) else (none)) else (none)) else (some (x9, false)))
def impl_Seen.f (k : Nat) (l0 : List (S108)) (a1_0 : Int) (a1_1 : Int) (a1_2 : Int) (a1_3 : Int)  : Option (Int × Bool) := impl_Seen.l0 k l0 (l0.length : Int) 0 (l0.length : Int) a1_0 a1_1 a1_2 a1_3
theorem impl_Seen.mono_l : ∀ k, (∀ y0 y1 y2 y3 y4 y5 y6 y7, LeO (impl_Seen.l0 k y0 y1 y2 y3 y4 y5 y6 y7) (impl_Seen.l0 (k + 1) y0 y1 y2 y3 y4 y5 y6 y7))
 | 0 => fun _ _ _ _ _ _ _ _ r h => by simp [impl_Seen.l0] at h
 | k + 1 => by
  have ih0 := impl_Seen.mono_l k
  ·intro y0 y1 y2 y3 y4 y5 y6 y7
   unfold impl_Seen.l0
   with_reducible repeat' first | exact ih0 .. | exact LeO.refl _ | exact LeO.none _ | refine LeO.ite ?_ ?_ | refine LeO.bind ?_ (fun _ => ?_)
theorem impl_Seen.mono : ∀ a0 a1 a2 a3 a4 k, LeO (impl_Seen.f k a0 a1 a2 a3 a4) (impl_Seen.f (k + 1) a0 a1 a2 a3 a4) := by
 intro a0 a1 a2 a3 a4 k
 have ih0 := impl_Seen.mono_l k
 unfold impl_Seen.f
 with_reducible repeat' first | exact ih0 .. | exact LeO.refl _ | exact LeO.none _ | refine LeO.ite ?_ ?_ | refine LeO.bind ?_ (fun _ => ?_)
def impl_Seen.T5 : Bool × List (List Nat × List Nat) := (true, [([], []), ([], []), ([], []), ([1, 2], [1, 2]), ([3], [3]), ([], []), ([0, 4, 5], [0, 4, 5]), ([6], [6])])
def impl_Seen.B5 : List Nat := [0, 0, 0, 6, 14, 0, 63, 127]
theorem impl_Seen.tab5 : rtab .any (opsOf Try.f142 5) = impl_Seen.T5 := by kernel_rfl
theorem impl_Seen.bits5 : waitsOk impl_Seen.T5.2 impl_Seen.B5 = true := by kernel_rfl
def impl_Seen.T8 : Bool × List (List Nat × List Nat) := (true, [([], []), ([], []), ([], []), ([1, 2], [1, 2]), ([3], [3]), ([4], [4]), ([4], [4]), ([4], [4]), ([6, 7, 4], [4, 6, 7]), ([8, 4], [4, 8]), ([4], [4]), ([5, 9, 10, 4, 4], [4, 5, 9, 10]), ([11, 4], [4, 11]), ([4, 12], [4, 12]), ([0, 11, 0], [0]), ([13, 14, 0, 1, 2, 3, 4, 5, 6, 7, 8, 9, 10, 11, 12, 13, 14], [13])])
def impl_Seen.B8 : List Nat := [0, 0, 0, 6, 14, 30, 30, 30, 222, 478, 30, 2046, 4094, 8190, 4095, 32767]
theorem impl_Seen.tab8 : rtab .any (opsOf Try.f142 8) = impl_Seen.T8 := by kernel_rfl
theorem impl_Seen.bits8 : waitsOk impl_Seen.T8.2 impl_Seen.B8 = true := by kernel_rfl
theorem impl_Seen.calls (k : Nat) (A0 : Option Addr) (c0 : Nat) (l0 : List (S108)) (a1_0 : Int) (a1_1 : Int) (a1_2 : Int) (a1_3 : Int)  (r1 : Int) (r2 : Bool) (w : World) (hr0 : Kd.C k108 w A0 l0.length l0) (hc0 : l0.length ≤ c0) (h : impl_Seen.f k l0 a1_0 a1_1 a1_2 a1_3 = some (r1, r2)) :
  Calls Try.prog 142 #[.slice A0 l0.length c0, .agg #[.int .i64 a1_0, .int .i64 a1_1, .int .i64 a1_2, .int .i64 a1_3], (.func (.func 128) #[] #[])] w fun e w' => e = .returned (.tuple #[.int .i64 r1, .bool r2]) ∧ Below w.heap.size w w' := by
 have hu108 := Try.underlying108
 have HR0 := am hr0
 have HC0 := am hc0
 clear hr0 hc0
 have HB := am (Below.refl w.heap.size w)
 have H : (impl_Seen.l0 k l0 (l0.length : Int) 0 (l0.length : Int) a1_0 a1_1 a1_2 a1_3) = some (r1, r2) := h
 clear h
 have H' := am H
 clear H
 go_enter Try.func142, Try.ntmps142
 go_wp2_with (first | ((with_reducible refine gd 4 rfl ?_); refine bX 4 #[.int .i64 a1_0, .int .i64 a1_1, .int .i64 a1_2, .int .i64 a1_3] 108 HB ?_; clear HB; intro gb391 w4 hg hb BK391 GW391 HB; clear hb hg))
 go_loopg [9, 10] k (fun kq v9 v10 w' => ∃ (x9_1 : Int) (x10_1 : Int), v9 = .int .i64 x9_1 ∧ v10 = .int .i64 x10_1 ∧ Aside0 (impl_Seen.l0 kq l0 (l0.length : Int) x9_1 x10_1 a1_0 a1_1 a1_2 a1_3 = some (r1, r2)) ∧ Aside0 (kq ≤ k) ∧ Aside0 (w'.heap[gb391]? = some (.cells #[.int .i64 a1_0, .int .i64 a1_1, .int .i64 a1_2, .int .i64 a1_3] 108 (0, 0))) ∧ Aside0 (Below w.heap.size w w'))
 case atStart => exact ⟨(0), ((l0.length : Int)), dr, dr, H', ⟨Nat.le_refl _⟩, ⟨bp BK391⟩, ⟨bw HB⟩⟩
 clear H'
 (try clear c1); (try clear p2)
 obtain ⟨x9_1, x10_1, rfl, rfl, HA, HK1, BK391, HB⟩ := hrel
 rcases gk with _ | k1
 ·exact absurd HA.out (by simp [impl_Seen.l0])
 have H := HA.out
 clear HA
 simp only [impl_Seen.l0] at H
 refine qI H ?_ ?_ <;> clear H <;> intro c5b0 H
 ·obtain ⟨ji6, hji6⟩ : ∃ j_ : Int, (wrap64 ((IntKind.u64.wrap (wrap64 (x9_1 + x10_1))) / 2)) = j_ := ⟨_, rfl⟩
  replace H : (if 0 ≤ (ji6) then (if (ji6) < (l0.length : Int) then ((impl_bySpot.f ((rd_T108 l0 (ji6)).f0) ((rd_T108 l0 (ji6)).f1) ((rd_T108 l0 (ji6)).f2) ((rd_T108 l0 (ji6)).f3) a1_0 a1_1 a1_2 a1_3).bind fun t393 => (if t393 < 0 then (impl_Seen.l0 k1 l0 (l0.length : Int) (wrap64 ((ji6) + 1)) x10_1 a1_0 a1_1 a1_2 a1_3) else (impl_Seen.l0 k1 l0 (l0.length : Int) x9_1 ji6 a1_0 a1_1 a1_2 a1_3))) else (none)) else (none)) = some (r1, r2) := by first | (rw [hji6] at H; exact H) | (simp only [hji6] at H ⊢; exact H)
  have hji6w : (IntKind.i64.wrap ((IntKind.u64.wrap (wrap64 (x9_1 + x10_1))) / 2)) = ji6 := (i64_w _).trans hji6
  refine iM H ?_; clear H; intro c7b0 H
  refine iM H ?_; clear H; intro c8b0 H
  refine be H ?_; clear H; intro t393 A9 H
  have HC10 := am H
  clear H
  try go_wp2
  replace BK391 := am (blk_drew BK391.out)
  replace HB := am (below_drew1 HB.out)
  have p392 : 0 ≤ ((ji6) : Int) := of_decide_eq_true as1
  have q392 : (ji6) < (l0.length : Int) := of_decide_eq_true as1
  obtain ⟨ad392, e392, hx392_0, hx392_1, hx392_2, hx392_3⟩ := at_T108 HR0.out (ji6) p392 q392
  have hw392_3 := hx392_3
  have hw392_2 := hx392_2
  have hw392_1 := hx392_1
  have hw392_0 := hx392_0
  cases e392
  replace hx392_0 := cl HB hx392_0
  replace hx392_1 := cl HB hx392_1
  replace hx392_2 := cl HB hx392_2
  replace hx392_3 := cl HB hx392_3
  replace p392 := eq_true p392
  replace q392 := eq_true q392
  refine start_ (n := 8) (S := fun w' => w'.cell? ⟨gb391, 0, none⟩ = some (.int .i64 a1_0) ∧ w'.cell? ⟨gb391, 1, none⟩ = some (.int .i64 a1_1) ∧ w'.cell? ⟨gb391, 2, none⟩ = some (.int .i64 a1_2) ∧ w'.cell? ⟨gb391, 3, none⟩ = some (.int .i64 a1_3) ∧ w'.cell? (ad392.add (((ji6)).toNat * 4)) = some (.int .i64 ((rd_T108 l0 (ji6)).f0)) ∧ w'.cell? ⟨(ad392.add (((ji6)).toNat * 4)).block, (ad392.add (((ji6)).toNat * 4)).off + 1, none⟩ = some (.int .i64 ((rd_T108 l0 (ji6)).f1)) ∧ w'.cell? ⟨(ad392.add (((ji6)).toNat * 4)).block, (ad392.add (((ji6)).toNat * 4)).off + 2, none⟩ = some (.int .i64 ((rd_T108 l0 (ji6)).f2)) ∧ w'.cell? ⟨(ad392.add (((ji6)).toNat * 4)).block, (ad392.add (((ji6)).toNat * 4)).off + 3, none⟩ = some (.int .i64 ((rd_T108 l0 (ji6)).f3))) (ds := []) (bv 8 0) (by kernel_rfl) rfl (by kernel_rfl) ⟨bc BK391 0, bc BK391 1, bc BK391 2, bc BK391 3, (cq HB hw392_0), (cq HB hw392_1), (cq HB hw392_2), (cq HB hw392_3)⟩ (fun hHeld => ?_); refine with_tabW impl_Seen.tab5 impl_Seen.bits5 (fun HT_ HW_ => ?_)
  generalize wr.drew = w11 at BK391 HB hx392_0 hx392_1 hx392_2 hx392_3 hHeld ⊢
  refine pu 0 24 8 1 HT_ ?_
  refine pu 1 25 8 3 HT_ ?_
  refine pu 2 26 8 7 HT_ ?_
  refine pu 3 27 8 15 HT_ ?_
  refine tk 4 28 8 31 HT_ HW_ hHeld ?_
  refine tk 5 29 8 63 HT_ HW_ hHeld ?_
  refine on 6 (some 30) 8 127 HT_ fun K hK => ?_
  refine goesQ_ Try.func128 (by kernel_rfl) rfl #[.agg #[.int .i64 ((rd_T108 l0 (ji6)).f0), .int .i64 ((rd_T108 l0 (ji6)).f1), .int .i64 ((rd_T108 l0 (ji6)).f2), .int .i64 ((rd_T108 l0 (ji6)).f3)], .agg #[.int .i64 a1_0, .int .i64 a1_1, .int .i64 a1_2, .int .i64 a1_3]] (by rfl) rfl rfl (by (try simp only [List.map_toArray, List.map_cons, List.map_nil]); first | done | (simp only [hji6]; rfl) | rfl | (simp only [List.length_drop, List.length_take]; rfl)) ?_
  with_reducible refine (impl_bySpot.calls ((rd_T108 l0 (ji6)).f0) ((rd_T108 l0 (ji6)).f1) ((rd_T108 l0 (ji6)).f2) ((rd_T108 l0 (ji6)).f3) a1_0 a1_1 a1_2 a1_3 t393 _ A9.out).mono ?_
  rintro e w12 ⟨rfl, hb⟩
  refine ⟨_, rfl, ?_⟩
  replace BK391 := bb BK391 hb
  replace HB := am (below_step (bw HB) hb)
  clear hb
  refine hK.out _ _ ⟨bc BK391 0, bc BK391 1, bc BK391 2, bc BK391 3, (cq HB hw392_0), (cq HB hw392_1), (cq HB hw392_2), (cq HB hw392_3)⟩ (fun hHeld => ?_)
  clear hK K
  refine nm (some 30) ?_
  refine pu 7 31 8 255 HT_ ?_
  refine done_ (done_of HT_.out (by kernel_rfl)) ?_
  go_upto_if 31 with (fail)
  (try simp only [Act.put, sa, sz, ss])
  have H := HC10.out
  clear HC10
  refine qI H ?_ ?_ <;> clear H <;> intro c13b0 H
  ·(first | rw [c13b0] | (simp only [i64_w, i32_w]; rw [c13b0]) | skip)
   have H' := am H
   clear H
   go_wp2
   go_roundg k1
   case measure => have := HK1.out; omega
   case rel => exact ⟨(wrap64 ((ji6) + 1)), (x10_1), (by first | rfl | (simp; done) | (simp only [← hji6] <;> (first | rfl | simp)) | (simp [*]; done)), dr, H', ⟨by have := HK1.out; omega⟩, ⟨bp BK391⟩, ⟨bw HB⟩⟩
  (first | rw [c13b0] | (simp only [i64_w, i32_w]; rw [c13b0]) | skip)
  have H' := am H
  clear H
  go_wp2
  go_roundg k1
  case measure => have := HK1.out; omega
  case rel => exact ⟨(x9_1), (ji6), dr, (by first | rfl | (simp; done) | (simp only [← hji6] <;> (first | rfl | simp)) | (simp [*]; done)), H', ⟨by have := HK1.out; omega⟩, ⟨bp BK391⟩, ⟨bw HB⟩⟩
 refine qI H ?_ ?_ <;> clear H <;> intro c14b0 H
 ·refine iM H ?_; clear H; intro c15b0 H
  refine iM H ?_; clear H; intro c16b0 H
  refine be H ?_; clear H; intro t395 A17 H
  simp only [Option.some.injEq, Prod.mk.injEq] at H
  obtain ⟨rfl, rfl⟩ := H
  try go_wp2
  replace BK391 := am (blk_drew BK391.out)
  replace HB := am (below_drew1 HB.out)
  have p394 : 0 ≤ (x9_1 : Int) := of_decide_eq_true as1
  have q394 : x9_1 < (l0.length : Int) := of_decide_eq_true as1
  obtain ⟨ad394, e394, hx394_0, hx394_1, hx394_2, hx394_3⟩ := at_T108 HR0.out x9_1 p394 q394
  have hw394_3 := hx394_3
  have hw394_2 := hx394_2
  have hw394_1 := hx394_1
  have hw394_0 := hx394_0
  cases e394
  replace hx394_0 := cl HB hx394_0
  replace hx394_1 := cl HB hx394_1
  replace hx394_2 := cl HB hx394_2
  replace hx394_3 := cl HB hx394_3
  replace p394 := eq_true p394
  replace q394 := eq_true q394
  refine start_ (n := 16) (S := fun w' => w'.cell? ⟨gb391, 0, none⟩ = some (.int .i64 a1_0) ∧ w'.cell? ⟨gb391, 1, none⟩ = some (.int .i64 a1_1) ∧ w'.cell? ⟨gb391, 2, none⟩ = some (.int .i64 a1_2) ∧ w'.cell? ⟨gb391, 3, none⟩ = some (.int .i64 a1_3) ∧ w'.cell? (ad394.add ((x9_1).toNat * 4)) = some (.int .i64 ((rd_T108 l0 x9_1).f0)) ∧ w'.cell? ⟨(ad394.add ((x9_1).toNat * 4)).block, (ad394.add ((x9_1).toNat * 4)).off + 1, none⟩ = some (.int .i64 ((rd_T108 l0 x9_1).f1)) ∧ w'.cell? ⟨(ad394.add ((x9_1).toNat * 4)).block, (ad394.add ((x9_1).toNat * 4)).off + 2, none⟩ = some (.int .i64 ((rd_T108 l0 x9_1).f2)) ∧ w'.cell? ⟨(ad394.add ((x9_1).toNat * 4)).block, (ad394.add ((x9_1).toNat * 4)).off + 3, none⟩ = some (.int .i64 ((rd_T108 l0 x9_1).f3))) (ds := []) (bv 16 0) (by kernel_rfl) rfl (by kernel_rfl) ⟨bc BK391 0, bc BK391 1, bc BK391 2, bc BK391 3, (cq HB hw394_0), (cq HB hw394_1), (cq HB hw394_2), (cq HB hw394_3)⟩ (fun hHeld => ?_); refine with_tabW impl_Seen.tab8 impl_Seen.bits8 (fun HT_ HW_ => ?_)
  generalize wr.drew = w18 at BK391 HB hx394_0 hx394_1 hx394_2 hx394_3 hHeld ⊢
  refine pu 0 35 16 1 HT_ ?_
  refine pu 1 36 16 3 HT_ ?_
  refine pu 2 37 16 7 HT_ ?_
  refine pu 3 38 16 15 HT_ ?_
  refine pu 4 39 16 31 HT_ ?_
  refine pu 5 40 16 63 HT_ ?_
  refine pu 6 41 16 127 HT_ ?_
  refine pu 7 42 16 255 HT_ ?_
  refine pu 8 43 16 511 HT_ ?_
  refine tk 9 44 16 1023 HT_ HW_ hHeld ?_
  refine tk 10 45 16 2047 HT_ HW_ hHeld ?_
  refine on 11 (some 46) 16 4095 HT_ fun K hK => ?_
  refine goesQ_ Try.func128 (by kernel_rfl) rfl #[.agg #[.int .i64 ((rd_T108 l0 x9_1).f0), .int .i64 ((rd_T108 l0 x9_1).f1), .int .i64 ((rd_T108 l0 x9_1).f2), .int .i64 ((rd_T108 l0 x9_1).f3)], .agg #[.int .i64 a1_0, .int .i64 a1_1, .int .i64 a1_2, .int .i64 a1_3]] (by rfl) rfl rfl gl ?_
  with_reducible refine (impl_bySpot.calls ((rd_T108 l0 x9_1).f0) ((rd_T108 l0 x9_1).f1) ((rd_T108 l0 x9_1).f2) ((rd_T108 l0 x9_1).f3) a1_0 a1_1 a1_2 a1_3 t395 _ A17.out).mono ?_
  rintro e w19 ⟨rfl, hb⟩
  refine ⟨_, rfl, ?_⟩
  replace BK391 := bb BK391 hb
  replace HB := am (below_step (bw HB) hb)
  clear hb
  refine hK.out _ _ ⟨bc BK391 0, bc BK391 1, bc BK391 2, bc BK391 3, (cq HB hw394_0), (cq HB hw394_1), (cq HB hw394_2), (cq HB hw394_3)⟩ (fun hHeld => ?_)
  clear hK K
  refine nm (some 46) ?_
  refine pu 12 47 16 8191 HT_ ?_
  refine pu 13 48 16 16383 HT_ ?_
  refine pu 14 6 16 32767 HT_ ?_
  refine pu 15 7 16 65535 HT_ ?_
  refine done_ (done_of HT_.out (by kernel_rfl)) ?_
  try go_wp2
  go_ret2
  exact ⟨er, bw HB⟩
 simp only [Option.some.injEq, Prod.mk.injEq] at H
 obtain ⟨rfl, rfl⟩ := H
 try go_wp2
 replace BK391 := am (blk_drew BK391.out)
 replace HB := am (below_drew1 HB.out)
 refine start_ (n := 16) (S := fun w' => True) (ds := []) (bv 16 0) (by kernel_rfl) rfl (by kernel_rfl) trivial (fun hHeld => ?_); refine with_tabW impl_Seen.tab8 impl_Seen.bits8 (fun HT_ HW_ => ?_)
 generalize wr.drew = w20 at BK391 HB hHeld ⊢
 refine pu 0 35 16 1 HT_ ?_
 refine pu 1 36 16 3 HT_ ?_
 refine pu 2 37 16 7 HT_ ?_
 refine pu 3 38 16 15 HT_ ?_
 refine pu 4 39 16 31 HT_ ?_
 refine pn 5 40 16 63 HT_ ?_
 refine pn 6 41 16 127 HT_ ?_
 refine pn 7 42 16 255 HT_ ?_
 refine pn 8 43 16 511 HT_ ?_
 refine pn 9 44 16 1023 HT_ ?_
 refine pn 10 45 16 2047 HT_ ?_
 refine pn 11 46 16 4095 HT_ ?_
 refine pn 12 47 16 8191 HT_ ?_
 refine pu 13 48 16 16383 HT_ ?_
 refine pu 14 6 16 32767 HT_ ?_
 refine pu 15 7 16 65535 HT_ ?_
 refine done_ (done_of HT_.out (by kernel_rfl)) ?_
 try go_wp2
 go_ret2
 exact ⟨er, bw HB⟩

def impl_guess.j0 : Nat → Bool → Int → Int → Int → Int → Option (Int)
 | 0, _, _, _, _, _ => none
 | k + 1, x24, x400000, x400001, x400002, x400003 => if x24 = true then (some 1) else (if x400003 = 0 then (if x400002 ≥ 2 then (some 2) else (some 0)) else (some 0))
def impl_guess.f (k : Nat) (l0 : List (S108)) (a1 : Int) (a2 : Int) : Option (Int) := (impl_Seen.f k l0 a1 a2 0 0).bind fun bt396 => (if bt396.2 = true then (if 0 ≤ bt396.1 then (if bt396.1 < (l0.length : Int) then (if ((rd_T108 l0 bt396.1).f2) = 0 then (impl_guess.j0 k (decide (((rd_T108 l0 bt396.1).f3) ≥ 2)) ((rd_T108 l0 bt396.1).f0) ((rd_T108 l0 bt396.1).f1) ((rd_T108 l0 bt396.1).f2) ((rd_T108 l0 bt396.1).f3)) else (impl_guess.j0 k false ((rd_T108 l0 bt396.1).f0) ((rd_T108 l0 bt396.1).f1) ((rd_T108 l0 bt396.1).f2) ((rd_T108 l0 bt396.1).f3))) else (none)) else (none)) else (some 0))
theorem impl_guess.mono_l : ∀ k, (∀ y0 y1 y2 y3 y4, LeO (impl_guess.j0 k y0 y1 y2 y3 y4) (impl_guess.j0 (k + 1) y0 y1 y2 y3 y4))
 | 0 => fun _ _ _ _ _ r h => by simp [impl_guess.j0] at h
 | k + 1 => by
  have ih0 := impl_guess.mono_l k
  ·intro y0 y1 y2 y3 y4
   unfold impl_guess.j0
   with_reducible repeat' first | exact ih0 .. | exact impl_Seen.mono .. | exact LeO.refl _ | exact LeO.none _ | refine LeO.ite ?_ ?_ | refine LeO.bind ?_ (fun _ => ?_)
theorem impl_guess.mono : ∀ a0 a1 a2 k, LeO (impl_guess.f k a0 a1 a2) (impl_guess.f (k + 1) a0 a1 a2) := by
 intro a0 a1 a2 k
 have ih0 := impl_guess.mono_l k
 unfold impl_guess.f
 with_reducible repeat' first | exact ih0 .. | exact impl_Seen.mono .. | exact LeO.refl _ | exact LeO.none _ | refine LeO.ite ?_ ?_ | refine LeO.bind ?_ (fun _ => ?_)
theorem impl_guess.calls (k : Nat) (A0 : Option Addr) (c0 : Nat) (l0 : List (S108)) (a1 : Int) (a2 : Int) (r : Int) (w : World) (hr0 : Kd.C k108 w A0 l0.length l0) (hc0 : l0.length ≤ c0) (h : impl_guess.f k l0 a1 a2 = some r) :
  Calls Try.prog 80 #[.slice A0 l0.length c0, .int .i64 a1, .int .i64 a2] w fun e w' => e = .returned (.int .i64 r) ∧ Below w.heap.size w w' := by
 have hu108 := Try.underlying108
 have HR0 := am hr0
 have HC0 := am hc0
 clear hr0 hc0
 have HB := am (Below.refl w.heap.size w)
 have H : ((impl_Seen.f k l0 a1 a2 0 0).bind fun bt396 => (if bt396.2 = true then (if 0 ≤ bt396.1 then (if bt396.1 < (l0.length : Int) then (if ((rd_T108 l0 bt396.1).f2) = 0 then (impl_guess.j0 k (decide (((rd_T108 l0 bt396.1).f3) ≥ 2)) ((rd_T108 l0 bt396.1).f0) ((rd_T108 l0 bt396.1).f1) ((rd_T108 l0 bt396.1).f2) ((rd_T108 l0 bt396.1).f3)) else (impl_guess.j0 k false ((rd_T108 l0 bt396.1).f0) ((rd_T108 l0 bt396.1).f1) ((rd_T108 l0 bt396.1).f2) ((rd_T108 l0 bt396.1).f3))) else (none)) else (none)) else (some 0))) = some r := h
 clear h
 replace H := Option.bind_eq_some_iff.mp H
 obtain ⟨⟨t396, t397⟩, A40, H⟩ := H
 replace H : (if t397 = true then (if 0 ≤ t396 then (if t396 < (l0.length : Int) then (if ((rd_T108 l0 t396).f2) = 0 then (impl_guess.j0 k (decide (((rd_T108 l0 t396).f3) ≥ 2)) ((rd_T108 l0 t396).f0) ((rd_T108 l0 t396).f1) ((rd_T108 l0 t396).f2) ((rd_T108 l0 t396).f3)) else (impl_guess.j0 k false ((rd_T108 l0 t396).f0) ((rd_T108 l0 t396).f1) ((rd_T108 l0 t396).f2) ((rd_T108 l0 t396).f3))) else (none)) else (none)) else (some 0)) = some r := H
 have A4 := am A40
 clear A40
 have HC5 := am H
 clear H
 go_enter Try.func80, Try.ntmps80
 go_upto_if 19 with (first | ((with_reducible refine gk 142 rfl ?_); refine gB 142 (some 15) Try.func142 #[.slice A0 l0.length c0, .agg #[.int .i64 a1, .int .i64 a2, .int .i64 0, .int .i64 0], (.func (.func 128) #[] #[])] (impl_Seen.calls k _ _ l0 a1 a2 0 0  t396 t397 _ (by repeat (first | exact HR0.out | (with_reducible refine Kd.C_alloc ?_ _) | (with_reducible refine Kd.C_drewN ?_ _) | (with_reducible refine Kd.C_drew ?_))) HC0.out A4.out) ?_; intro w6 hb; replace HB := bs HB hb; clear hb))
 (try simp only [Act.put, sa, sz, ss])
 have H := HC5.out
 clear HC5
 refine qT H ?_ ?_ <;> clear H <;> intro c7 H <;> subst c7
 ·refine iN H ?_; clear H; intro c8 H
  have c8b0 := decide_eq_true c8
  clear c8
  (first | rw [c8b0] | (simp only [i64_w, i32_w]; rw [c8b0]) | skip)
  refine iN H ?_; clear H; intro c9 H
  have c9b0 := decide_eq_true c9
  clear c9
  have HC10 := am H
  clear H
  have p398 : 0 ≤ (t396 : Int) := of_decide_eq_true as1
  have q398 : t396 < (l0.length : Int) := of_decide_eq_true as1
  obtain ⟨ad398, e398, hx398_0, hx398_1, hx398_2, hx398_3⟩ := at_T108 HR0.out t396 p398 q398
  cases e398
  replace hx398_0 := cl HB hx398_0
  replace hx398_1 := cl HB hx398_1
  replace hx398_2 := cl HB hx398_2
  replace hx398_3 := cl HB hx398_3
  replace p398 := eq_true p398
  replace q398 := eq_true q398
  go_upto_region 5 with (first | ((with_reducible refine gd 9 rfl ?_); refine bX 9 #[.int .i64 0, .int .i64 0, .int .i64 0, .int .i64 0] 108 HB ?_; clear HB; intro gb399 w11 hg hb BK399 GW399 HB; clear hb hg; have hcz12 := bK w11 BK399; have hfz12 := bF BK399))
  (try simp only [Act.put, sa, sz, ss])
  go_cut [24] (fun v24 wc => ∃ (kq : Nat) (x24_9 : Bool), v24 = .bool x24_9 ∧ Aside0 (impl_guess.j0 kq x24_9 ((rd_T108 l0 t396).f0) ((rd_T108 l0 t396).f1) ((rd_T108 l0 t396).f2) ((rd_T108 l0 t396).f3) = some r) ∧ Aside0 (kq ≤ k) ∧ Aside0 (wc.heap[gb399]? = some (.cells #[.int .i64 ((rd_T108 l0 t396).f0), .int .i64 ((rd_T108 l0 t396).f1), .int .i64 ((rd_T108 l0 t396).f2), .int .i64 ((rd_T108 l0 t396).f3)] 108 (0, 0))) ∧ Aside0 (Below w.heap.size w wc))
  case first =>
   have H := HC10.out
   clear HC10
   refine qE H ?_ ?_ <;> clear H
   ·intro c13b0 c13b1 H
    (first | rw [c13b0] | (simp only [i64_w, i32_w]; rw [c13b0]) | skip)
    have H' := am H
    clear H
    have hcz14 := bK w11 BK399
    have hfz14 := bF BK399
    go_wp2
    go_meet
    case rel => exact ⟨_, (decide (((rd_T108 l0 t396).f3) ≥ 2)), dr, H', ⟨lk0⟩, ⟨by (with_reducible repeat (first | apply dN | apply dW | apply dA)); refine blk_put (cs := #[.int .i64 ((rd_T108 l0 t396).f0), .int .i64 ((rd_T108 l0 t396).f1), .int .i64 ((rd_T108 l0 t396).f2), .int .i64 0]) ?_ 3 _ rfl; (with_reducible repeat (first | apply dN | apply dW | apply dA)); refine blk_put (cs := #[.int .i64 ((rd_T108 l0 t396).f0), .int .i64 ((rd_T108 l0 t396).f1), .int .i64 0, .int .i64 0]) ?_ 2 _ rfl; (with_reducible repeat (first | apply dN | apply dW | apply dA)); refine blk_put (cs := #[.int .i64 ((rd_T108 l0 t396).f0), .int .i64 0, .int .i64 0, .int .i64 0]) ?_ 1 _ rfl; (with_reducible repeat (first | apply dN | apply dW | apply dA)); refine blk_put (cs := #[.int .i64 0, .int .i64 0, .int .i64 0, .int .i64 0]) ?_ 0 _ rfl; exact bp BK399⟩, ⟨bw HB⟩⟩
   intro c13 c13b0 c13b1 H
   (first | rw [c13b0] | (simp only [i64_w, i32_w]; rw [c13b0]) | skip)
   have H' := am H
   clear H
   have hcz15 := bK w11 BK399
   have hfz15 := bF BK399
   go_wp2
   go_meet
   case rel => exact ⟨_, (false), dr, H', ⟨lk0⟩, ⟨by (with_reducible repeat (first | apply dN | apply dW | apply dA)); refine blk_put (cs := #[.int .i64 ((rd_T108 l0 t396).f0), .int .i64 ((rd_T108 l0 t396).f1), .int .i64 ((rd_T108 l0 t396).f2), .int .i64 0]) ?_ 3 _ rfl; (with_reducible repeat (first | apply dN | apply dW | apply dA)); refine blk_put (cs := #[.int .i64 ((rd_T108 l0 t396).f0), .int .i64 ((rd_T108 l0 t396).f1), .int .i64 0, .int .i64 0]) ?_ 2 _ rfl; (with_reducible repeat (first | apply dN | apply dW | apply dA)); refine blk_put (cs := #[.int .i64 ((rd_T108 l0 t396).f0), .int .i64 0, .int .i64 0, .int .i64 0]) ?_ 1 _ rfl; (with_reducible repeat (first | apply dN | apply dW | apply dA)); refine blk_put (cs := #[.int .i64 0, .int .i64 0, .int .i64 0, .int .i64 0]) ?_ 0 _ rfl; exact bp BK399⟩, ⟨bw HB⟩⟩
  clear HC10
  (try clear c1); (try clear p2); (try clear p3); (try clear q3); (try clear hx3); (try clear c7); (try clear c8); (try clear c8b0); (try clear c9); (try clear c9b0); (try clear c13); (try clear c13b0); (try clear c13b1); (try clear c14); (try clear hcz12); (try clear hcz14); (try clear hcz15); (try clear hfz12); (try clear hfz14); (try clear hfz15); (try clear hx398_0); (try clear hx398_1); (try clear hx398_2); (try clear hx398_3); (try clear p398); (try clear q398)
  obtain ⟨kq, x24_9, rfl, HA, HJ9, BK399, HB⟩ := hcut
  rcases kq with _ | kj9
  ·exact absurd HA.out (by simp [impl_guess.j0])
  have H := HA.out
  clear HA
  simp only [impl_guess.j0] at H
  refine qT H ?_ ?_ <;> clear H <;> intro c16 H <;> subst c16
  ·obtain rfl := Option.some.inj H
   go_wp2
   go_ret
   exact ⟨er, bw HB⟩
  refine qE H ?_ ?_ <;> clear H
  ·intro c17b0 c17b1 H
   refine qL H ?_ ?_ <;> clear H <;> intro c18b0 H
   ·obtain rfl := Option.some.inj H
    have hcz19 := bK wc BK399
    have hfz19 := bF BK399
    go_wp2
    go_ret
    exact ⟨er, bw HB⟩
   obtain rfl := Option.some.inj H
   have hcz20 := bK wc BK399
   have hfz20 := bF BK399
   go_wp2
   go_ret
   exact ⟨er, bw HB⟩
  intro c17 c17b0 c17b1 H
  obtain rfl := Option.some.inj H
  have hcz21 := bK wc BK399
  have hfz21 := bF BK399
  go_wp2
  go_ret
  exact ⟨er, bw HB⟩
 obtain rfl := Option.some.inj H
 go_wp2
 go_ret
 exact ⟨er, bw HB⟩

end Go.Proofs.Ytbmjmaahcaoajaa.QFnExactGuess
