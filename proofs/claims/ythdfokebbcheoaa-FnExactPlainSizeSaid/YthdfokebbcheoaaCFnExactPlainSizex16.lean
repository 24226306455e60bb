import Derived.Test.YthdfokebbcheoaaCFnExactPlainSizex0
import Derived.Test.YthdfokebbcheoaaCFnExactPlainSizex1
import Derived.Test.YthdfokebbcheoaaCFnExactPlainSizex8
import Derived.Test.YthdfokebbcheoaaCFnExactPlainSizex15
namespace Go.Proofs.Ythdfokebbcheoaa.QFnExactPlainSize
open Go.RowKit Go.Proofs.YthdfokebbcheoaaW
open PrintWords PrintLast PrintMore PrintShort PrintIsh
attribute [local go_sem] max2_int min2_int max_two min_two max_three min_three max_four min_four   -- for this text's walks alone
set_option linter.unusedVariables false
set_option maxHeartbeats 8000000
set_option maxRecDepth 100000
set_option linter.unusedSimpArgs false

def laws_FnExactPlainSize.f (k : Nat) (l0_0 : List (S135)) (a1 : Int) : Option (Bool) := (laws_szProgram.f k l0_0 1048576).bind fun t561 => (if t561 < 0 then (some true) else ((laws_toProgram.f k l0_0).bind fun t562 => ((spec_PlainSize.f k t562 a1).bind fun t565 => ((laws_toProgram.f k l0_0).bind fun t566 => ((impl_PlainSize.f k t566 a1).bind fun t570 => (if t570 = t565 then ((laws_toProgram.f k l0_0).bind fun t571 => ((laws_eqProgram.f k t566 t571).bind fun t574 => (if t574 = true then (some true) else (some false)))) else (some false)))))))
theorem laws_FnExactPlainSize.mono : ∀ a0 a1 k, LeO (laws_FnExactPlainSize.f k a0 a1) (laws_FnExactPlainSize.f (k + 1) a0 a1) := by
 intro a0 a1 k
 unfold laws_FnExactPlainSize.f
 with_reducible repeat' first | exact impl_PlainSize.mono .. | exact laws_eqProgram.mono .. | exact laws_szProgram.mono .. | exact laws_toProgram.mono .. | exact spec_PlainSize.mono .. | exact LeO.refl _ | exact LeO.none _ | refine LeO.ite ?_ ?_ | refine LeO.bind ?_ (fun _ => ?_)
theorem laws_FnExactPlainSize.calls (k : Nat) (A0_0 : Option Addr) (c0_0 : Nat) (l0_0 : List (S135)) (a1 : Int) (r : Bool) (w : World) (hr0_0 : Kd.C k135 w A0_0 l0_0.length l0_0) (hc0_0 : l0_0.length ≤ c0_0) (h : laws_FnExactPlainSize.f k l0_0 a1 = some r) :
  Calls Try.prog 3 #[.agg #[.slice A0_0 l0_0.length c0_0], .int .i64 a1] w fun e w' => e = .returned (.bool r) ∧ Below w.heap.size w w' := by
 have hu24 := Try.underlying24
 have hu29 := Try.underlying29
 have HR0_0 := am hr0_0
 have HC0_0 := am hc0_0
 clear hr0_0 hc0_0
 have HB := am (Below.refl w.heap.size w)
 have H : ((laws_szProgram.f k l0_0 1048576).bind fun t561 => (if t561 < 0 then (some true) else ((laws_toProgram.f k l0_0).bind fun t562 => ((spec_PlainSize.f k t562 a1).bind fun t565 => ((laws_toProgram.f k l0_0).bind fun t566 => ((impl_PlainSize.f k t566 a1).bind fun t570 => (if t570 = t565 then ((laws_toProgram.f k l0_0).bind fun t571 => ((laws_eqProgram.f k t566 t571).bind fun t574 => (if t574 = true then (some true) else (some false)))) else (some false)))))))) = some r := h
 clear h
 refine be H ?_; clear H; intro t561 A3 H
 have HC4 := am H
 clear H
 go_enter Try.func3, Try.ntmps3
 go_upto_if 13 with (first | ((with_reducible refine gd 2 rfl ?_); refine bX 2 #[.slice A0_0 l0_0.length c0_0] 24 HB ?_; clear HB; intro gb560 w5 hg hb BK560 GW560 HB; clear hb hg; have hcz6 := bK w5 BK560; have hfz6 := bF BK560) | ((with_reducible refine gk 9 rfl ?_); refine gB 9 (some 11) Try.func9 #[.agg #[.slice A0_0 l0_0.length c0_0], .int .i64 1048576] (laws_szProgram.calls k _ _ l0_0 1048576 t561 _ (cc (Kd.C_below HR0_0.out HB.out)) HC0_0.out A3.out) ?_; intro w7 hb; replace BK560 := bb BK560 hb; replace HB := bs HB hb; clear hb))
 (try simp only [Act.put, sa, sz, ss])
 have H := HC4.out
 clear HC4
 refine qI H ?_ ?_ <;> clear H <;> intro c8b0 H
 ·(first | rw [c8b0] | (simp only [i64_w, i32_w]; rw [c8b0]) | skip)
  obtain rfl := Option.some.inj H
  go_wp2
  go_ret
  exact ⟨er, bw HB⟩
 (first | rw [c8b0] | (simp only [i64_w, i32_w]; rw [c8b0]) | skip)
 refine be H ?_; clear H; intro t562 A9 H
 refine be H ?_; clear H; intro t565 A10 H
 refine be H ?_; clear H; intro t566 A11 H
 refine be H ?_; clear H; intro t570 A12 H
 have HC13 := am H
 clear H
 have hcz14 := bK w7 BK560
 have hfz14 := bF BK560
 go_upto_if 25 with (first | ((with_reducible refine gk 11 rfl ?_); refine gC 11 (some 15) Try.func11 #[.agg #[.slice A0_0 l0_0.length c0_0]] ((laws_toProgram.calls k _ _ l0_0 t562 _ (cc (Kd.C_below HR0_0.out HB.out)) HC0_0.out A9.out).mono ?_); rintro e w15 ⟨v563, rfl, ho0, hb⟩; refine ⟨_, rfl, ?_⟩; have HO564 := am (Kd.S_lower ho0 (below_size (bw HB))); replace BK560 := bb BK560 hb; replace HB := bs HB hb; clear hb; (try clear ho0); obtain ⟨Ao16, co16, eo16⟩ := Kd.S_slice HO564.out; subst eo16) | ((with_reducible refine gk 10 rfl ?_); refine gB 10 (some 17) Try.func10 #[.agg #[.slice Ao16 t562.length co16], .int .i64 a1] (spec_PlainSize.calls k _ _ t562 a1 t565 _ (cc (Kd.S_reads' HO564.out).2.2) ((Kd.S_reads' HO564.out).2.1) A10.out) ?_; intro w17 hb; replace HO564 := am (Kd.S_below (kS HO564) hb); replace BK560 := bb BK560 hb; replace HB := bs HB hb; clear hb; have hcz18 := bK w17 BK560; have hfz18 := bF BK560) | ((with_reducible refine gk 11 rfl ?_); refine gC 11 (some 19) Try.func11 #[.agg #[.slice A0_0 l0_0.length c0_0]] ((laws_toProgram.calls k _ _ l0_0 t566 _ (cc (Kd.C_below HR0_0.out HB.out)) HC0_0.out A11.out).mono ?_); rintro e w19 ⟨v567, rfl, ho0, hb⟩; refine ⟨_, rfl, ?_⟩; have HO568 := am (Kd.S_lower (Kd.S_new' ho0 (Kd.S_lt (kS HO564))) (below_size (bw HB))); replace HO564 := am (Kd.S_elder' (kS HO564) (Kd.S_base ho0) hb); replace BK560 := bb BK560 hb; replace HB := bs HB hb; clear hb; (try clear ho0)) | ((with_reducible refine gd 7 rfl ?_); refine bX 7 #[.slice none 0 0] 29 HB ?_; clear HB; intro gb569 w20 hg hb BK569 GW569 HB; replace HO564 := am (Kd.S_below (kS HO564) hb); replace HO568 := am (Kd.S_below (kS HO568) hb); obtain ⟨NB560_569, NB569_560, BK560⟩ := b3 hg BK560 hb; clear hb hg; obtain ⟨Ao21, co21, eo21⟩ := Kd.S_slice HO568.out; subst eo21; have hnb22 := NB569_560.out; have hnc22 := NB560_569.out; have hcz23 := bK w20 BK569; have hfz23 := bF BK569) | ((with_reducible refine gk 12 rfl ?_); refine gB 12 (some 22) Try.func12 #[.agg #[.slice Ao21 t566.length co21], .int .i64 a1] (impl_PlainSize.calls k _ _ t566 a1 t570 _ (by refine (Kd.S_reads' (e := 93) (base := w.heap.size) (ok := fun k_ => (True ∧ some k_ ≠ (.slice Ao16 t562.length co16 : Value).ownBlock)) (n := t566.length) (c := co21) ?_).2.2; exact (by (with_reducible repeat (first | apply Kd.S_alloc | apply Kd.S_drewN | apply Kd.S_drew)); exact (Kd.S_mono (Kd.S_far (p := ⟨gb569, 0, none⟩) (Kd.S_types HO568.out BK569.out (by decide)) (fun _ hk => hk.2) (.slice Ao21 t566.length co21)) (fun _ h_ => h_.1)))) ((Kd.S_reads' HO568.out).2.1) A12.out) ?_; intro w24 hb; replace HO564 := am (Kd.S_below (by (with_reducible repeat (first | apply Kd.S_alloc | apply Kd.S_drewN | apply Kd.S_drew)); exact (Kd.S_mono (Kd.S_far (p := ⟨gb569, 0, none⟩) (Kd.S_types HO564.out BK569.out (by decide)) (fun _ hk => hk.2) (.slice Ao21 t566.length co21)) (fun _ h_ => h_.1))) hb); replace HO568 := am (Kd.S_below (by (with_reducible repeat (first | apply Kd.S_alloc | apply Kd.S_drewN | apply Kd.S_drew)); exact (Kd.S_mono (Kd.S_far (p := ⟨gb569, 0, none⟩) (Kd.S_types HO568.out BK569.out (by decide)) (fun _ hk => hk.2) (.slice Ao21 t566.length co21)) (fun _ h_ => h_.1))) hb); replace BK560 := bb2 BK560 hb; replace BK569 := bo #[.slice Ao21 t566.length co21] BK569 hb; replace HB := bs HB hb; clear hb))
 (try simp only [Act.put, sa, sz, ss])
 have H := HC13.out
 clear HC13
 refine qE H ?_ ?_ <;> clear H
 ·intro c25b0 c25b1 H
  (first | rw [c25b0] | (simp only [i64_w, i32_w]; rw [c25b0]) | skip)
  refine be H ?_; clear H; intro t571 A26 H
  refine be H ?_; clear H; intro t574 A27 H
  have HC28 := am H
  clear H
  try go_wp2
  replace HO564 := am (Kd.S_drew HO564.out)
  replace HO568 := am (Kd.S_drew HO568.out)
  replace BK560 := am (blk_drew BK560.out)
  replace BK569 := am (blk_drew BK569.out)
  replace HB := am (below_drew1 HB.out)
  refine start_ (n := 5) (S := fun w' => w'.cell? ⟨gb569, 0, none⟩ = some (.slice Ao21 t566.length co21) ∧ w'.cell? ⟨gb560, 0, none⟩ = some (.slice A0_0 l0_0.length c0_0)) (ds := []) (bv 5 0) (by kernel_rfl) rfl (by kernel_rfl) ⟨bc BK569 0, bc BK560 0⟩ (fun hHeld => ?_)
  generalize w24.drew = w29 at HO564 HO568 BK560 BK569 HB hHeld ⊢
  refine take_ (i := 0) (N := some 26) (v := ?_) (a' := ?_) (bv 5 1) rfl rfl (by kernel_rfl) (fun _ _ _ h => h) (Or.inl ⟨by rfl, ?_⟩) hHeld ?_ ?_
  rotate_left
  ·rintro w' ⟨s0, s1⟩
   go_simp
   with_reducible rfl
  rotate_left
  ·simp only [Act.put, sa, sz, ss, i64_w, i32_w]
   rfl
  refine take_ (i := 1) (N := some 27) (v := ?_) (a' := ?_) (bv 5 3) rfl rfl (by kernel_rfl) (fun _ _ _ h => h) (Or.inl ⟨by rfl, ?_⟩) hHeld ?_ ?_
  rotate_left
  ·rintro w' ⟨s0, s1⟩
   go_simp
   with_reducible rfl
  rotate_left
  ·simp only [Act.put, sa, sz, ss, i64_w, i32_w]
   rfl
  refine one_ (i := 2) (N := some 28) (bv 5 7) rfl rfl (by kernel_rfl) (by decide) (fun K hK => ?_)
  refine goes_ Try.func11 (by kernel_rfl) rfl #[.agg #[.slice A0_0 l0_0.length c0_0]] (by rfl) rfl rfl gl ?_
  with_reducible refine (laws_toProgram.calls k _ _ l0_0 t571 _ ?side1 ?side2 A26.out).mono ?_
  (case side1 => exact cc (Kd.C_below HR0_0.out HB.out))
  (case side2 => exact HC0_0.out)
  rintro e w30 ⟨v572, rfl, ho0, hb⟩
  refine ⟨_, rfl, ?_⟩
  have n0_ := am (Kd.S_elder' (kS HO564) (Kd.S_base ho0) hb)
  have n1_ := am (Kd.S_elder' (kS HO568) (Kd.S_base ho0) hb)
  have n2_ := am (Kd.S_lower (Kd.S_new' (Kd.S_new' ho0 (Kd.S_lt (kS HO564))) (Kd.S_lt (kS HO568))) (below_size (bw HB)))
  have n3_ := bb BK560 hb
  have n4_ := bb BK569 hb
  have n5_ := am (below_step (bw HB) hb)
  clear HO564
  clear HO568
  clear BK560
  clear BK569
  clear HB
  have HO564 := n0_
  have HO568 := n1_
  have HO573 := n2_
  have BK560 := n3_
  have BK569 := n4_
  have HB := n5_
  clear n0_ n1_ n2_ n3_ n4_ n5_
  clear hb
  (try clear ho0)
  obtain ⟨Ao31, co31, eo31⟩ := Kd.S_slice HO573.out
  (first | subst eo31 | (injection eo31 with f1_ f2_ f3_; have f4_ := f1_.symm; have f5_ := f3_.symm; clear f1_ f2_ f3_; subst f4_; subst f5_))
  refine hK.out _ _ ⟨bc BK569 0, bc BK560 0⟩ (fun hHeld => ?_)
  clear hK K
  refine nm (some 28) ?_
  refine one_ (i := 3) (N := some 29) (bv 5 15) rfl rfl (by kernel_rfl) (by decide) (fun K hK => ?_)
  refine goes_ Try.func13 (by kernel_rfl) rfl #[.agg #[.slice Ao21 t566.length co21], .agg #[.slice Ao31 t571.length co31]] (by rfl) rfl rfl gl ?_
  with_reducible refine (laws_eqProgram.calls k _ _ t566 _ _ t571 t574 _ ?side1 ?side2 ?side3 ?side4 A27.out).mono ?_
  (case side1 => exact cc (Kd.S_reads' HO568.out).2.2)
  (case side2 => exact (Kd.S_reads' HO568.out).2.1)
  (case side3 => exact cc (Kd.S_reads' HO573.out).2.2)
  (case side4 => exact (Kd.S_reads' HO573.out).2.1)
  rintro e w32 ⟨rfl, hb⟩
  refine ⟨_, rfl, ?_⟩
  replace HO564 := am (Kd.S_below (kS HO564) hb)
  replace HO568 := am (Kd.S_below (kS HO568) hb)
  replace HO573 := am (Kd.S_below (kS HO573) hb)
  replace BK560 := bb BK560 hb
  replace BK569 := bb BK569 hb
  replace HB := am (below_step (bw HB) hb)
  clear hb
  refine hK.out _ _ ⟨bc BK569 0, bc BK560 0⟩ (fun hHeld => ?_)
  clear hK K
  refine nm (some 29) ?_
  refine pure_ (i := 4) (N := some 30) (v := ?_) (a' := ?_) (bv 5 31) rfl rfl (by kernel_rfl) (fun _ _ _ h => h) (Or.inl ⟨by rfl, ?_⟩) ?_ ?_
  rotate_left
  ·intro w'
   go_simp
   with_reducible rfl
  rotate_left
  ·simp only [Act.put, sa, sz, ss, i64_w, i32_w]
   rfl
  refine done_ (by kernel_rfl) ?_
  go_upto_if 30 with (fail)
  (try simp only [Act.put, sa, sz, ss])
  have H := HC28.out
  clear HC28
  refine qT H ?_ ?_ <;> clear H <;> intro c33 H <;> subst c33
  ·obtain rfl := Option.some.inj H
   go_wp2
   go_ret
   exact ⟨er, bw HB⟩
  obtain rfl := Option.some.inj H
  go_wp2
  go_ret
  exact ⟨er, bw HB⟩
 intro c25 c25b0 c25b1 H
 (first | rw [c25b0] | (simp only [i64_w, i32_w]; rw [c25b0]) | skip)
 obtain rfl := Option.some.inj H
 go_wp2
 go_ret
 exact ⟨er, bw HB⟩

end Go.Proofs.Ythdfokebbcheoaa.QFnExactPlainSize
