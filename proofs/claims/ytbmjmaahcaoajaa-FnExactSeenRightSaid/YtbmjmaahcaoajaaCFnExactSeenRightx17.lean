import Derived.Test.YtbmjmaahcaoajaaCFnExactSeenRightx0
import Derived.Test.YtbmjmaahcaoajaaCFnExactSeenRightx1
import Derived.Test.YtbmjmaahcaoajaaCFnExactSeenRightx3
import Derived.Test.YtbmjmaahcaoajaaCFnExactSeenRightx9
import Derived.Test.YtbmjmaahcaoajaaCFnExactSeenRightx10
import Derived.Test.YtbmjmaahcaoajaaCFnExactSeenRightx16
namespace Go.Proofs.Ytbmjmaahcaoajaa.QFnExactSeenRight
open Go.RowKit Go.Proofs.YtbmjmaahcaoajaaW
open PrintWords PrintLast PrintMore PrintShort
attribute [local go_sem] max2_int min2_int max_two min_two max_three min_three max_four min_four   -- for this text's walks alone
set_option linter.unusedVariables false
set_option maxHeartbeats 8000000
set_option maxRecDepth 100000
set_option linter.unusedSimpArgs false

def laws_FnExactSeenRight.f (k : Nat) (l0_0 : List (S165)) (l1 : List (S112)) : Option (Bool) := (laws_szProgram.f k l0_0 1048576).bind fun t392 => (if t392 < 0 then (some true) else ((laws_szSeenS.f l1 t392).bind fun t393 => (if t393 < 0 then (some true) else ((laws_toProgram.f k l0_0).bind fun t394 => ((laws_toSeenS.f k l1).bind fun t397 => ((spec_SeenRight.f k t394 t397).bind fun t400 => ((laws_toProgram.f k l0_0).bind fun t401 => ((laws_toSeenS.f k l1).bind fun t405 => ((impl_SeenRight.f k t401 t405).bind fun t408 => (if (t408 != t400) = true then (some false) else ((laws_toProgram.f k l0_0).bind fun t409 => ((laws_eqProgram.f k t401 t409).bind fun t412 => (if t412 = true then ((laws_toSeenS.f k l1).bind fun t413 => ((laws_eqSeenS.f k t405 t413).bind fun t416 => (if t416 = true then (some true) else (some false)))) else (some false))))))))))))))
theorem laws_FnExactSeenRight.mono : ∀ a0 a1 k, LeO (laws_FnExactSeenRight.f k a0 a1) (laws_FnExactSeenRight.f (k + 1) a0 a1) := by
 intro a0 a1 k
 unfold laws_FnExactSeenRight.f
 with_reducible repeat' first | exact impl_SeenRight.mono .. | exact laws_eqProgram.mono .. | exact laws_eqSeenS.mono .. | exact laws_szProgram.mono .. | exact laws_toProgram.mono .. | exact laws_toSeenS.mono .. | exact spec_SeenRight.mono .. | exact LeO.refl _ | exact LeO.none _ | refine LeO.ite ?_ ?_ | refine LeO.bind ?_ (fun _ => ?_)
theorem laws_FnExactSeenRight.calls (k : Nat) (A0_0 : Option Addr) (c0_0 : Nat) (l0_0 : List (S165)) (A1 : Option Addr) (c1 : Nat) (l1 : List (S112)) (r : Bool) (w : World) (hr0_0 : Kd.C k165 w A0_0 l0_0.length l0_0) (hc0_0 : l0_0.length ≤ c0_0) (hr1 : Kd.C k112 w A1 l1.length l1) (hc1 : l1.length ≤ c1) (h : laws_FnExactSeenRight.f k l0_0 l1 = some r) :
  Calls Try.prog 6 #[.agg #[.slice A0_0 l0_0.length c0_0], .slice A1 l1.length c1] w fun e w' => e = .returned (.bool r) ∧ Below w.heap.size w w' := by
 have hu24 := Try.underlying24
 have hu30 := Try.underlying30
 have HR0_0 := am hr0_0
 have HC0_0 := am hc0_0
 clear hr0_0 hc0_0
 have HR1 := am hr1
 have HC1 := am hc1
 clear hr1 hc1
 have HB := am (Below.refl w.heap.size w)
 have H : ((laws_szProgram.f k l0_0 1048576).bind fun t392 => (if t392 < 0 then (some true) else ((laws_szSeenS.f l1 t392).bind fun t393 => (if t393 < 0 then (some true) else ((laws_toProgram.f k l0_0).bind fun t394 => ((laws_toSeenS.f k l1).bind fun t397 => ((spec_SeenRight.f k t394 t397).bind fun t400 => ((laws_toProgram.f k l0_0).bind fun t401 => ((laws_toSeenS.f k l1).bind fun t405 => ((impl_SeenRight.f k t401 t405).bind fun t408 => (if (t408 != t400) = true then (some false) else ((laws_toProgram.f k l0_0).bind fun t409 => ((laws_eqProgram.f k t401 t409).bind fun t412 => (if t412 = true then ((laws_toSeenS.f k l1).bind fun t413 => ((laws_eqSeenS.f k t405 t413).bind fun t416 => (if t416 = true then (some true) else (some false)))) else (some false))))))))))))))) = some r := h
 clear h
 refine be H ?_; clear H; intro t392 A3 H
 refine qI H ?_ ?_ <;> clear H <;> intro c4b0 H
 ·obtain rfl := Option.some.inj H
  go_enter Try.func6, Try.ntmps6
  go_wp2_with (first | ((with_reducible refine gd 2 rfl ?_); refine bX 2 #[.slice A0_0 l0_0.length c0_0] 24 HB ?_; clear HB; intro gb391 w5 hg hb BK391 GW391 HB; clear hb hg; have hcz6 := bK w5 BK391; have hfz6 := bF BK391) | ((with_reducible refine gk 14 rfl ?_); refine gB 14 (some 12) Try.func14 #[.agg #[.slice A0_0 l0_0.length c0_0], .int .i64 1048576] (laws_szProgram.calls k _ _ l0_0 1048576 t392 _ (cc (Kd.C_below HR0_0.out HB.out)) HC0_0.out A3.out) ?_; intro w7 hb; replace BK391 := bb BK391 hb; replace HB := bs HB hb; clear hb))
  go_ret
  exact ⟨er, bw HB⟩
 refine be H ?_; clear H; intro t393 A8 H
 have HC9 := am H
 clear H
 go_enter Try.func6, Try.ntmps6
 go_upto_region 5 with (first | ((with_reducible refine gd 2 rfl ?_); refine bX 2 #[.slice A0_0 l0_0.length c0_0] 24 HB ?_; clear HB; intro gb391 w10 hg hb BK391 GW391 HB; clear hb hg; have hcz11 := bK w10 BK391; have hfz11 := bF BK391) | ((with_reducible refine gk 14 rfl ?_); refine gB 14 (some 12) Try.func14 #[.agg #[.slice A0_0 l0_0.length c0_0], .int .i64 1048576] (laws_szProgram.calls k _ _ l0_0 1048576 t392 _ (cc (Kd.C_below HR0_0.out HB.out)) HC0_0.out A3.out) ?_; intro w12 hb; replace BK391 := bb BK391 hb; replace HB := bs HB hb; clear hb))
 (try simp only [Act.put, sa, sz, ss])
 have H := HC9.out
 clear HC9
 refine qI H ?_ ?_ <;> clear H <;> intro c13b0 H
 ·obtain rfl := Option.some.inj H
  go_wp2_with (first | ((with_reducible refine gk 27 rfl ?_); refine gD 27 (some 17) Try.func27 #[.slice A1 l1.length c1, .int .i64 t392] (laws_szSeenS.calls _ _ l1 t392 t393 _ (cc (Kd.C_below HR1.out HB.out)) HC1.out A8.out) ?_; intro nd))
  go_ret
  exact ⟨er, bw HB⟩
 refine be H ?_; clear H; intro t394 A14 H
 refine be H ?_; clear H; intro t397 A15 H
 refine be H ?_; clear H; intro t400 A16 H
 refine be H ?_; clear H; intro t401 A17 H
 refine be H ?_; clear H; intro t405 A18 H
 refine be H ?_; clear H; intro t408 A19 H
 have HC20 := am H
 clear H
 go_upto_region 11 with (first | ((with_reducible refine gk 27 rfl ?_); refine gD 27 (some 17) Try.func27 #[.slice A1 l1.length c1, .int .i64 t392] (laws_szSeenS.calls _ _ l1 t392 t393 _ (cc (Kd.C_below HR1.out HB.out)) HC1.out A8.out) ?_; intro nd; (try (rw [drewN_self w12]; generalize hq_ : World.drewN w12 _ = w12; have n0_ : Aside0 (w12.heap[gb391]? = some (.cells #[.slice A0_0 l0_0.length c0_0] 24 (0, 0))) := ⟨by rw [← hq_]; exact (bp BK391)⟩; have n1_ : Aside0 (Below w.heap.size w w12) := ⟨by rw [← hq_]; exact (bw HB)⟩; clear BK391 HB hq_; have BK391 := n0_; have HB := n1_; clear n0_ n1_)); have hcz21 := bK w12 BK391; have hfz21 := bF BK391) | ((with_reducible refine gk 16 rfl ?_); refine gC 16 (some 21) Try.func16 #[.agg #[.slice A0_0 l0_0.length c0_0]] ((laws_toProgram.calls k _ _ l0_0 t394 _ (cc (Kd.C_below HR0_0.out HB.out)) HC0_0.out A14.out).mono ?_); rintro e w22 ⟨v395, rfl, ho0, hb⟩; refine ⟨_, rfl, ?_⟩; have HO396 := am (Kd.S_lower ho0 (below_size (bw HB))); replace BK391 := bb BK391 hb; replace HB := bs HB hb; clear hb; (try clear ho0)) | ((with_reducible refine gk 29 rfl ?_); refine gC 29 (some 23) Try.func29 #[.slice A1 l1.length c1] ((laws_toSeenS.calls k _ _ l1 t397 _ (cc (Kd.C_below HR1.out HB.out)) HC1.out A15.out).mono ?_); rintro e w23 ⟨v398, rfl, ho0, hb⟩; refine ⟨_, rfl, ?_⟩; replace HO396 := am (Kd.S_below (kS HO396) hb); have HO399 := am (Kd.R_lower ho0 (below_size (bw HB))); replace BK391 := bb BK391 hb; replace HB := bs HB hb; clear hb; (try clear ho0); obtain ⟨Ao24, co24, eo24⟩ := Kd.S_slice HO396.out; subst eo24; obtain ⟨Ao25, co25, eo25⟩ := Kd.R_slice HO399.out; subst eo25) | ((with_reducible refine gk 28 rfl ?_); refine gB 28 (some 24) Try.func28 #[.agg #[.slice Ao24 t394.length co24], .slice Ao25 t397.length co25] (spec_SeenRight.calls k _ _ t394 _ _ t397 t400 _ (cc (Kd.S_reads' HO396.out).2.2) ((Kd.S_reads' HO396.out).2.1) (cc (Kd.R_reads' HO399.out).2.2) ((Kd.R_reads' HO399.out).2.1) A16.out) ?_; intro w26 hb; replace HO396 := am (Kd.S_below (kS HO396) hb); replace HO399 := am (Kd.R_below (kR HO399) hb); replace BK391 := bb BK391 hb; replace HB := bs HB hb; clear hb; have hcz27 := bK w26 BK391; have hfz27 := bF BK391) | ((with_reducible refine gk 16 rfl ?_); refine gC 16 (some 26) Try.func16 #[.agg #[.slice A0_0 l0_0.length c0_0]] ((laws_toProgram.calls k _ _ l0_0 t401 _ (cc (Kd.C_below HR0_0.out HB.out)) HC0_0.out A17.out).mono ?_); rintro e w28 ⟨v402, rfl, ho0, hb⟩; refine ⟨_, rfl, ?_⟩; replace HO399 := am (Kd.R_below (kR HO399) hb); have HO403 := am (Kd.S_lower (Kd.S_new' ho0 (Kd.S_lt (kS HO396))) (below_size (bw HB))); replace HO396 := am (Kd.S_elder' (kS HO396) (Kd.S_base ho0) hb); replace BK391 := bb BK391 hb; replace HB := bs HB hb; clear hb; (try clear ho0)) | ((with_reducible refine gd 7 rfl ?_); refine bX 7 #[.slice none 0 0] 30 HB ?_; clear HB; intro gb404 w29 hg hb BK404 GW404 HB; replace HO396 := am (Kd.S_below (kS HO396) hb); replace HO399 := am (Kd.R_below (kR HO399) hb); replace HO403 := am (Kd.S_below (kS HO403) hb); obtain ⟨NB391_404, NB404_391, BK391⟩ := b3 hg BK391 hb; clear hb hg; obtain ⟨Ao30, co30, eo30⟩ := Kd.S_slice HO403.out; subst eo30; have hnb31 := NB404_391.out; have hnc31 := NB391_404.out; have hcz32 := bK w29 BK404; have hfz32 := bF BK404) | ((with_reducible refine gk 29 rfl ?_); refine gC 29 (some 28) Try.func29 #[.slice A1 l1.length c1] ((laws_toSeenS.calls k _ _ l1 t405 _ (Kd.C_below HR1.out (bw HB)) HC1.out A18.out).mono ?_); rintro e w33 ⟨v406, rfl, ho0, hb⟩; refine ⟨_, rfl, ?_⟩; replace HO396 := am (Kd.S_below (by (with_reducible repeat (first | apply Kd.S_alloc | apply Kd.S_drewN | apply Kd.S_drew)); exact (Kd.S_mono (Kd.S_far (p := ⟨gb404, 0, none⟩) (Kd.S_types HO396.out BK404.out (by decide)) (fun _ hk => hk.2) (.slice Ao30 t401.length co30)) (fun _ h_ => h_.1))) hb); replace HO403 := am (Kd.S_below (by (with_reducible repeat (first | apply Kd.S_alloc | apply Kd.S_drewN | apply Kd.S_drew)); exact (Kd.S_mono (Kd.S_far (p := ⟨gb404, 0, none⟩) (Kd.S_types HO403.out BK404.out (by decide)) (fun _ hk => hk.2) (.slice Ao30 t401.length co30)) (fun _ h_ => h_.1))) hb); have HO407 := am (Kd.R_lower (Kd.R_new' ho0 (Kd.R_lt (by (with_reducible repeat (first | apply Kd.R_alloc | apply Kd.R_drewN | apply Kd.R_drew)); exact (Kd.R_mono (Kd.R_far (p := ⟨gb404, 0, none⟩) (Kd.R_types HO399.out BK404.out (by decide)) (fun _ hk => hk.2) (.slice Ao30 t401.length co30)) (fun _ h_ => h_.1))))) (below_size (bw HB))); replace HO399 := am (Kd.R_elder' (by (with_reducible repeat (first | apply Kd.R_alloc | apply Kd.R_drewN | apply Kd.R_drew)); exact (Kd.R_mono (Kd.R_far (p := ⟨gb404, 0, none⟩) (Kd.R_types HO399.out BK404.out (by decide)) (fun _ hk => hk.2) (.slice Ao30 t401.length co30)) (fun _ h_ => h_.1))) (Kd.R_base ho0) hb); replace BK391 := bb2 BK391 hb; replace BK404 := bo #[.slice Ao30 t401.length co30] BK404 hb; replace HB := bs HB hb; clear hb; (try clear ho0)))
 (try simp only [Act.put, sa, sz, ss])
 have H := HC20.out
 clear HC20
 by_cases c34 : (t408 != t400) = true
 ·rw [if_pos c34] at H
  have c34b0 : (t408 != t400) = true := c34
  (try (have c34b1 : decide (t408 = t400) = false := by simpa using c34))
  (try (have c34b2 : (t408 == t400) = false := by simpa using c34))
  (try (have c34b3 : ¬ (t408 = t400) := by simpa using c34))
  clear c34
  obtain rfl := Option.some.inj H
  have hnb35 := NB404_391.out
  have hnc35 := NB391_404.out
  have hcz36 := bK w33 BK404
  have hfz36 := bF BK404
  have nd0_ := am (Kd.S_mono (ok' := (fun _ => True)) (HO403.out) (fun k_ hk_ => trivial))
  have nd1_ := am (Kd.R_mono (ok' := (fun _ => True)) (HO407.out) (fun k_ hk_ => trivial))
  (try clear HO396)
  (try clear HO399)
  (try clear HO403)
  (try clear HO407)
  have HO403 := nd0_
  have HO407 := nd1_
  clear nd0_ nd1_
  obtain ⟨Ao37, co37, eo37⟩ := Kd.R_slice HO407.out
  subst eo37
  go_wp2_with (first | ((with_reducible refine gk 30 rfl ?_); refine gB 30 (some 31) Try.func30 #[.agg #[.slice Ao30 t401.length co30], .slice Ao37 t405.length co37] (impl_SeenRight.calls k _ _ t401 _ _ t405 t408 _ (cc (Kd.S_reads' HO403.out).2.2) ((Kd.S_reads' HO403.out).2.1) (cc (Kd.R_reads' HO407.out).2.2) ((Kd.R_reads' HO407.out).2.1) A19.out) ?_; intro w38 hb; replace HO403 := am (Kd.S_below (kS HO403) hb); replace HO407 := am (Kd.R_below (kR HO407) hb); replace BK391 := bb BK391 hb; replace BK404 := bb BK404 hb; replace HB := bs HB hb; clear hb))
  go_ret
  exact ⟨er, bw HB⟩
 rw [if_neg c34] at H
 have c34b0 : (t408 != t400) = false := by simpa using c34
 (try (have c34b1 : decide (t408 = t400) = true := by simpa using c34))
 (try (have c34b2 : (t408 == t400) = true := by simpa using c34))
 clear c34
 refine be H ?_; clear H; intro t409 A39 H
 refine be H ?_; clear H; intro t412 A40 H
 refine qT H ?_ ?_ <;> clear H <;> intro c41 H <;> subst c41
 ·refine be H ?_; clear H; intro t413 A42 H
  refine be H ?_; clear H; intro t416 A43 H
  have HC44 := am H
  clear H
  have hnb45 := NB404_391.out
  have hnc45 := NB391_404.out
  have hcz46 := bK w33 BK404
  have hfz46 := bF BK404
  obtain ⟨Ao47, co47, eo47⟩ := Kd.R_slice HO407.out
  subst eo47
  try go_wp2_with (first | ((with_reducible refine gk 30 rfl ?_); refine gB 30 (some 31) Try.func30 #[.agg #[.slice Ao30 t401.length co30], .slice Ao47 t405.length co47] (impl_SeenRight.calls k _ _ t401 _ _ t405 t408 _ (cc (Kd.S_reads' HO403.out).2.2) ((Kd.S_reads' HO403.out).2.1) (cc (Kd.R_reads' HO407.out).2.2) ((Kd.R_reads' HO407.out).2.1) A19.out) ?_; intro w48 hb; replace HO396 := am (Kd.S_below (kS HO396) hb); replace HO399 := am (Kd.R_below (kR HO399) hb); replace HO403 := am (Kd.S_below (kS HO403) hb); replace HO407 := am (Kd.R_below (kR HO407) hb); replace BK391 := bb BK391 hb; replace BK404 := bb BK404 hb; replace HB := bs HB hb; clear hb))
  replace HO396 := am (Kd.S_drew HO396.out)
  replace HO399 := am (Kd.R_drew HO399.out)
  replace HO403 := am (Kd.S_drew HO403.out)
  replace HO407 := am (Kd.R_drew HO407.out)
  replace BK391 := am (blk_drew BK391.out)
  replace BK404 := am (blk_drew BK404.out)
  replace HB := am (below_drew1 HB.out)
  refine start_ (n := 5) (S := fun w' => w'.cell? ⟨gb404, 0, none⟩ = some (.slice Ao30 t401.length co30) ∧ w'.cell? ⟨gb391, 0, none⟩ = some (.slice A0_0 l0_0.length c0_0)) (ds := []) (bv 5 0) (by kernel_rfl) rfl (by kernel_rfl) ⟨bc BK404 0, bc BK391 0⟩ (fun hHeld => ?_)
  generalize w48.drew = w49 at HO396 HO399 HO403 HO407 BK391 BK404 HB hHeld ⊢
  refine take_ (i := 0) (N := some 35) (v := ?_) (a' := ?_) (bv 5 1) rfl rfl (by kernel_rfl) (fun _ _ _ h => h) (Or.inl ⟨by rfl, ?_⟩) hHeld ?_ ?_
  rotate_left
  ·rintro w' ⟨s0, s1⟩
   go_simp
   with_reducible rfl
  rotate_left
  ·simp only [Act.put, sa, sz, ss, i64_w, i32_w]
   rfl
  refine take_ (i := 1) (N := some 36) (v := ?_) (a' := ?_) (bv 5 3) rfl rfl (by kernel_rfl) (fun _ _ _ h => h) (Or.inl ⟨by rfl, ?_⟩) hHeld ?_ ?_
  rotate_left
  ·rintro w' ⟨s0, s1⟩
   go_simp
   with_reducible rfl
  rotate_left
  ·simp only [Act.put, sa, sz, ss, i64_w, i32_w]
   rfl
  refine one_ (i := 2) (N := some 37) (bv 5 7) rfl rfl (by kernel_rfl) (by decide) (fun K hK => ?_)
  refine goes_ Try.func16 (by kernel_rfl) rfl #[.agg #[.slice A0_0 l0_0.length c0_0]] (by rfl) rfl rfl gl ?_
  with_reducible refine (laws_toProgram.calls k _ _ l0_0 t409 _ ?side1 ?side2 A39.out).mono ?_
  (case side1 => exact cc (Kd.C_below HR0_0.out HB.out))
  (case side2 => exact HC0_0.out)
  rintro e w50 ⟨v410, rfl, ho0, hb⟩
  refine ⟨_, rfl, ?_⟩
  have n0_ := am (Kd.S_elder' (kS HO396) (Kd.S_base ho0) hb)
  have n1_ := am (Kd.R_below (kR HO399) hb)
  have n2_ := am (Kd.S_elder' (kS HO403) (Kd.S_base ho0) hb)
  have n3_ := am (Kd.R_below (kR HO407) hb)
  have n4_ := am (Kd.S_lower (Kd.S_new' (Kd.S_new' ho0 (Kd.S_lt (kS HO396))) (Kd.S_lt (kS HO403))) (below_size (bw HB)))
  have n5_ := bb BK391 hb
  have n6_ := bb BK404 hb
  have n7_ := am (below_step (bw HB) hb)
  clear HO396
  clear HO399
  clear HO403
  clear HO407
  clear BK391
  clear BK404
  clear HB
  have HO396 := n0_
  have HO399 := n1_
  have HO403 := n2_
  have HO407 := n3_
  have HO411 := n4_
  have BK391 := n5_
  have BK404 := n6_
  have HB := n7_
  clear n0_ n1_ n2_ n3_ n4_ n5_ n6_ n7_
  clear hb
  (try clear ho0)
  obtain ⟨Ao51, co51, eo51⟩ := Kd.S_slice HO411.out
  (first | subst eo51 | (injection eo51 with f1_ f2_ f3_; have f4_ := f1_.symm; have f5_ := f3_.symm; clear f1_ f2_ f3_; subst f4_; subst f5_))
  refine hK.out _ _ ⟨bc BK404 0, bc BK391 0⟩ (fun hHeld => ?_)
  clear hK K
  refine nm (some 37) ?_
  refine one_ (i := 3) (N := some 38) (bv 5 15) rfl rfl (by kernel_rfl) (by decide) (fun K hK => ?_)
  refine goes_ Try.func19 (by kernel_rfl) rfl #[.agg #[.slice Ao30 t401.length co30], .agg #[.slice Ao51 t409.length co51]] (by rfl) rfl rfl gl ?_
  with_reducible refine (laws_eqProgram.calls k _ _ t401 _ _ t409 true _ ?side1 ?side2 ?side3 ?side4 A40.out).mono ?_
  (case side1 => exact cc (Kd.S_reads' HO403.out).2.2)
  (case side2 => exact (Kd.S_reads' HO403.out).2.1)
  (case side3 => exact cc (Kd.S_reads' HO411.out).2.2)
  (case side4 => exact (Kd.S_reads' HO411.out).2.1)
  rintro e w52 ⟨rfl, hb⟩
  refine ⟨_, rfl, ?_⟩
  replace HO396 := am (Kd.S_below (kS HO396) hb)
  replace HO399 := am (Kd.R_below (kR HO399) hb)
  replace HO403 := am (Kd.S_below (kS HO403) hb)
  replace HO407 := am (Kd.R_below (kR HO407) hb)
  replace HO411 := am (Kd.S_below (kS HO411) hb)
  replace BK391 := bb BK391 hb
  replace BK404 := bb BK404 hb
  replace HB := am (below_step (bw HB) hb)
  clear hb
  refine hK.out _ _ ⟨bc BK404 0, bc BK391 0⟩ (fun hHeld => ?_)
  clear hK K
  refine nm (some 38) ?_
  refine pure_ (i := 4) (N := some 39) (v := ?_) (a' := ?_) (bv 5 31) rfl rfl (by kernel_rfl) (fun _ _ _ h => h) (Or.inl ⟨by rfl, ?_⟩) ?_ ?_
  rotate_left
  ·intro w'
   go_simp
   with_reducible rfl
  rotate_left
  ·simp only [Act.put, sa, sz, ss, i64_w, i32_w]
   rfl
  refine done_ (by kernel_rfl) ?_
  go_upto_region 16 with (fail)
  (try simp only [Act.put, sa, sz, ss])
  have H := HC44.out
  clear HC44
  refine qT H ?_ ?_ <;> clear H <;> intro c53 H <;> subst c53
  ·obtain rfl := Option.some.inj H
   have nd0_ := am (Kd.R_mono (ok' := (fun _ => True)) (HO407.out) (fun k_ hk_ => trivial))
   (try clear HO396)
   (try clear HO399)
   (try clear HO403)
   (try clear HO411)
   (try clear HO407)
   have HO407 := nd0_
   clear nd0_
   go_wp2_with (first | ((with_reducible refine gk 29 rfl ?_); refine gC 29 (some 42) Try.func29 #[.slice A1 l1.length c1] ((laws_toSeenS.calls k _ _ l1 t413 _ (cc (Kd.C_below HR1.out HB.out)) HC1.out A42.out).mono ?_); rintro e w54 ⟨v414, rfl, ho0, hb⟩; refine ⟨_, rfl, ?_⟩; have HO415 := am (Kd.R_lower (Kd.R_new' ho0 (Kd.R_lt (kR HO407))) (below_size (bw HB))); replace HO407 := am (Kd.R_elder' (kR HO407) (Kd.R_base ho0) hb); replace BK391 := bb BK391 hb; replace BK404 := bb BK404 hb; replace HB := bs HB hb; clear hb; (try clear ho0); obtain ⟨Ao55, co55, eo55⟩ := Kd.R_slice HO415.out; subst eo55) | ((with_reducible refine gk 31 rfl ?_); refine gB 31 (some 43) Try.func31 #[.slice Ao47 t405.length co47, .slice Ao55 t413.length co55] (laws_eqSeenS.calls k _ _ t405 _ _ t413 true _ (cc (Kd.R_reads' HO407.out).2.2) ((Kd.R_reads' HO407.out).2.1) (cc (Kd.R_reads' HO415.out).2.2) ((Kd.R_reads' HO415.out).2.1) A43.out) ?_; intro w56 hb; replace HO407 := am (Kd.R_below (kR HO407) hb); replace HO415 := am (Kd.R_below (kR HO415) hb); replace BK391 := bb BK391 hb; replace BK404 := bb BK404 hb; replace HB := bs HB hb; clear hb))
   go_ret
   exact ⟨er, bw HB⟩
  obtain rfl := Option.some.inj H
  have nd0_ := am (Kd.R_mono (ok' := (fun _ => True)) (HO407.out) (fun k_ hk_ => trivial))
  (try clear HO396)
  (try clear HO399)
  (try clear HO403)
  (try clear HO411)
  (try clear HO407)
  have HO407 := nd0_
  clear nd0_
  go_wp2_with (first | ((with_reducible refine gk 29 rfl ?_); refine gC 29 (some 42) Try.func29 #[.slice A1 l1.length c1] ((laws_toSeenS.calls k _ _ l1 t413 _ (cc (Kd.C_below HR1.out HB.out)) HC1.out A42.out).mono ?_); rintro e w57 ⟨v414, rfl, ho0, hb⟩; refine ⟨_, rfl, ?_⟩; have HO415 := am (Kd.R_lower (Kd.R_new' ho0 (Kd.R_lt (kR HO407))) (below_size (bw HB))); replace HO407 := am (Kd.R_elder' (kR HO407) (Kd.R_base ho0) hb); replace BK391 := bb BK391 hb; replace BK404 := bb BK404 hb; replace HB := bs HB hb; clear hb; (try clear ho0); obtain ⟨Ao58, co58, eo58⟩ := Kd.R_slice HO415.out; subst eo58) | ((with_reducible refine gk 31 rfl ?_); refine gB 31 (some 43) Try.func31 #[.slice Ao47 t405.length co47, .slice Ao58 t413.length co58] (laws_eqSeenS.calls k _ _ t405 _ _ t413 false _ (cc (Kd.R_reads' HO407.out).2.2) ((Kd.R_reads' HO407.out).2.1) (cc (Kd.R_reads' HO415.out).2.2) ((Kd.R_reads' HO415.out).2.1) A43.out) ?_; intro w59 hb; replace HO407 := am (Kd.R_below (kR HO407) hb); replace HO415 := am (Kd.R_below (kR HO415) hb); replace BK391 := bb BK391 hb; replace BK404 := bb BK404 hb; replace HB := bs HB hb; clear hb))
  go_ret
  exact ⟨er, bw HB⟩
 obtain rfl := Option.some.inj H
 have hnb60 := NB404_391.out
 have hnc60 := NB391_404.out
 have hcz61 := bK w33 BK404
 have hfz61 := bF BK404
 obtain ⟨Ao62, co62, eo62⟩ := Kd.R_slice HO407.out
 subst eo62
 try go_wp2_with (first | ((with_reducible refine gk 30 rfl ?_); refine gB 30 (some 31) Try.func30 #[.agg #[.slice Ao30 t401.length co30], .slice Ao62 t405.length co62] (impl_SeenRight.calls k _ _ t401 _ _ t405 t408 _ (cc (Kd.S_reads' HO403.out).2.2) ((Kd.S_reads' HO403.out).2.1) (cc (Kd.R_reads' HO407.out).2.2) ((Kd.R_reads' HO407.out).2.1) A19.out) ?_; intro w63 hb; replace HO396 := am (Kd.S_below (kS HO396) hb); replace HO399 := am (Kd.R_below (kR HO399) hb); replace HO403 := am (Kd.S_below (kS HO403) hb); replace HO407 := am (Kd.R_below (kR HO407) hb); replace BK391 := bb BK391 hb; replace BK404 := bb BK404 hb; replace HB := bs HB hb; clear hb))
 replace HO396 := am (Kd.S_drew HO396.out)
 replace HO399 := am (Kd.R_drew HO399.out)
 replace HO403 := am (Kd.S_drew HO403.out)
 replace HO407 := am (Kd.R_drew HO407.out)
 replace BK391 := am (blk_drew BK391.out)
 replace BK404 := am (blk_drew BK404.out)
 replace HB := am (below_drew1 HB.out)
 refine start_ (n := 5) (S := fun w' => w'.cell? ⟨gb404, 0, none⟩ = some (.slice Ao30 t401.length co30) ∧ w'.cell? ⟨gb391, 0, none⟩ = some (.slice A0_0 l0_0.length c0_0)) (ds := []) (bv 5 0) (by kernel_rfl) rfl (by kernel_rfl) ⟨bc BK404 0, bc BK391 0⟩ (fun hHeld => ?_)
 generalize w63.drew = w64 at HO396 HO399 HO403 HO407 BK391 BK404 HB hHeld ⊢
 refine take_ (i := 0) (N := some 35) (v := ?_) (a' := ?_) (bv 5 1) rfl rfl (by kernel_rfl) (fun _ _ _ h => h) (Or.inl ⟨by rfl, ?_⟩) hHeld ?_ ?_
 rotate_left
 ·rintro w' ⟨s0, s1⟩
  go_simp
  with_reducible rfl
 rotate_left
 ·simp only [Act.put, sa, sz, ss, i64_w, i32_w]
  rfl
 refine take_ (i := 1) (N := some 36) (v := ?_) (a' := ?_) (bv 5 3) rfl rfl (by kernel_rfl) (fun _ _ _ h => h) (Or.inl ⟨by rfl, ?_⟩) hHeld ?_ ?_
 rotate_left
 ·rintro w' ⟨s0, s1⟩
  go_simp
  with_reducible rfl
 rotate_left
 ·simp only [Act.put, sa, sz, ss, i64_w, i32_w]
  rfl
 refine one_ (i := 2) (N := some 37) (bv 5 7) rfl rfl (by kernel_rfl) (by decide) (fun K hK => ?_)
 refine goes_ Try.func16 (by kernel_rfl) rfl #[.agg #[.slice A0_0 l0_0.length c0_0]] (by rfl) rfl rfl gl ?_
 with_reducible refine (laws_toProgram.calls k _ _ l0_0 t409 _ ?side1 ?side2 A39.out).mono ?_
 (case side1 => exact cc (Kd.C_below HR0_0.out HB.out))
 (case side2 => exact HC0_0.out)
 rintro e w65 ⟨v410, rfl, ho0, hb⟩
 refine ⟨_, rfl, ?_⟩
 have n0_ := am (Kd.S_elder' (kS HO396) (Kd.S_base ho0) hb)
 have n1_ := am (Kd.R_below (kR HO399) hb)
 have n2_ := am (Kd.S_elder' (kS HO403) (Kd.S_base ho0) hb)
 have n3_ := am (Kd.R_below (kR HO407) hb)
 have n4_ := am (Kd.S_lower (Kd.S_new' (Kd.S_new' ho0 (Kd.S_lt (kS HO396))) (Kd.S_lt (kS HO403))) (below_size (bw HB)))
 have n5_ := bb BK391 hb
 have n6_ := bb BK404 hb
 have n7_ := am (below_step (bw HB) hb)
 clear HO396
 clear HO399
 clear HO403
 clear HO407
 clear BK391
 clear BK404
 clear HB
 have HO396 := n0_
 have HO399 := n1_
 have HO403 := n2_
 have HO407 := n3_
 have HO411 := n4_
 have BK391 := n5_
 have BK404 := n6_
 have HB := n7_
 clear n0_ n1_ n2_ n3_ n4_ n5_ n6_ n7_
 clear hb
 (try clear ho0)
 obtain ⟨Ao66, co66, eo66⟩ := Kd.S_slice HO411.out
 (first | subst eo66 | (injection eo66 with f1_ f2_ f3_; have f4_ := f1_.symm; have f5_ := f3_.symm; clear f1_ f2_ f3_; subst f4_; subst f5_))
 refine hK.out _ _ ⟨bc BK404 0, bc BK391 0⟩ (fun hHeld => ?_)
 clear hK K
 refine nm (some 37) ?_
 refine one_ (i := 3) (N := some 38) (bv 5 15) rfl rfl (by kernel_rfl) (by decide) (fun K hK => ?_)
 refine goes_ Try.func19 (by kernel_rfl) rfl #[.agg #[.slice Ao30 t401.length co30], .agg #[.slice Ao66 t409.length co66]] (by rfl) rfl rfl gl ?_
 with_reducible refine (laws_eqProgram.calls k _ _ t401 _ _ t409 false _ ?side1 ?side2 ?side3 ?side4 A40.out).mono ?_
 (case side1 => exact cc (Kd.S_reads' HO403.out).2.2)
 (case side2 => exact (Kd.S_reads' HO403.out).2.1)
 (case side3 => exact cc (Kd.S_reads' HO411.out).2.2)
 (case side4 => exact (Kd.S_reads' HO411.out).2.1)
 rintro e w67 ⟨rfl, hb⟩
 refine ⟨_, rfl, ?_⟩
 replace HO396 := am (Kd.S_below (kS HO396) hb)
 replace HO399 := am (Kd.R_below (kR HO399) hb)
 replace HO403 := am (Kd.S_below (kS HO403) hb)
 replace HO407 := am (Kd.R_below (kR HO407) hb)
 replace HO411 := am (Kd.S_below (kS HO411) hb)
 replace BK391 := bb BK391 hb
 replace BK404 := bb BK404 hb
 replace HB := am (below_step (bw HB) hb)
 clear hb
 refine hK.out _ _ ⟨bc BK404 0, bc BK391 0⟩ (fun hHeld => ?_)
 clear hK K
 refine nm (some 38) ?_
 refine pure_ (i := 4) (N := some 39) (v := ?_) (a' := ?_) (bv 5 31) rfl rfl (by kernel_rfl) (fun _ _ _ h => h) (Or.inl ⟨by rfl, ?_⟩) ?_ ?_
 rotate_left
 ·intro w'
  go_simp
  with_reducible rfl
 rotate_left
 ·simp only [Act.put, sa, sz, ss, i64_w, i32_w]
  rfl
 refine done_ (by kernel_rfl) ?_
 try go_wp2
 go_ret
 exact ⟨er, bw HB⟩

end Go.Proofs.Ytbmjmaahcaoajaa.QFnExactSeenRight
