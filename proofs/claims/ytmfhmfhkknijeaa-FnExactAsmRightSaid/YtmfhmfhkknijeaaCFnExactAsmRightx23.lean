import Derived.Test.YtmfhmfhkknijeaaCFnExactAsmRightx0
import Derived.Test.YtmfhmfhkknijeaaCFnExactAsmRightx3
import Derived.Test.YtmfhmfhkknijeaaCFnExactAsmRightx10
import Derived.Test.YtmfhmfhkknijeaaCFnExactAsmRightx11
import Derived.Test.YtmfhmfhkknijeaaCFnExactAsmRightx12
import Derived.Test.YtmfhmfhkknijeaaCFnExactAsmRightx19
import Derived.Test.YtmfhmfhkknijeaaCFnExactAsmRightx22
namespace Go.Proofs.Ytmfhmfhkknijeaa.QFnExactAsmRight
open Go.RowKit Go.Proofs.YtmfhmfhkknijeaaW
open PrintWords PrintLast PrintMore PrintShort
attribute [local go_sem] max2_int min2_int max_two min_two max_three min_three max_four min_four   -- for this text's walks alone
set_option linter.unusedVariables false
set_option maxHeartbeats 8000000
set_option maxRecDepth 100000
set_option linter.unusedSimpArgs false

def laws_FnExactAsmRight.f (k : Nat) (l0_0 : List (S77)) (a1_0 : Int) (l1_1 : List (S82)) (l1_2 : List (List (S117))) : Option (Bool) := (laws_szProgram.f k l0_0 1048576).bind fun t563 => (if t563 < 0 then (some true) else ((laws_szAsm.f k a1_0 l1_1 l1_2 t563).bind fun t564 => (if t564 < 0 then (some true) else ((laws_toProgram.f k l0_0).bind fun t565 => ((laws_toAsm.f k a1_0 l1_1 l1_2).bind fun bt568 => ((spec_AsmRight.f k t565 bt568.1 bt568.2.1 bt568.2.2).bind fun t575 => ((laws_toProgram.f k l0_0).bind fun t576 => ((laws_toAsm.f k a1_0 l1_1 l1_2).bind fun bt580 => ((impl_AsmRight.f k t576 bt580.1 bt580.2.1 bt580.2.2).bind fun t588 => (if (t588 != t575) = true then (some false) else ((laws_toProgram.f k l0_0).bind fun t589 => ((laws_eqProgram.f k t576 t589).bind fun t592 => (if t592 = true then ((laws_toAsm.f k a1_0 l1_1 l1_2).bind fun bt593 => ((laws_eqAsm.f k bt580.1 bt580.2.1 bt580.2.2 bt593.1 bt593.2.1 bt593.2.2).bind fun t600 => (if t600 = true then (some true) else (some false)))) else (some false))))))))))))))
theorem laws_FnExactAsmRight.mono : ∀ a0 a1 a2 a3 k, LeO (laws_FnExactAsmRight.f k a0 a1 a2 a3) (laws_FnExactAsmRight.f (k + 1) a0 a1 a2 a3) := by
 intro a0 a1 a2 a3 k
 unfold laws_FnExactAsmRight.f
 with_reducible repeat' first | exact impl_AsmRight.mono .. | exact laws_eqAsm.mono .. | exact laws_eqProgram.mono .. | exact laws_szAsm.mono .. | exact laws_szProgram.mono .. | exact laws_toAsm.mono .. | exact laws_toProgram.mono .. | exact spec_AsmRight.mono .. | exact LeO.refl _ | exact LeO.none _ | refine LeO.ite ?_ ?_ | refine LeO.bind ?_ (fun _ => ?_)
theorem laws_FnExactAsmRight.calls (k : Nat) (A0_0 : Option Addr) (c0_0 : Nat) (l0_0 : List (S77)) (a1_0 : Int) (A1_1 : Option Addr) (c1_1 : Nat) (l1_1 : List (S82)) (A1_2 : Option Addr) (c1_2 : Nat) (l1_2 : List (List (S117))) (r : Bool) (w : World) (hr0_0 : Kd.C k77 w A0_0 l0_0.length l0_0) (hc0_0 : l0_0.length ≤ c0_0) (hr1_1 : Kd.C k82 w A1_1 l1_1.length l1_1) (hc1_1 : l1_1.length ≤ c1_1) (hr1_2 : Kd.C (Kd.slice 117 k117) w A1_2 l1_2.length l1_2) (hc1_2 : l1_2.length ≤ c1_2) (h : laws_FnExactAsmRight.f k l0_0 a1_0 l1_1 l1_2 = some r) :
  Calls Try.prog 3 #[.agg #[.slice A0_0 l0_0.length c0_0], .agg #[.int .i64 a1_0, .slice A1_1 l1_1.length c1_1, .slice A1_2 l1_2.length c1_2]] w fun e w' => e = .returned (.bool r) ∧ Below w.heap.size w w' := by
 have hu24 := Try.underlying24
 have hu28 := Try.underlying28
 have hu34 := Try.underlying34
 have hu39 := Try.underlying39
 have HR0_0 := am hr0_0
 have HC0_0 := am hc0_0
 clear hr0_0 hc0_0
 have HR1_1 := am hr1_1
 have HC1_1 := am hc1_1
 clear hr1_1 hc1_1
 have HR1_2 := am hr1_2
 have HC1_2 := am hc1_2
 clear hr1_2 hc1_2
 have HB := am (Below.refl w.heap.size w)
 have H : ((laws_szProgram.f k l0_0 1048576).bind fun t563 => (if t563 < 0 then (some true) else ((laws_szAsm.f k a1_0 l1_1 l1_2 t563).bind fun t564 => (if t564 < 0 then (some true) else ((laws_toProgram.f k l0_0).bind fun t565 => ((laws_toAsm.f k a1_0 l1_1 l1_2).bind fun bt568 => ((spec_AsmRight.f k t565 bt568.1 bt568.2.1 bt568.2.2).bind fun t575 => ((laws_toProgram.f k l0_0).bind fun t576 => ((laws_toAsm.f k a1_0 l1_1 l1_2).bind fun bt580 => ((impl_AsmRight.f k t576 bt580.1 bt580.2.1 bt580.2.2).bind fun t588 => (if (t588 != t575) = true then (some false) else ((laws_toProgram.f k l0_0).bind fun t589 => ((laws_eqProgram.f k t576 t589).bind fun t592 => (if t592 = true then ((laws_toAsm.f k a1_0 l1_1 l1_2).bind fun bt593 => ((laws_eqAsm.f k bt580.1 bt580.2.1 bt580.2.2 bt593.1 bt593.2.1 bt593.2.2).bind fun t600 => (if t600 = true then (some true) else (some false)))) else (some false))))))))))))))) = some r := h
 clear h
 refine be H ?_; clear H; intro t563 A3 H
 have HC4 := am H
 clear H
 go_enter Try.func3, Try.ntmps3
 go_upto_if 14 with (first | ((with_reducible refine gd 2 rfl ?_); refine bX 2 #[.slice A0_0 l0_0.length c0_0] 24 HB ?_; clear HB; intro gb561 w5 hg hb BK561 GW561 HB; clear hb hg) | ((with_reducible refine gd 3 rfl ?_); refine bX 3 #[.int .i64 a1_0, .slice A1_1 l1_1.length c1_1, .slice A1_2 l1_2.length c1_2] 28 HB ?_; clear HB; intro gb562 w6 hg hb BK562 GW562 HB; obtain ⟨NB561_562, NB562_561, BK561⟩ := b3 hg BK561 hb; clear hb hg; have hnb7 := NB561_562.out; have hnc7 := NB562_561.out; have hcz8 := bK w6 BK561; have hfz8 := bF BK561) | ((with_reducible refine gk 4 rfl ?_); refine gB 4 (some 12) Try.func4 #[.agg #[.slice A0_0 l0_0.length c0_0], .int .i64 1048576] (laws_szProgram.calls k _ _ l0_0 1048576 t563 _ (cc (Kd.C_below HR0_0.out HB.out)) HC0_0.out A3.out) ?_; intro w9 hb; replace BK561 := bb BK561 hb; replace BK562 := bb BK562 hb; replace HB := bs HB hb; clear hb))
 (try simp only [Act.put, sa, sz, ss])
 have H := HC4.out
 clear HC4
 refine qI H ?_ ?_ <;> clear H <;> intro c10b0 H
 ·(first | rw [c10b0] | (simp only [i64_w, i32_w]; rw [c10b0]) | skip)
  obtain rfl := Option.some.inj H
  go_wp2
  go_ret
  exact ⟨er, bw HB⟩
 (first | rw [c10b0] | (simp only [i64_w, i32_w]; rw [c10b0]) | skip)
 refine be H ?_; clear H; intro t564 A11 H
 have HC12 := am H
 clear H
 have hnb13 := NB562_561.out
 have hnc13 := NB561_562.out
 have hcz14 := bK w9 BK562
 have hfz14 := bF BK562
 go_upto_if 19 with (first | ((with_reducible refine gk 5 rfl ?_); refine gB 5 (some 17) Try.func5 #[.agg #[.int .i64 a1_0, .slice A1_1 l1_1.length c1_1, .slice A1_2 l1_2.length c1_2], .int .i64 t563] (laws_szAsm.calls k a1_0 _ _ l1_1 _ _ l1_2 t563 t564 _ (cc (Kd.C_below HR1_1.out HB.out)) HC1_1.out (cc (Kd.C_below HR1_2.out HB.out)) HC1_2.out A11.out) ?_; intro w15 hb; replace BK561 := bb BK561 hb; replace BK562 := bb BK562 hb; replace HB := bs HB hb; clear hb))
 (try simp only [Act.put, sa, sz, ss])
 have H := HC12.out
 clear HC12
 refine qI H ?_ ?_ <;> clear H <;> intro c16b0 H
 ·(first | rw [c16b0] | (simp only [i64_w, i32_w]; rw [c16b0]) | skip)
  obtain rfl := Option.some.inj H
  go_wp2
  go_ret
  exact ⟨er, bw HB⟩
 (first | rw [c16b0] | (simp only [i64_w, i32_w]; rw [c16b0]) | skip)
 refine be H ?_; clear H; intro t565 A17 H
 replace H := Option.bind_eq_some_iff.mp H
 obtain ⟨⟨t568, t569, t572⟩, A180, H⟩ := H
 replace H : ((spec_AsmRight.f k t565 t568 t569 t572).bind fun t575 => ((laws_toProgram.f k l0_0).bind fun t576 => ((laws_toAsm.f k a1_0 l1_1 l1_2).bind fun bt580 => ((impl_AsmRight.f k t576 bt580.1 bt580.2.1 bt580.2.2).bind fun t588 => (if (t588 != t575) = true then (some false) else ((laws_toProgram.f k l0_0).bind fun t589 => ((laws_eqProgram.f k t576 t589).bind fun t592 => (if t592 = true then ((laws_toAsm.f k a1_0 l1_1 l1_2).bind fun bt593 => ((laws_eqAsm.f k bt580.1 bt580.2.1 bt580.2.2 bt593.1 bt593.2.1 bt593.2.2).bind fun t600 => (if t600 = true then (some true) else (some false)))) else (some false))))))))) = some r := H
 have A18 := am A180
 clear A180
 refine be H ?_; clear H; intro t575 A19 H
 refine be H ?_; clear H; intro t576 A20 H
 replace H := Option.bind_eq_some_iff.mp H
 obtain ⟨⟨t580, t581, t584⟩, A210, H⟩ := H
 replace H : ((impl_AsmRight.f k t576 t580 t581 t584).bind fun t588 => (if (t588 != t575) = true then (some false) else ((laws_toProgram.f k l0_0).bind fun t589 => ((laws_eqProgram.f k t576 t589).bind fun t592 => (if t592 = true then ((laws_toAsm.f k a1_0 l1_1 l1_2).bind fun bt593 => ((laws_eqAsm.f k t580 t581 t584 bt593.1 bt593.2.1 bt593.2.2).bind fun t600 => (if t600 = true then (some true) else (some false)))) else (some false)))))) = some r := H
 have A21 := am A210
 clear A210
 refine be H ?_; clear H; intro t588 A22 H
 have HC23 := am H
 clear H
 try go_wp2
 replace BK561 := am (blk_drew BK561.out)
 replace BK562 := am (blk_drew BK562.out)
 replace HB := am (below_drew1 HB.out)
 refine start_ (n := 6) (S := fun w' => w'.cell? ⟨gb561, 0, none⟩ = some (.slice A0_0 l0_0.length c0_0) ∧ w'.cell? ⟨gb562, 0, none⟩ = some (.int .i64 a1_0) ∧ w'.cell? ⟨gb562, 1, none⟩ = some (.slice A1_1 l1_1.length c1_1) ∧ w'.cell? ⟨gb562, 2, none⟩ = some (.slice A1_2 l1_2.length c1_2)) (ds := []) (bv 6 0) (by kernel_rfl) rfl (by kernel_rfl) ⟨bc BK561 0, bc BK562 0, bc BK562 1, bc BK562 2⟩ (fun hHeld => ?_)
 generalize w15.drew = w24 at BK561 BK562 HB hHeld ⊢
 refine take_ (i := 0) (N := some 20) (v := ?_) (a' := ?_) (bv 6 1) rfl rfl (by kernel_rfl) (fun _ _ _ h => h) (Or.inl ⟨by rfl, ?_⟩) hHeld ?_ ?_
 rotate_left
 ·rintro w' ⟨s0, s1, s2, s3⟩
  go_simp
  with_reducible rfl
 rotate_left
 ·simp only [Act.put, sa, sz, ss, i64_w, i32_w]
  rfl
 refine take_ (i := 2) (N := some 22) (v := ?_) (a' := ?_) (bv 6 5) rfl rfl (by kernel_rfl) (fun _ _ _ h => h) (Or.inl ⟨by rfl, ?_⟩) hHeld ?_ ?_
 rotate_left
 ·rintro w' ⟨s0, s1, s2, s3⟩
  go_simp
  with_reducible rfl
 rotate_left
 ·simp only [Act.put, sa, sz, ss, i64_w, i32_w]
  rfl
 refine one_ (i := 1) (N := some 21) (bv 6 7) rfl rfl (by kernel_rfl) (by decide) (fun K hK => ?_)
 refine goes_ Try.func7 (by kernel_rfl) rfl #[.agg #[.slice A0_0 l0_0.length c0_0]] (by rfl) rfl rfl gl ?_
 with_reducible refine (laws_toProgram.calls k _ _ l0_0 t565 _ ?side1 ?side2 A17.out).mono ?_
 (case side1 => exact cc (Kd.C_below HR0_0.out HB.out))
 (case side2 => exact HC0_0.out)
 rintro e w25 ⟨v566, rfl, ho0, hb⟩
 refine ⟨_, rfl, ?_⟩
 have n0_ := am (Kd.S_lower ho0 (below_size (bw HB)))
 have n1_ := bb BK561 hb
 have n2_ := bb BK562 hb
 have n3_ := am (below_step (bw HB) hb)
 clear BK561
 clear BK562
 clear HB
 have HO567 := n0_
 have BK561 := n1_
 have BK562 := n2_
 have HB := n3_
 clear n0_ n1_ n2_ n3_
 clear hb
 (try clear ho0)
 refine hK.out _ _ ⟨bc BK561 0, bc BK562 0, bc BK562 1, bc BK562 2⟩ (fun hHeld => ?_)
 clear hK K
 refine nm (some 21) ?_
 refine one_ (i := 3) (N := some 23) (bv 6 15) rfl rfl (by kernel_rfl) (by decide) (fun K hK => ?_)
 refine goes_ Try.func8 (by kernel_rfl) rfl #[.agg #[.int .i64 a1_0, .slice A1_1 l1_1.length c1_1, .slice A1_2 l1_2.length c1_2]] (by rfl) rfl rfl gl ?_
 with_reducible refine (laws_toAsm.calls k a1_0 _ _ l1_1 _ _ l1_2 t568 t569 t572 _ ?side1 ?side2 ?side3 ?side4 A18.out).mono ?_
 (case side1 => exact cc (Kd.C_below HR1_1.out HB.out))
 (case side2 => exact HC1_1.out)
 (case side3 => exact cc (Kd.C_below HR1_2.out HB.out))
 (case side4 => exact HC1_2.out)
 rintro e w26 ⟨v570, v573, rfl, ho0, ho1, hb⟩
 refine ⟨_, rfl, ?_⟩
 have n0_ := am (Kd.S_below (kS HO567) hb)
 have n1_ := am (Kd.S_lower ho0 (below_size (bw HB)))
 have n2_ := am (Kd.S_lower ho1 (below_size (bw HB)))
 have n3_ := bb BK561 hb
 have n4_ := bb BK562 hb
 have n5_ := am (below_step (bw HB) hb)
 clear HO567
 clear BK561
 clear BK562
 clear HB
 have HO567 := n0_
 have HO571 := n1_
 have HO574 := n2_
 have BK561 := n3_
 have BK562 := n4_
 have HB := n5_
 clear n0_ n1_ n2_ n3_ n4_ n5_
 clear hb
 (try clear ho0)
 (try clear ho1)
 obtain ⟨Ao27, co27, eo27⟩ := Kd.S_slice HO567.out
 (first | subst eo27 | (injection eo27 with f1_ f2_ f3_; have f4_ := f1_.symm; have f5_ := f3_.symm; clear f1_ f2_ f3_; subst f4_; subst f5_))
 obtain ⟨Ao28, co28, eo28⟩ := Kd.S_slice HO571.out
 (first | subst eo28 | (injection eo28 with f1_ f2_ f3_; have f4_ := f1_.symm; have f5_ := f3_.symm; clear f1_ f2_ f3_; subst f4_; subst f5_))
 obtain ⟨Ao29, co29, eo29⟩ := Kd.S_slice HO574.out
 (first | subst eo29 | (injection eo29 with f1_ f2_ f3_; have f4_ := f1_.symm; have f5_ := f3_.symm; clear f1_ f2_ f3_; subst f4_; subst f5_))
 refine hK.out _ _ ⟨bc BK561 0, bc BK562 0, bc BK562 1, bc BK562 2⟩ (fun hHeld => ?_)
 clear hK K
 refine nm (some 23) ?_
 refine one_ (i := 4) (N := some 24) (bv 6 31) rfl rfl (by kernel_rfl) (by decide) (fun K hK => ?_)
 refine goes_ Try.func6 (by kernel_rfl) rfl #[.agg #[.slice Ao27 t565.length co27], .agg #[.int .i64 t568, .slice Ao28 t569.length co28, .slice Ao29 t572.length co29]] (by rfl) rfl rfl gl ?_
 with_reducible refine (spec_AsmRight.calls k _ _ t565 t568 _ _ t569 _ _ t572 t575 _ ?side1 ?side2 ?side3 ?side4 ?side5 ?side6 A19.out).mono ?_
 (case side1 => exact cc (Kd.S_reads' HO567.out).2.2)
 (case side2 => exact (Kd.S_reads' HO567.out).2.1)
 (case side3 => exact cc (Kd.S_reads' HO571.out).2.2)
 (case side4 => exact (Kd.S_reads' HO571.out).2.1)
 (case side5 => exact cc (Kd.S_reads' HO574.out).2.2)
 (case side6 => exact (Kd.S_reads' HO574.out).2.1)
 rintro e w30 ⟨rfl, hb⟩
 refine ⟨_, rfl, ?_⟩
 replace HO567 := am (Kd.S_below (kS HO567) hb)
 replace HO571 := am (Kd.S_below (kS HO571) hb)
 replace HO574 := am (Kd.S_below (kS HO574) hb)
 replace BK561 := bb BK561 hb
 replace BK562 := bb BK562 hb
 replace HB := am (below_step (bw HB) hb)
 clear hb
 refine hK.out _ _ ⟨bc BK561 0, bc BK562 0, bc BK562 1, bc BK562 2⟩ (fun hHeld => ?_)
 clear hK K
 refine nm (some 24) ?_
 refine pure_ (i := 5) (N := some 6) (v := ?_) (a' := ?_) (bv 6 63) rfl rfl (by kernel_rfl) (fun _ _ _ h => h) (Or.inl ⟨by rfl, ?_⟩) ?_ ?_
 rotate_left
 ·intro w'
  go_simp
  with_reducible rfl
 rotate_left
 ·simp only [Act.put, sa, sz, ss, i64_w, i32_w]
  rfl
 refine done_ (by kernel_rfl) ?_
 have hnb31 := NB561_562.out
 have hnc31 := NB562_561.out
 have hcz32 := bK w30 BK561
 have hfz32 := bF BK561
 go_upto_if 34 with (first | ((with_reducible refine gk 7 rfl ?_); refine gC 7 (some 26) Try.func7 #[.agg #[.slice A0_0 l0_0.length c0_0]] ((laws_toProgram.calls k _ _ l0_0 t576 _ (cc (Kd.C_below HR0_0.out HB.out)) HC0_0.out A20.out).mono ?_); rintro e w33 ⟨v577, rfl, ho0, hb⟩; refine ⟨_, rfl, ?_⟩; replace HO571 := am (Kd.S_below (kS HO571) hb); replace HO574 := am (Kd.S_below (kS HO574) hb); have HO578 := am (Kd.S_lower (Kd.S_new' ho0 (Kd.S_lt (kS HO567))) (below_size (bw HB))); replace HO567 := am (Kd.S_elder' (kS HO567) (Kd.S_base ho0) hb); replace BK561 := bb BK561 hb; replace BK562 := bb BK562 hb; replace HB := bs HB hb; clear hb; (try clear ho0)) | ((with_reducible refine gd 7 rfl ?_); refine bX 7 #[.slice none 0 0] 34 HB ?_; clear HB; intro gb579 w34 hg hb BK579 GW579 HB; replace HO567 := am (Kd.S_below (kS HO567) hb); replace HO571 := am (Kd.S_below (kS HO571) hb); replace HO574 := am (Kd.S_below (kS HO574) hb); replace HO578 := am (Kd.S_below (kS HO578) hb); obtain ⟨NB561_579, NB579_561, BK561⟩ := b3 hg BK561 hb; obtain ⟨NB562_579, NB579_562, BK562⟩ := b3 hg BK562 hb; clear hb hg; obtain ⟨Ao35, co35, eo35⟩ := Kd.S_slice HO578.out; subst eo35; have hnb36 := NB579_561.out; have hnc36 := NB561_579.out; have hnb37 := NB579_562.out; have hnc37 := NB562_579.out; have hcz38 := bK w34 BK579; have hfz38 := bF BK579; have hcz39 := bK w34 BK562; have hfz39 := bF BK562) | ((with_reducible refine gk 8 rfl ?_); refine gC 8 (some 28) Try.func8 #[.agg #[.int .i64 a1_0, .slice A1_1 l1_1.length c1_1, .slice A1_2 l1_2.length c1_2]] ((laws_toAsm.calls k a1_0 _ _ l1_1 _ _ l1_2 t580 t581 t584 _ (Kd.C_below HR1_1.out (bw HB)) HC1_1.out (Kd.C_below HR1_2.out (bw HB)) HC1_2.out A21.out).mono ?_); rintro e w40 ⟨v582, v585, rfl, ho0, ho1, hb⟩; refine ⟨_, rfl, ?_⟩; replace HO567 := am (Kd.S_below (by (with_reducible repeat (first | apply Kd.S_alloc | apply Kd.S_drewN | apply Kd.S_drew)); exact (Kd.S_mono (Kd.S_far (p := ⟨gb579, 0, none⟩) (Kd.S_types HO567.out BK579.out (by decide)) (fun _ hk => hk.2) (.slice Ao35 t576.length co35)) (fun _ h_ => h_.1))) hb); replace HO578 := am (Kd.S_below (by (with_reducible repeat (first | apply Kd.S_alloc | apply Kd.S_drewN | apply Kd.S_drew)); exact (Kd.S_mono (Kd.S_far (p := ⟨gb579, 0, none⟩) (Kd.S_types HO578.out BK579.out (by decide)) (fun _ hk => hk.2) (.slice Ao35 t576.length co35)) (fun _ h_ => h_.1))) hb); have HO583 := am (Kd.S_lower (Kd.S_new' ho0 (Kd.S_lt (by (with_reducible repeat (first | apply Kd.S_alloc | apply Kd.S_drewN | apply Kd.S_drew)); exact (Kd.S_mono (Kd.S_far (p := ⟨gb579, 0, none⟩) (Kd.S_types HO571.out BK579.out (by decide)) (fun _ hk => hk.2) (.slice Ao35 t576.length co35)) (fun _ h_ => h_.1))))) (below_size (bw HB))); replace HO571 := am (Kd.S_elder' (by (with_reducible repeat (first | apply Kd.S_alloc | apply Kd.S_drewN | apply Kd.S_drew)); exact (Kd.S_mono (Kd.S_far (p := ⟨gb579, 0, none⟩) (Kd.S_types HO571.out BK579.out (by decide)) (fun _ hk => hk.2) (.slice Ao35 t576.length co35)) (fun _ h_ => h_.1))) (Kd.S_base ho0) hb); have HO586 := am (Kd.S_lower (Kd.S_new' ho1 (Kd.S_lt (by (with_reducible repeat (first | apply Kd.S_alloc | apply Kd.S_drewN | apply Kd.S_drew)); exact (Kd.S_mono (Kd.S_far (p := ⟨gb579, 0, none⟩) (Kd.S_types HO574.out BK579.out (by decide)) (fun _ hk => hk.2) (.slice Ao35 t576.length co35)) (fun _ h_ => h_.1))))) (below_size (bw HB))); replace HO574 := am (Kd.S_elder' (by (with_reducible repeat (first | apply Kd.S_alloc | apply Kd.S_drewN | apply Kd.S_drew)); exact (Kd.S_mono (Kd.S_far (p := ⟨gb579, 0, none⟩) (Kd.S_types HO574.out BK579.out (by decide)) (fun _ hk => hk.2) (.slice Ao35 t576.length co35)) (fun _ h_ => h_.1))) (Kd.S_base ho1) hb); replace BK561 := bb2 BK561 hb; replace BK562 := bb2 BK562 hb; replace BK579 := bo #[.slice Ao35 t576.length co35] BK579 hb; replace HB := bs HB hb; clear hb; (try clear ho0); (try clear ho1)) | ((with_reducible refine gd 8 rfl ?_); refine bX 8 #[.int .i64 0, .slice none 0 0, .slice none 0 0] 39 HB ?_; clear HB; intro gb587 w41 hg hb BK587 GW587 HB; replace HO567 := am (Kd.S_below (kS HO567) hb); replace HO571 := am (Kd.S_below (kS HO571) hb); replace HO574 := am (Kd.S_below (kS HO574) hb); replace HO578 := am (Kd.S_below (kS HO578) hb); replace HO583 := am (Kd.S_below (kS HO583) hb); replace HO586 := am (Kd.S_below (kS HO586) hb); obtain ⟨NB561_587, NB587_561, BK561⟩ := b3 hg BK561 hb; obtain ⟨NB562_587, NB587_562, BK562⟩ := b3 hg BK562 hb; obtain ⟨NB579_587, NB587_579, BK579⟩ := b3 hg BK579 hb; clear hb hg; have hnb42 := NB587_561.out; have hnc42 := NB561_587.out; have hnb43 := NB587_562.out; have hnc43 := NB562_587.out; have hnb44 := NB587_579.out; have hnc44 := NB579_587.out; have hcz45 := bK w41 BK587; have hfz45 := bF BK587; obtain ⟨Ao46, co46, eo46⟩ := Kd.S_slice HO583.out; subst eo46; obtain ⟨Ao47, co47, eo47⟩ := Kd.S_slice HO586.out; subst eo47; have hcz48 := bK w41 BK579; have hfz48 := bF BK579) | ((with_reducible refine gk 9 rfl ?_); refine gB 9 (some 31) Try.func9 #[.agg #[.slice Ao35 t576.length co35], .agg #[.int .i64 t580, .slice Ao46 t581.length co46, .slice Ao47 t584.length co47]] (impl_AsmRight.calls k _ _ t576 t580 _ _ t581 _ _ t584 t588 _ (by refine (Kd.S_reads' (e := 50) (base := w.heap.size) (ok := fun k_ => (True ∧ some k_ ≠ (.slice Ao27 t565.length co27 : Value).ownBlock)) (n := t576.length) (c := co35) ?_).2.2; exact (by (with_reducible repeat (first | apply Kd.S_alloc | apply Kd.S_drewN | apply Kd.S_drew)); exact (Kd.S_mono (Kd.S_far (p := ⟨gb587, 2, none⟩) (Kd.S_far (p := ⟨gb587, 1, none⟩) (Kd.S_far (p := ⟨gb587, 0, none⟩) (Kd.S_types HO578.out BK587.out (by decide)) (fun _ hk => hk.2) (.int .i64 t580)) (fun _ hk => hk.2) (.slice Ao46 t581.length co46)) (fun _ hk => hk.2) (.slice Ao47 t584.length co47)) (fun _ h_ => h_.1)))) ((Kd.S_reads' HO578.out).2.1) (by refine (Kd.S_reads' (e := 59) (base := w.heap.size) (ok := fun k_ => (True ∧ some k_ ≠ (.slice Ao28 t569.length co28 : Value).ownBlock)) (n := t581.length) (c := co46) ?_).2.2; exact (by (with_reducible repeat (first | apply Kd.S_alloc | apply Kd.S_drewN | apply Kd.S_drew)); exact (Kd.S_mono (Kd.S_far (p := ⟨gb587, 2, none⟩) (Kd.S_far (p := ⟨gb587, 1, none⟩) (Kd.S_far (p := ⟨gb587, 0, none⟩) (Kd.S_types HO583.out BK587.out (by decide)) (fun _ hk => hk.2) (.int .i64 t580)) (fun _ hk => hk.2) (.slice Ao46 t581.length co46)) (fun _ hk => hk.2) (.slice Ao47 t584.length co47)) (fun _ h_ => h_.1)))) ((Kd.S_reads' HO583.out).2.1) (by refine (Kd.S_reads' (e := 57) (base := w.heap.size) (ok := fun k_ => (True ∧ some k_ ≠ (.slice Ao29 t572.length co29 : Value).ownBlock)) (n := t584.length) (c := co47) ?_).2.2; exact (by (with_reducible repeat (first | apply Kd.S_alloc | apply Kd.S_drewN | apply Kd.S_drew)); exact (Kd.S_mono (Kd.S_far (p := ⟨gb587, 2, none⟩) (Kd.S_far (p := ⟨gb587, 1, none⟩) (Kd.S_far (p := ⟨gb587, 0, none⟩) (Kd.S_types HO586.out BK587.out (by decide)) (fun _ hk => hk.2) (.int .i64 t580)) (fun _ hk => hk.2) (.slice Ao46 t581.length co46)) (fun _ hk => hk.2) (.slice Ao47 t584.length co47)) (fun _ h_ => h_.1)))) ((Kd.S_reads' HO586.out).2.1) A22.out) ?_; intro w49 hb; replace HO567 := am (Kd.S_below (by (with_reducible repeat (first | apply Kd.S_alloc | apply Kd.S_drewN | apply Kd.S_drew)); exact (Kd.S_mono (Kd.S_far (p := ⟨gb587, 2, none⟩) (Kd.S_far (p := ⟨gb587, 1, none⟩) (Kd.S_far (p := ⟨gb587, 0, none⟩) (Kd.S_types HO567.out BK587.out (by decide)) (fun _ hk => hk.2) (.int .i64 t580)) (fun _ hk => hk.2) (.slice Ao46 t581.length co46)) (fun _ hk => hk.2) (.slice Ao47 t584.length co47)) (fun _ h_ => h_.1))) hb); replace HO571 := am (Kd.S_below (by (with_reducible repeat (first | apply Kd.S_alloc | apply Kd.S_drewN | apply Kd.S_drew)); exact (Kd.S_mono (Kd.S_far (p := ⟨gb587, 2, none⟩) (Kd.S_far (p := ⟨gb587, 1, none⟩) (Kd.S_far (p := ⟨gb587, 0, none⟩) (Kd.S_types HO571.out BK587.out (by decide)) (fun _ hk => hk.2) (.int .i64 t580)) (fun _ hk => hk.2) (.slice Ao46 t581.length co46)) (fun _ hk => hk.2) (.slice Ao47 t584.length co47)) (fun _ h_ => h_.1))) hb); replace HO574 := am (Kd.S_below (by (with_reducible repeat (first | apply Kd.S_alloc | apply Kd.S_drewN | apply Kd.S_drew)); exact (Kd.S_mono (Kd.S_far (p := ⟨gb587, 2, none⟩) (Kd.S_far (p := ⟨gb587, 1, none⟩) (Kd.S_far (p := ⟨gb587, 0, none⟩) (Kd.S_types HO574.out BK587.out (by decide)) (fun _ hk => hk.2) (.int .i64 t580)) (fun _ hk => hk.2) (.slice Ao46 t581.length co46)) (fun _ hk => hk.2) (.slice Ao47 t584.length co47)) (fun _ h_ => h_.1))) hb); replace HO578 := am (Kd.S_below (by (with_reducible repeat (first | apply Kd.S_alloc | apply Kd.S_drewN | apply Kd.S_drew)); exact (Kd.S_mono (Kd.S_far (p := ⟨gb587, 2, none⟩) (Kd.S_far (p := ⟨gb587, 1, none⟩) (Kd.S_far (p := ⟨gb587, 0, none⟩) (Kd.S_types HO578.out BK587.out (by decide)) (fun _ hk => hk.2) (.int .i64 t580)) (fun _ hk => hk.2) (.slice Ao46 t581.length co46)) (fun _ hk => hk.2) (.slice Ao47 t584.length co47)) (fun _ h_ => h_.1))) hb); replace HO583 := am (Kd.S_below (by (with_reducible repeat (first | apply Kd.S_alloc | apply Kd.S_drewN | apply Kd.S_drew)); exact (Kd.S_mono (Kd.S_far (p := ⟨gb587, 2, none⟩) (Kd.S_far (p := ⟨gb587, 1, none⟩) (Kd.S_far (p := ⟨gb587, 0, none⟩) (Kd.S_types HO583.out BK587.out (by decide)) (fun _ hk => hk.2) (.int .i64 t580)) (fun _ hk => hk.2) (.slice Ao46 t581.length co46)) (fun _ hk => hk.2) (.slice Ao47 t584.length co47)) (fun _ h_ => h_.1))) hb); replace HO586 := am (Kd.S_below (by (with_reducible repeat (first | apply Kd.S_alloc | apply Kd.S_drewN | apply Kd.S_drew)); exact (Kd.S_mono (Kd.S_far (p := ⟨gb587, 2, none⟩) (Kd.S_far (p := ⟨gb587, 1, none⟩) (Kd.S_far (p := ⟨gb587, 0, none⟩) (Kd.S_types HO586.out BK587.out (by decide)) (fun _ hk => hk.2) (.int .i64 t580)) (fun _ hk => hk.2) (.slice Ao46 t581.length co46)) (fun _ hk => hk.2) (.slice Ao47 t584.length co47)) (fun _ h_ => h_.1))) hb); replace BK561 := bb2 BK561 hb; replace BK562 := bb2 BK562 hb; replace BK579 := bb2 BK579 hb; replace BK587 := bo #[.int .i64 t580, .slice Ao46 t581.length co46, .slice Ao47 t584.length co47] BK587 hb; replace HB := bs HB hb; clear hb))
 (try simp only [Act.put, sa, sz, ss])
 have H := HC23.out
 clear HC23
 by_cases c50 : (t588 != t575) = true
 ·rw [if_pos c50] at H
  have c50b0 : (t588 != t575) = true := c50
  (try (have c50b1 : decide (t588 = t575) = false := by simpa using c50))
  (try (have c50b2 : (t588 == t575) = false := by simpa using c50))
  (try (have c50b3 : ¬ (t588 = t575) := by simpa using c50))
  clear c50
  (first | rw [c50b0] | (simp only [i64_w, i32_w]; rw [c50b0]) | (simp only [c50b2, Bool.not_false, Bool.not_true]) | skip)
  obtain rfl := Option.some.inj H
  go_wp2
  go_ret
  exact ⟨er, bw HB⟩
 rw [if_neg c50] at H
 have c50b0 : (t588 != t575) = false := by simpa using c50
 (try (have c50b1 : decide (t588 = t575) = true := by simpa using c50))
 (try (have c50b2 : (t588 == t575) = true := by simpa using c50))
 clear c50
 (first | rw [c50b0] | (simp only [i64_w, i32_w]; rw [c50b0]) | (simp only [c50b2, Bool.not_false, Bool.not_true]) | skip)
 refine be H ?_; clear H; intro t589 A51 H
 refine be H ?_; clear H; intro t592 A52 H
 have HC53 := am H
 clear H
 try go_wp2
 replace HO567 := am (Kd.S_drew HO567.out)
 replace HO571 := am (Kd.S_drew HO571.out)
 replace HO574 := am (Kd.S_drew HO574.out)
 replace HO578 := am (Kd.S_drew HO578.out)
 replace HO583 := am (Kd.S_drew HO583.out)
 replace HO586 := am (Kd.S_drew HO586.out)
 replace BK561 := am (blk_drew BK561.out)
 replace BK562 := am (blk_drew BK562.out)
 replace BK579 := am (blk_drew BK579.out)
 replace BK587 := am (blk_drew BK587.out)
 replace HB := am (below_drew1 HB.out)
 refine start_ (n := 5) (S := fun w' => w'.cell? ⟨gb579, 0, none⟩ = some (.slice Ao35 t576.length co35) ∧ w'.cell? ⟨gb561, 0, none⟩ = some (.slice A0_0 l0_0.length c0_0)) (ds := []) (bv 5 0) (by kernel_rfl) rfl (by kernel_rfl) ⟨bc BK579 0, bc BK561 0⟩ (fun hHeld => ?_)
 generalize w49.drew = w54 at HO567 HO571 HO574 HO578 HO583 HO586 BK561 BK562 BK579 BK587 HB hHeld ⊢
 refine take_ (i := 0) (N := some 35) (v := ?_) (a' := ?_) (bv 5 1) rfl rfl (by kernel_rfl) (fun _ _ _ h => h) (Or.inl ⟨by rfl, ?_⟩) hHeld ?_ ?_
 rotate_left
 ·rintro w' ⟨s0, s1⟩
  go_simp
  with_reducible rfl
 rotate_left
 ·simp only [Act.put, sa, sz, ss, i64_w, i32_w]
  rfl
 refine take_ (i := 1) (N := some 36) (v := ?_) (a' := ?_) (bv 5 3) rfl rfl (by kernel_rfl) (fun _ _ _ h => h) (Or.inl ⟨by rfl, ?_⟩) hHeld ?_ ?_
 rotate_left
 ·rintro w' ⟨s0, s1⟩
  go_simp
  with_reducible rfl
 rotate_left
 ·simp only [Act.put, sa, sz, ss, i64_w, i32_w]
  rfl
 refine one_ (i := 2) (N := some 37) (bv 5 7) rfl rfl (by kernel_rfl) (by decide) (fun K hK => ?_)
 refine goes_ Try.func7 (by kernel_rfl) rfl #[.agg #[.slice A0_0 l0_0.length c0_0]] (by rfl) rfl rfl gl ?_
 with_reducible refine (laws_toProgram.calls k _ _ l0_0 t589 _ ?side1 ?side2 A51.out).mono ?_
 (case side1 => exact cc (Kd.C_below HR0_0.out HB.out))
 (case side2 => exact HC0_0.out)
 rintro e w55 ⟨v590, rfl, ho0, hb⟩
 refine ⟨_, rfl, ?_⟩
 have n0_ := am (Kd.S_elder' (kS HO567) (Kd.S_base ho0) hb)
 have n1_ := am (Kd.S_below (kS HO571) hb)
 have n2_ := am (Kd.S_below (kS HO574) hb)
 have n3_ := am (Kd.S_elder' (kS HO578) (Kd.S_base ho0) hb)
 have n4_ := am (Kd.S_below (kS HO583) hb)
 have n5_ := am (Kd.S_below (kS HO586) hb)
 have n6_ := am (Kd.S_lower (Kd.S_new' (Kd.S_new' ho0 (Kd.S_lt (kS HO567))) (Kd.S_lt (kS HO578))) (below_size (bw HB)))
 have n7_ := bb BK561 hb
 have n8_ := bb BK562 hb
 have n9_ := bb BK579 hb
 have n10_ := bb BK587 hb
 have n11_ := am (below_step (bw HB) hb)
 clear HO567
 clear HO571
 clear HO574
 clear HO578
 clear HO583
 clear HO586
 clear BK561
 clear BK562
 clear BK579
 clear BK587
 clear HB
 have HO567 := n0_
 have HO571 := n1_
 have HO574 := n2_
 have HO578 := n3_
 have HO583 := n4_
 have HO586 := n5_
 have HO591 := n6_
 have BK561 := n7_
 have BK562 := n8_
 have BK579 := n9_
 have BK587 := n10_
 have HB := n11_
 clear n0_ n1_ n2_ n3_ n4_ n5_ n6_ n7_ n8_ n9_ n10_ n11_
 clear hb
 (try clear ho0)
 obtain ⟨Ao56, co56, eo56⟩ := Kd.S_slice HO591.out
 (first | subst eo56 | (injection eo56 with f1_ f2_ f3_; have f4_ := f1_.symm; have f5_ := f3_.symm; clear f1_ f2_ f3_; subst f4_; subst f5_))
 refine hK.out _ _ ⟨bc BK579 0, bc BK561 0⟩ (fun hHeld => ?_)
 clear hK K
 refine nm (some 37) ?_
 refine one_ (i := 3) (N := some 38) (bv 5 15) rfl rfl (by kernel_rfl) (by decide) (fun K hK => ?_)
 refine goes_ Try.func10 (by kernel_rfl) rfl #[.agg #[.slice Ao35 t576.length co35], .agg #[.slice Ao56 t589.length co56]] (by rfl) rfl rfl gl ?_
 with_reducible refine (laws_eqProgram.calls k _ _ t576 _ _ t589 t592 _ ?side1 ?side2 ?side3 ?side4 A52.out).mono ?_
 (case side1 => exact cc (Kd.S_reads' HO578.out).2.2)
 (case side2 => exact (Kd.S_reads' HO578.out).2.1)
 (case side3 => exact cc (Kd.S_reads' HO591.out).2.2)
 (case side4 => exact (Kd.S_reads' HO591.out).2.1)
 rintro e w57 ⟨rfl, hb⟩
 refine ⟨_, rfl, ?_⟩
 replace HO567 := am (Kd.S_below (kS HO567) hb)
 replace HO571 := am (Kd.S_below (kS HO571) hb)
 replace HO574 := am (Kd.S_below (kS HO574) hb)
 replace HO578 := am (Kd.S_below (kS HO578) hb)
 replace HO583 := am (Kd.S_below (kS HO583) hb)
 replace HO586 := am (Kd.S_below (kS HO586) hb)
 replace HO591 := am (Kd.S_below (kS HO591) hb)
 replace BK561 := bb BK561 hb
 replace BK562 := bb BK562 hb
 replace BK579 := bb BK579 hb
 replace BK587 := bb BK587 hb
 replace HB := am (below_step (bw HB) hb)
 clear hb
 refine hK.out _ _ ⟨bc BK579 0, bc BK561 0⟩ (fun hHeld => ?_)
 clear hK K
 refine nm (some 38) ?_
 refine pure_ (i := 4) (N := some 39) (v := ?_) (a' := ?_) (bv 5 31) rfl rfl (by kernel_rfl) (fun _ _ _ h => h) (Or.inl ⟨by rfl, ?_⟩) ?_ ?_
 rotate_left
 ·intro w'
  go_simp
  with_reducible rfl
 rotate_left
 ·simp only [Act.put, sa, sz, ss, i64_w, i32_w]
  rfl
 refine done_ (by kernel_rfl) ?_
 go_upto_if 39 with (fail)
 (try simp only [Act.put, sa, sz, ss])
 have H := HC53.out
 clear HC53
 refine qT H ?_ ?_ <;> clear H <;> intro c58 H <;> subst c58
 ·replace H := Option.bind_eq_some_iff.mp H
  obtain ⟨⟨t593, t594, t597⟩, A590, H⟩ := H
  replace H : ((laws_eqAsm.f k t580 t581 t584 t593 t594 t597).bind fun t600 => (if t600 = true then (some true) else (some false))) = some r := H
  have A59 := am A590
  clear A590
  refine be H ?_; clear H; intro t600 A60 H
  have HC61 := am H
  clear H
  try go_wp2
  replace HO567 := am (Kd.S_drew HO567.out)
  replace HO571 := am (Kd.S_drew HO571.out)
  replace HO574 := am (Kd.S_drew HO574.out)
  replace HO578 := am (Kd.S_drew HO578.out)
  replace HO583 := am (Kd.S_drew HO583.out)
  replace HO586 := am (Kd.S_drew HO586.out)
  replace HO591 := am (Kd.S_drew HO591.out)
  replace BK561 := am (blk_drew BK561.out)
  replace BK562 := am (blk_drew BK562.out)
  replace BK579 := am (blk_drew BK579.out)
  replace BK587 := am (blk_drew BK587.out)
  replace HB := am (below_drew1 HB.out)
  refine start_ (n := 5) (S := fun w' => w'.cell? ⟨gb587, 0, none⟩ = some (.int .i64 t580) ∧ w'.cell? ⟨gb587, 1, none⟩ = some (.slice Ao46 t581.length co46) ∧ w'.cell? ⟨gb587, 2, none⟩ = some (.slice Ao47 t584.length co47) ∧ w'.cell? ⟨gb562, 0, none⟩ = some (.int .i64 a1_0) ∧ w'.cell? ⟨gb562, 1, none⟩ = some (.slice A1_1 l1_1.length c1_1) ∧ w'.cell? ⟨gb562, 2, none⟩ = some (.slice A1_2 l1_2.length c1_2)) (ds := []) (bv 5 0) (by kernel_rfl) rfl (by kernel_rfl) ⟨bc BK587 0, bc BK587 1, bc BK587 2, bc BK562 0, bc BK562 1, bc BK562 2⟩ (fun hHeld => ?_)
  generalize w57.drew = w62 at HO567 HO571 HO574 HO578 HO583 HO586 HO591 BK561 BK562 BK579 BK587 HB hHeld ⊢
  refine take_ (i := 0) (N := some 40) (v := ?_) (a' := ?_) (bv 5 1) rfl rfl (by kernel_rfl) (fun _ _ _ h => h) (Or.inl ⟨by rfl, ?_⟩) hHeld ?_ ?_
  rotate_left
  ·rintro w' ⟨s0, s1, s2, s3, s4, s5⟩
   go_simp
   with_reducible rfl
  rotate_left
  ·simp only [Act.put, sa, sz, ss, i64_w, i32_w]
   rfl
  refine take_ (i := 1) (N := some 41) (v := ?_) (a' := ?_) (bv 5 3) rfl rfl (by kernel_rfl) (fun _ _ _ h => h) (Or.inl ⟨by rfl, ?_⟩) hHeld ?_ ?_
  rotate_left
  ·rintro w' ⟨s0, s1, s2, s3, s4, s5⟩
   go_simp
   with_reducible rfl
  rotate_left
  ·simp only [Act.put, sa, sz, ss, i64_w, i32_w]
   rfl
  refine one_ (i := 2) (N := some 42) (bv 5 7) rfl rfl (by kernel_rfl) (by decide) (fun K hK => ?_)
  refine goes_ Try.func8 (by kernel_rfl) rfl #[.agg #[.int .i64 a1_0, .slice A1_1 l1_1.length c1_1, .slice A1_2 l1_2.length c1_2]] (by rfl) rfl rfl gl ?_
  with_reducible refine (laws_toAsm.calls k a1_0 _ _ l1_1 _ _ l1_2 t593 t594 t597 _ ?side1 ?side2 ?side3 ?side4 A59.out).mono ?_
  (case side1 => exact cc (Kd.C_below HR1_1.out HB.out))
  (case side2 => exact HC1_1.out)
  (case side3 => exact cc (Kd.C_below HR1_2.out HB.out))
  (case side4 => exact HC1_2.out)
  rintro e w63 ⟨v595, v598, rfl, ho0, ho1, hb⟩
  refine ⟨_, rfl, ?_⟩
  have n0_ := am (Kd.S_below (kS HO567) hb)
  have n1_ := am (Kd.S_elder' (kS HO571) (Kd.S_base ho0) hb)
  have n2_ := am (Kd.S_elder' (kS HO574) (Kd.S_base ho1) hb)
  have n3_ := am (Kd.S_below (kS HO578) hb)
  have n4_ := am (Kd.S_elder' (kS HO583) (Kd.S_base ho0) hb)
  have n5_ := am (Kd.S_elder' (kS HO586) (Kd.S_base ho1) hb)
  have n6_ := am (Kd.S_below (kS HO591) hb)
  have n7_ := am (Kd.S_lower (Kd.S_new' (Kd.S_new' ho0 (Kd.S_lt (kS HO571))) (Kd.S_lt (kS HO583))) (below_size (bw HB)))
  have n8_ := am (Kd.S_lower (Kd.S_new' (Kd.S_new' ho1 (Kd.S_lt (kS HO574))) (Kd.S_lt (kS HO586))) (below_size (bw HB)))
  have n9_ := bb BK561 hb
  have n10_ := bb BK562 hb
  have n11_ := bb BK579 hb
  have n12_ := bb BK587 hb
  have n13_ := am (below_step (bw HB) hb)
  clear HO567
  clear HO571
  clear HO574
  clear HO578
  clear HO583
  clear HO586
  clear HO591
  clear BK561
  clear BK562
  clear BK579
  clear BK587
  clear HB
  have HO567 := n0_
  have HO571 := n1_
  have HO574 := n2_
  have HO578 := n3_
  have HO583 := n4_
  have HO586 := n5_
  have HO591 := n6_
  have HO596 := n7_
  have HO599 := n8_
  have BK561 := n9_
  have BK562 := n10_
  have BK579 := n11_
  have BK587 := n12_
  have HB := n13_
  clear n0_ n1_ n2_ n3_ n4_ n5_ n6_ n7_ n8_ n9_ n10_ n11_ n12_ n13_
  clear hb
  (try clear ho0)
  (try clear ho1)
  obtain ⟨Ao64, co64, eo64⟩ := Kd.S_slice HO596.out
  (first | subst eo64 | (injection eo64 with f1_ f2_ f3_; have f4_ := f1_.symm; have f5_ := f3_.symm; clear f1_ f2_ f3_; subst f4_; subst f5_))
  obtain ⟨Ao65, co65, eo65⟩ := Kd.S_slice HO599.out
  (first | subst eo65 | (injection eo65 with f1_ f2_ f3_; have f4_ := f1_.symm; have f5_ := f3_.symm; clear f1_ f2_ f3_; subst f4_; subst f5_))
  refine hK.out _ _ ⟨bc BK587 0, bc BK587 1, bc BK587 2, bc BK562 0, bc BK562 1, bc BK562 2⟩ (fun hHeld => ?_)
  clear hK K
  refine nm (some 42) ?_
  refine one_ (i := 3) (N := some 43) (bv 5 15) rfl rfl (by kernel_rfl) (by decide) (fun K hK => ?_)
  refine goes_ Try.func11 (by kernel_rfl) rfl #[.agg #[.int .i64 t580, .slice Ao46 t581.length co46, .slice Ao47 t584.length co47], .agg #[.int .i64 t593, .slice Ao64 t594.length co64, .slice Ao65 t597.length co65]] (by rfl) rfl rfl gl ?_
  with_reducible refine (laws_eqAsm.calls k t580 _ _ t581 _ _ t584 t593 _ _ t594 _ _ t597 t600 _ ?side1 ?side2 ?side3 ?side4 ?side5 ?side6 ?side7 ?side8 A60.out).mono ?_
  (case side1 => exact cc (Kd.S_reads' HO583.out).2.2)
  (case side2 => exact (Kd.S_reads' HO583.out).2.1)
  (case side3 => exact cc (Kd.S_reads' HO586.out).2.2)
  (case side4 => exact (Kd.S_reads' HO586.out).2.1)
  (case side5 => exact cc (Kd.S_reads' HO596.out).2.2)
  (case side6 => exact (Kd.S_reads' HO596.out).2.1)
  (case side7 => exact cc (Kd.S_reads' HO599.out).2.2)
  (case side8 => exact (Kd.S_reads' HO599.out).2.1)
  rintro e w66 ⟨rfl, hb⟩
  refine ⟨_, rfl, ?_⟩
  replace HO567 := am (Kd.S_below (kS HO567) hb)
  replace HO571 := am (Kd.S_below (kS HO571) hb)
  replace HO574 := am (Kd.S_below (kS HO574) hb)
  replace HO578 := am (Kd.S_below (kS HO578) hb)
  replace HO583 := am (Kd.S_below (kS HO583) hb)
  replace HO586 := am (Kd.S_below (kS HO586) hb)
  replace HO591 := am (Kd.S_below (kS HO591) hb)
  replace HO596 := am (Kd.S_below (kS HO596) hb)
  replace HO599 := am (Kd.S_below (kS HO599) hb)
  replace BK561 := bb BK561 hb
  replace BK562 := bb BK562 hb
  replace BK579 := bb BK579 hb
  replace BK587 := bb BK587 hb
  replace HB := am (below_step (bw HB) hb)
  clear hb
  refine hK.out _ _ ⟨bc BK587 0, bc BK587 1, bc BK587 2, bc BK562 0, bc BK562 1, bc BK562 2⟩ (fun hHeld => ?_)
  clear hK K
  refine nm (some 43) ?_
  refine pure_ (i := 4) (N := some 44) (v := ?_) (a' := ?_) (bv 5 31) rfl rfl (by kernel_rfl) (fun _ _ _ h => h) (Or.inl ⟨by rfl, ?_⟩) ?_ ?_
  rotate_left
  ·intro w'
   go_simp
   with_reducible rfl
  rotate_left
  ·simp only [Act.put, sa, sz, ss, i64_w, i32_w]
   rfl
  refine done_ (by kernel_rfl) ?_
  go_upto_if 44 with (fail)
  (try simp only [Act.put, sa, sz, ss])
  have H := HC61.out
  clear HC61
  refine qT H ?_ ?_ <;> clear H <;> intro c67 H <;> subst c67
  ·obtain rfl := Option.some.inj H
   go_wp2
   go_ret
   exact ⟨er, bw HB⟩
  obtain rfl := Option.some.inj H
  go_wp2
  go_ret
  exact ⟨er, bw HB⟩
 obtain rfl := Option.some.inj H
 go_wp2
 go_ret
 exact ⟨er, bw HB⟩

end Go.Proofs.Ytmfhmfhkknijeaa.QFnExactAsmRight
