import Derived.Test.YtkhpiicijkhpkaaCFnExactAsmBytesx0
import Derived.Test.YtkhpiicijkhpkaaCFnExactAsmBytesx3
import Derived.Test.YtkhpiicijkhpkaaCFnExactAsmBytesx4
import Derived.Test.YtkhpiicijkhpkaaCFnExactAsmBytesx5
import Derived.Test.YtkhpiicijkhpkaaCFnExactAsmBytesx13
import Derived.Test.YtkhpiicijkhpkaaCFnExactAsmBytesx14
import Derived.Test.YtkhpiicijkhpkaaCFnExactAsmBytesx22
import Derived.Test.YtkhpiicijkhpkaaCFnExactAsmBytesx25
namespace Go.Proofs.Ytkhpiicijkhpkaa.QFnExactAsmBytes
open Go.RowKit Go.Proofs.YtkhpiicijkhpkaaW
open PrintWords PrintLast PrintMore PrintShort PrintIsh
attribute [local go_sem] max2_int min2_int max_two min_two max_three min_three max_four min_four
set_option linter.unusedVariables false
set_option maxHeartbeats 8000000
set_option maxRecDepth 100000
set_option linter.unusedSimpArgs false

def laws_FnExactAsmBytes.f (k : Nat) (l0_0 : List (S116)) (a1_0 : Int) (l1_1 : List (S134)) (l1_2 : List (List (S185))) : Option (Bool) := (laws_szProgram.f k l0_0 1048576).bind fun t708 => (if t708 < 0 then (some true) else ((laws_szAsm.f k a1_0 l1_1 l1_2 t708).bind fun t709 => (if t709 < 0 then (some true) else ((laws_toProgram.f k l0_0).bind fun t710 => ((laws_toAsm.f k a1_0 l1_1 l1_2).bind fun bt713 => ((spec_AsmBytes.f k t710 bt713.1 bt713.2.1 bt713.2.2).bind fun t720 => ((laws_toProgram.f k l0_0).bind fun t721 => ((laws_toAsm.f k a1_0 l1_1 l1_2).bind fun bt725 => ((impl_AsmBytes.f k t721 bt725.1 bt725.2.1 bt725.2.2).bind fun t733 => (if t733.toList = t720.toList then ((laws_toProgram.f k l0_0).bind fun t734 => ((laws_eqProgram.f k t721 t734).bind fun t737 => (if t737 = true then ((laws_toAsm.f k a1_0 l1_1 l1_2).bind fun bt738 => ((laws_eqAsm.f k bt725.1 bt725.2.1 bt725.2.2 bt738.1 bt738.2.1 bt738.2.2).bind fun t745 => (if t745 = true then (some true) else (some false)))) else (some false)))) else (some false)))))))))))
theorem laws_FnExactAsmBytes.calls (k : Nat) (A0_0 : Option Addr) (c0_0 : Nat) (l0_0 : List (S116)) (a1_0 : Int) (A1_1 : Option Addr) (c1_1 : Nat) (l1_1 : List (S134)) (A1_2 : Option Addr) (c1_2 : Nat) (l1_2 : List (List (S185))) (r : Bool) (w : World) (hr0_0 : Kd.C k116 w A0_0 l0_0.length l0_0) (hc0_0 : l0_0.length ≤ c0_0) (hr1_1 : Kd.C k134 w A1_1 l1_1.length l1_1) (hc1_1 : l1_1.length ≤ c1_1) (hr1_2 : Kd.C (Kd.slice 185 k185) w A1_2 l1_2.length l1_2) (hc1_2 : l1_2.length ≤ c1_2) (h : laws_FnExactAsmBytes.f k l0_0 a1_0 l1_1 l1_2 = some r) :
  Calls Try.prog 4 #[.agg #[.slice A0_0 l0_0.length c0_0], .agg #[.int .i64 a1_0, .slice A1_1 l1_1.length c1_1, .slice A1_2 l1_2.length c1_2]] w fun e w' => e = .returned (.bool r) ∧ Below w.heap.size w w' := by
 have hu24 := Try.underlying24
 have hu43 := Try.underlying43
 have hu32 := Try.underlying32
 have hu49 := Try.underlying49
 have HR0_0 := am hr0_0
 have HC0_0 := am hc0_0
 clear hr0_0 hc0_0
 have HR1_1 := am hr1_1
 have HC1_1 := am hc1_1
 clear hr1_1 hc1_1
 have HR1_2 := am hr1_2
 have HC1_2 := am hc1_2
 clear hr1_2 hc1_2
 have HB := am (Below.refl w.heap.size w)
 have H : ((laws_szProgram.f k l0_0 1048576).bind fun t708 => (if t708 < 0 then (some true) else ((laws_szAsm.f k a1_0 l1_1 l1_2 t708).bind fun t709 => (if t709 < 0 then (some true) else ((laws_toProgram.f k l0_0).bind fun t710 => ((laws_toAsm.f k a1_0 l1_1 l1_2).bind fun bt713 => ((spec_AsmBytes.f k t710 bt713.1 bt713.2.1 bt713.2.2).bind fun t720 => ((laws_toProgram.f k l0_0).bind fun t721 => ((laws_toAsm.f k a1_0 l1_1 l1_2).bind fun bt725 => ((impl_AsmBytes.f k t721 bt725.1 bt725.2.1 bt725.2.2).bind fun t733 => (if t733.toList = t720.toList then ((laws_toProgram.f k l0_0).bind fun t734 => ((laws_eqProgram.f k t721 t734).bind fun t737 => (if t737 = true then ((laws_toAsm.f k a1_0 l1_1 l1_2).bind fun bt738 => ((laws_eqAsm.f k bt725.1 bt725.2.1 bt725.2.2 bt738.1 bt738.2.1 bt738.2.2).bind fun t745 => (if t745 = true then (some true) else (some false)))) else (some false)))) else (some false)))))))))))) = some r := h
 clear h
 refine be H ?_; clear H; intro t708 A3 H
 have HC4 := am H
 clear H
 go_enter Try.func4, Try.ntmps4
 go_upto_if 14 with (first | ((with_reducible refine gd 2 rfl ?_); refine bX 2 #[.slice A0_0 l0_0.length c0_0] 24 HB ?_; clear HB; intro gb706 w5 hg hb BK706 GW706 HB; clear hb hg) | ((with_reducible refine gd 3 rfl ?_); refine bX 3 #[.int .i64 a1_0, .slice A1_1 l1_1.length c1_1, .slice A1_2 l1_2.length c1_2] 43 HB ?_; clear HB; intro gb707 w6 hg hb BK707 GW707 HB; obtain ⟨NB706_707, NB707_706, BK706⟩ := b3 hg BK706 hb; clear hb hg; have hnb7 := NB706_707.out; have hnc7 := NB707_706.out; have hcz8 := bK w6 BK706; have hfz8 := bF BK706) | ((with_reducible refine gk 7 rfl ?_); refine gB 7 (some 12) Try.func7 #[.agg #[.slice A0_0 l0_0.length c0_0], .int .i64 1048576] (laws_szProgram.calls k _ _ l0_0 1048576 t708 _ (cc (Kd.C_below HR0_0.out HB.out)) HC0_0.out A3.out) ?_; intro w9 hb; replace BK706 := bb BK706 hb; replace BK707 := bb BK707 hb; replace HB := bs HB hb; clear hb))
 (try simp only [Act.put, sa, sz, ss])
 have H := HC4.out
 clear HC4
 refine qI H ?_ ?_ <;> clear H <;> intro c10b0 H
 ·(first | rw [c10b0] | (simp only [i64_w, i32_w]; rw [c10b0]) | skip)
  obtain rfl := oi H
  go_wp2
  go_ret
  exact ⟨er, bw HB⟩
 (first | rw [c10b0] | (simp only [i64_w, i32_w]; rw [c10b0]) | skip)
 refine be H ?_; clear H; intro t709 A11 H
 have HC12 := am H
 clear H
 have hnb13 := NB707_706.out
 have hnc13 := NB706_707.out
 have hcz14 := bK w9 BK707
 have hfz14 := bF BK707
 go_upto_if 19 with (first | ((with_reducible refine gk 18 rfl ?_); refine gB 18 (some 17) Try.func18 #[.agg #[.int .i64 a1_0, .slice A1_1 l1_1.length c1_1, .slice A1_2 l1_2.length c1_2], .int .i64 t708] (laws_szAsm.calls k a1_0 _ _ l1_1 _ _ l1_2 t708 t709 _ (cc (Kd.C_below HR1_1.out HB.out)) HC1_1.out (cc (Kd.C_below HR1_2.out HB.out)) HC1_2.out A11.out) ?_; intro w15 hb; replace BK706 := bb BK706 hb; replace BK707 := bb BK707 hb; replace HB := bs HB hb; clear hb))
 (try simp only [Act.put, sa, sz, ss])
 have H := HC12.out
 clear HC12
 refine qI H ?_ ?_ <;> clear H <;> intro c16b0 H
 ·(first | rw [c16b0] | (simp only [i64_w, i32_w]; rw [c16b0]) | skip)
  obtain rfl := oi H
  go_wp2
  go_ret
  exact ⟨er, bw HB⟩
 (first | rw [c16b0] | (simp only [i64_w, i32_w]; rw [c16b0]) | skip)
 refine be H ?_; clear H; intro t710 A17 H
 replace H := Option.bind_eq_some_iff.mp H
 obtain ⟨⟨t713, t714, t717⟩, A180, H⟩ := H
 replace H : ((spec_AsmBytes.f k t710 t713 t714 t717).bind fun t720 => ((laws_toProgram.f k l0_0).bind fun t721 => ((laws_toAsm.f k a1_0 l1_1 l1_2).bind fun bt725 => ((impl_AsmBytes.f k t721 bt725.1 bt725.2.1 bt725.2.2).bind fun t733 => (if t733.toList = t720.toList then ((laws_toProgram.f k l0_0).bind fun t734 => ((laws_eqProgram.f k t721 t734).bind fun t737 => (if t737 = true then ((laws_toAsm.f k a1_0 l1_1 l1_2).bind fun bt738 => ((laws_eqAsm.f k bt725.1 bt725.2.1 bt725.2.2 bt738.1 bt738.2.1 bt738.2.2).bind fun t745 => (if t745 = true then (some true) else (some false)))) else (some false)))) else (some false)))))) = some r := H
 have A18 := am A180
 clear A180
 refine be H ?_; clear H; intro t720 A19 H
 refine be H ?_; clear H; intro t721 A20 H
 replace H := Option.bind_eq_some_iff.mp H
 obtain ⟨⟨t725, t726, t729⟩, A210, H⟩ := H
 replace H : ((impl_AsmBytes.f k t721 t725 t726 t729).bind fun t733 => (if t733.toList = t720.toList then ((laws_toProgram.f k l0_0).bind fun t734 => ((laws_eqProgram.f k t721 t734).bind fun t737 => (if t737 = true then ((laws_toAsm.f k a1_0 l1_1 l1_2).bind fun bt738 => ((laws_eqAsm.f k t725 t726 t729 bt738.1 bt738.2.1 bt738.2.2).bind fun t745 => (if t745 = true then (some true) else (some false)))) else (some false)))) else (some false))) = some r := H
 have A21 := am A210
 clear A210
 refine be H ?_; clear H; intro t733 A22 H
 have HC23 := am H
 clear H
 try go_wp2
 replace BK706 := am (blk_drew BK706.out)
 replace BK707 := am (blk_drew BK707.out)
 replace HB := am (below_drew1 HB.out)
 refine start_ (n := 6) (S := fun w' => w'.cell? ⟨gb706, 0, none⟩ = some (.slice A0_0 l0_0.length c0_0) ∧ w'.cell? ⟨gb707, 0, none⟩ = some (.int .i64 a1_0) ∧ w'.cell? ⟨gb707, 1, none⟩ = some (.slice A1_1 l1_1.length c1_1) ∧ w'.cell? ⟨gb707, 2, none⟩ = some (.slice A1_2 l1_2.length c1_2)) (ds := []) (bv 6 0) (by kernel_rfl) rfl (by kernel_rfl) ⟨bc BK706 0, bc BK707 0, bc BK707 1, bc BK707 2⟩ (fun hHeld => ?_)
 generalize w15.drew = w24 at BK706 BK707 HB hHeld ⊢
 refine take_ (i := 0) (N := some 20) (v := ?_) (a' := ?_) (bv 6 1) rfl rfl (by kernel_rfl) (fun _ _ _ h => h) (Or.inl ⟨by rfl, ?_⟩) hHeld ?_ ?_
 rotate_left
 ·rintro w' ⟨s0, s1, s2, s3⟩
  go_simp
  with_reducible rfl
 rotate_left
 ·simp only [Act.put, sa, sz, ss, i64_w, i32_w]
  rfl
 refine take_ (i := 2) (N := some 22) (v := ?_) (a' := ?_) (bv 6 5) rfl rfl (by kernel_rfl) (fun _ _ _ h => h) (Or.inl ⟨by rfl, ?_⟩) hHeld ?_ ?_
 rotate_left
 ·rintro w' ⟨s0, s1, s2, s3⟩
  go_simp
  with_reducible rfl
 rotate_left
 ·simp only [Act.put, sa, sz, ss, i64_w, i32_w]
  rfl
 refine one_ (i := 1) (N := some 21) (bv 6 7) rfl rfl (by kernel_rfl) (by decide) (fun K hK => ?_)
 refine goes_ Try.func10 (by kernel_rfl) rfl #[.agg #[.slice A0_0 l0_0.length c0_0]] (by rfl) rfl rfl gl ?_
 with_reducible refine (laws_toProgram.calls k _ _ l0_0 t710 _ ?side1 ?side2 A17.out).mono ?_
 (case side1 => exact cc (Kd.C_below HR0_0.out HB.out))
 (case side2 => exact HC0_0.out)
 rintro e w25 ⟨v711, rfl, ho0, hb⟩
 refine ⟨_, rfl, ?_⟩
 have n0_ := am (Kd.S_lower ho0 (below_size (bw HB)))
 have n1_ := bb BK706 hb
 have n2_ := bb BK707 hb
 have n3_ := am (below_step (bw HB) hb)
 clear BK706
 clear BK707
 clear HB
 have HO712 := n0_
 have BK706 := n1_
 have BK707 := n2_
 have HB := n3_
 clear n0_ n1_ n2_ n3_
 clear hb
 refine hK.out _ _ ⟨bc BK706 0, bc BK707 0, bc BK707 1, bc BK707 2⟩ (fun hHeld => ?_)
 clear hK K
 refine nm (some 21) ?_
 refine one_ (i := 3) (N := some 23) (bv 6 15) rfl rfl (by kernel_rfl) (by decide) (fun K hK => ?_)
 refine goes_ Try.func20 (by kernel_rfl) rfl #[.agg #[.int .i64 a1_0, .slice A1_1 l1_1.length c1_1, .slice A1_2 l1_2.length c1_2]] (by rfl) rfl rfl gl ?_
 with_reducible refine (laws_toAsm.calls k a1_0 _ _ l1_1 _ _ l1_2 t713 t714 t717 _ ?side1 ?side2 ?side3 ?side4 A18.out).mono ?_
 (case side1 => exact cc (Kd.C_below HR1_1.out HB.out))
 (case side2 => exact HC1_1.out)
 (case side3 => exact cc (Kd.C_below HR1_2.out HB.out))
 (case side4 => exact HC1_2.out)
 rintro e w26 ⟨v715, v718, rfl, ho0, ho1, hb⟩
 refine ⟨_, rfl, ?_⟩
 have n0_ := am (Kd.S_below (kS HO712) hb)
 have n1_ := am (Kd.S_lower ho0 (below_size (bw HB)))
 have n2_ := am (Kd.S_lower ho1 (below_size (bw HB)))
 have n3_ := bb BK706 hb
 have n4_ := bb BK707 hb
 have n5_ := am (below_step (bw HB) hb)
 clear HO712
 clear BK706
 clear BK707
 clear HB
 have HO712 := n0_
 have HO716 := n1_
 have HO719 := n2_
 have BK706 := n3_
 have BK707 := n4_
 have HB := n5_
 clear n0_ n1_ n2_ n3_ n4_ n5_
 clear hb
 obtain ⟨Ao27, co27, eo27⟩ := Kd.S_slice HO712.out
 (first | subst eo27 | (injection eo27 with f1_ f2_ f3_; have f4_ := f1_.symm; have f5_ := f3_.symm; clear f1_ f2_ f3_; subst f4_; subst f5_))
 obtain ⟨Ao28, co28, eo28⟩ := Kd.S_slice HO716.out
 (first | subst eo28 | (injection eo28 with f1_ f2_ f3_; have f4_ := f1_.symm; have f5_ := f3_.symm; clear f1_ f2_ f3_; subst f4_; subst f5_))
 obtain ⟨Ao29, co29, eo29⟩ := Kd.S_slice HO719.out
 (first | subst eo29 | (injection eo29 with f1_ f2_ f3_; have f4_ := f1_.symm; have f5_ := f3_.symm; clear f1_ f2_ f3_; subst f4_; subst f5_))
 refine hK.out _ _ ⟨bc BK706 0, bc BK707 0, bc BK707 1, bc BK707 2⟩ (fun hHeld => ?_)
 clear hK K
 refine nm (some 23) ?_
 refine one_ (i := 4) (N := some 24) (bv 6 31) rfl rfl (by kernel_rfl) (by decide) (fun K hK => ?_)
 refine goes_ Try.func19 (by kernel_rfl) rfl #[.agg #[.slice Ao27 t710.length co27], .agg #[.int .i64 t713, .slice Ao28 t714.length co28, .slice Ao29 t717.length co29]] (by rfl) rfl rfl gl ?_
 with_reducible refine (spec_AsmBytes.calls k _ _ t710 t713 _ _ t714 _ _ t717 t720 _ ?side1 ?side2 ?side3 ?side4 ?side5 ?side6 A19.out).mono ?_
 (case side1 => exact cc (Kd.S_reads' HO712.out).2.2)
 (case side2 => exact (Kd.S_reads' HO712.out).2.1)
 (case side3 => exact cc (Kd.S_reads' HO716.out).2.2)
 (case side4 => exact (Kd.S_reads' HO716.out).2.1)
 (case side5 => exact cc (Kd.S_reads' HO719.out).2.2)
 (case side6 => exact (Kd.S_reads' HO719.out).2.1)
 rintro e w30 ⟨rfl, hb⟩
 refine ⟨_, rfl, ?_⟩
 replace HO712 := am (Kd.S_below (kS HO712) hb)
 replace HO716 := am (Kd.S_below (kS HO716) hb)
 replace HO719 := am (Kd.S_below (kS HO719) hb)
 replace BK706 := bb BK706 hb
 replace BK707 := bb BK707 hb
 replace HB := am (below_step (bw HB) hb)
 clear hb
 refine hK.out _ _ ⟨bc BK706 0, bc BK707 0, bc BK707 1, bc BK707 2⟩ (fun hHeld => ?_)
 clear hK K
 refine nm (some 24) ?_
 refine pure_ (i := 5) (N := some 6) (v := ?_) (a' := ?_) (bv 6 63) rfl rfl (by kernel_rfl) (fun _ _ _ h => h) (Or.inl ⟨by rfl, ?_⟩) ?_ ?_
 rotate_left
 ·intro w'
  go_simp
  with_reducible rfl
 rotate_left
 ·simp only [Act.put, sa, sz, ss, i64_w, i32_w]
  rfl
 refine done_ (by kernel_rfl) ?_
 have hnb31 := NB706_707.out
 have hnc31 := NB707_706.out
 have hcz32 := bK w30 BK706
 have hfz32 := bF BK706
 go_upto_if 34 with (first | ((with_reducible refine gk 10 rfl ?_); refine gC 10 (some 26) Try.func10 #[.agg #[.slice A0_0 l0_0.length c0_0]] ((laws_toProgram.calls k _ _ l0_0 t721 _ (cc (Kd.C_below HR0_0.out HB.out)) HC0_0.out A20.out).mono ?_); rintro e w33 ⟨v722, rfl, ho0, hb⟩; refine ⟨_, rfl, ?_⟩; replace HO716 := am (Kd.S_below (kS HO716) hb); replace HO719 := am (Kd.S_below (kS HO719) hb); have HO723 := am (Kd.S_lower (Kd.S_new' ho0 (Kd.S_lt (kS HO712))) (below_size (bw HB))); replace HO712 := am (Kd.S_elder' (kS HO712) (Kd.S_base ho0) hb); replace BK706 := bb BK706 hb; replace BK707 := bb BK707 hb; replace HB := bs HB hb; clear hb) | ((with_reducible refine gd 7 rfl ?_); refine bX 7 #[.slice none 0 0] 32 HB ?_; clear HB; intro gb724 w34 hg hb BK724 GW724 HB; replace HO712 := am (Kd.S_below (kS HO712) hb); replace HO716 := am (Kd.S_below (kS HO716) hb); replace HO719 := am (Kd.S_below (kS HO719) hb); replace HO723 := am (Kd.S_below (kS HO723) hb); obtain ⟨NB706_724, NB724_706, BK706⟩ := b3 hg BK706 hb; obtain ⟨NB707_724, NB724_707, BK707⟩ := b3 hg BK707 hb; clear hb hg; obtain ⟨Ao35, co35, eo35⟩ := Kd.S_slice HO723.out; subst eo35; have hnb36 := NB724_706.out; have hnc36 := NB706_724.out; have hnb37 := NB724_707.out; have hnc37 := NB707_724.out; have hcz38 := bK w34 BK724; have hfz38 := bF BK724; have hcz39 := bK w34 BK707; have hfz39 := bF BK707) | ((with_reducible refine gk 20 rfl ?_); refine gC 20 (some 28) Try.func20 #[.agg #[.int .i64 a1_0, .slice A1_1 l1_1.length c1_1, .slice A1_2 l1_2.length c1_2]] ((laws_toAsm.calls k a1_0 _ _ l1_1 _ _ l1_2 t725 t726 t729 _ (Kd.C_below HR1_1.out (bw HB)) HC1_1.out (Kd.C_below HR1_2.out (bw HB)) HC1_2.out A21.out).mono ?_); rintro e w40 ⟨v727, v730, rfl, ho0, ho1, hb⟩; refine ⟨_, rfl, ?_⟩; replace HO712 := am (Kd.S_below (by (with_reducible repeat (first | apply Kd.S_alloc | apply Kd.S_drewN | apply Kd.S_drew)); exact (Kd.S_mono (Kd.S_far (p := ⟨gb724, 0, none⟩) (Kd.S_types HO712.out BK724.out (by decide)) (fun _ hk => hk.2) (.slice Ao35 t721.length co35)) (fun _ h_ => h_.1))) hb); replace HO723 := am (Kd.S_below (by (with_reducible repeat (first | apply Kd.S_alloc | apply Kd.S_drewN | apply Kd.S_drew)); exact (Kd.S_mono (Kd.S_far (p := ⟨gb724, 0, none⟩) (Kd.S_types HO723.out BK724.out (by decide)) (fun _ hk => hk.2) (.slice Ao35 t721.length co35)) (fun _ h_ => h_.1))) hb); have HO728 := am (Kd.S_lower (Kd.S_new' ho0 (Kd.S_lt (by (with_reducible repeat (first | apply Kd.S_alloc | apply Kd.S_drewN | apply Kd.S_drew)); exact (Kd.S_mono (Kd.S_far (p := ⟨gb724, 0, none⟩) (Kd.S_types HO716.out BK724.out (by decide)) (fun _ hk => hk.2) (.slice Ao35 t721.length co35)) (fun _ h_ => h_.1))))) (below_size (bw HB))); replace HO716 := am (Kd.S_elder' (by (with_reducible repeat (first | apply Kd.S_alloc | apply Kd.S_drewN | apply Kd.S_drew)); exact (Kd.S_mono (Kd.S_far (p := ⟨gb724, 0, none⟩) (Kd.S_types HO716.out BK724.out (by decide)) (fun _ hk => hk.2) (.slice Ao35 t721.length co35)) (fun _ h_ => h_.1))) (Kd.S_base ho0) hb); have HO731 := am (Kd.S_lower (Kd.S_new' ho1 (Kd.S_lt (by (with_reducible repeat (first | apply Kd.S_alloc | apply Kd.S_drewN | apply Kd.S_drew)); exact (Kd.S_mono (Kd.S_far (p := ⟨gb724, 0, none⟩) (Kd.S_types HO719.out BK724.out (by decide)) (fun _ hk => hk.2) (.slice Ao35 t721.length co35)) (fun _ h_ => h_.1))))) (below_size (bw HB))); replace HO719 := am (Kd.S_elder' (by (with_reducible repeat (first | apply Kd.S_alloc | apply Kd.S_drewN | apply Kd.S_drew)); exact (Kd.S_mono (Kd.S_far (p := ⟨gb724, 0, none⟩) (Kd.S_types HO719.out BK724.out (by decide)) (fun _ hk => hk.2) (.slice Ao35 t721.length co35)) (fun _ h_ => h_.1))) (Kd.S_base ho1) hb); replace BK706 := bb2 BK706 hb; replace BK707 := bb2 BK707 hb; replace BK724 := bo #[.slice Ao35 t721.length co35] BK724 hb; replace HB := bs HB hb; clear hb) | ((with_reducible refine gd 8 rfl ?_); refine bX 8 #[.int .i64 0, .slice none 0 0, .slice none 0 0] 49 HB ?_; clear HB; intro gb732 w41 hg hb BK732 GW732 HB; replace HO712 := am (Kd.S_below (kS HO712) hb); replace HO716 := am (Kd.S_below (kS HO716) hb); replace HO719 := am (Kd.S_below (kS HO719) hb); replace HO723 := am (Kd.S_below (kS HO723) hb); replace HO728 := am (Kd.S_below (kS HO728) hb); replace HO731 := am (Kd.S_below (kS HO731) hb); obtain ⟨NB706_732, NB732_706, BK706⟩ := b3 hg BK706 hb; obtain ⟨NB707_732, NB732_707, BK707⟩ := b3 hg BK707 hb; obtain ⟨NB724_732, NB732_724, BK724⟩ := b3 hg BK724 hb; clear hb hg; have hnb42 := NB732_706.out; have hnc42 := NB706_732.out; have hnb43 := NB732_707.out; have hnc43 := NB707_732.out; have hnb44 := NB732_724.out; have hnc44 := NB724_732.out; have hcz45 := bK w41 BK732; have hfz45 := bF BK732; obtain ⟨Ao46, co46, eo46⟩ := Kd.S_slice HO728.out; subst eo46; obtain ⟨Ao47, co47, eo47⟩ := Kd.S_slice HO731.out; subst eo47; have hcz48 := bK w41 BK724; have hfz48 := bF BK724) | ((with_reducible refine gk 21 rfl ?_); refine gB 21 (some 31) Try.func21 #[.agg #[.slice Ao35 t721.length co35], .agg #[.int .i64 t725, .slice Ao46 t726.length co46, .slice Ao47 t729.length co47]] (impl_AsmBytes.calls k _ _ t721 t725 _ _ t726 _ _ t729 t733 _ (by refine (Kd.S_reads' (e := 121) (base := w.heap.size) (ok := fun k_ => (True ∧ some k_ ≠ (.slice Ao27 t710.length co27 : Value).ownBlock)) (n := t721.length) (c := co35) ?_).2.2; exact (by (with_reducible repeat (first | apply Kd.S_alloc | apply Kd.S_drewN | apply Kd.S_drew)); exact (Kd.S_mono (Kd.S_far (p := ⟨gb732, 2, none⟩) (Kd.S_far (p := ⟨gb732, 1, none⟩) (Kd.S_far (p := ⟨gb732, 0, none⟩) (Kd.S_types HO723.out BK732.out (by decide)) (fun _ hk => hk.2) (.int .i64 t725)) (fun _ hk => hk.2) (.slice Ao46 t726.length co46)) (fun _ hk => hk.2) (.slice Ao47 t729.length co47)) (fun _ h_ => h_.1)))) ((Kd.S_reads' HO723.out).2.1) (by refine (Kd.S_reads' (e := 80) (base := w.heap.size) (ok := fun k_ => (True ∧ some k_ ≠ (.slice Ao28 t714.length co28 : Value).ownBlock)) (n := t726.length) (c := co46) ?_).2.2; exact (by (with_reducible repeat (first | apply Kd.S_alloc | apply Kd.S_drewN | apply Kd.S_drew)); exact (Kd.S_mono (Kd.S_far (p := ⟨gb732, 2, none⟩) (Kd.S_far (p := ⟨gb732, 1, none⟩) (Kd.S_far (p := ⟨gb732, 0, none⟩) (Kd.S_types HO728.out BK732.out (by decide)) (fun _ hk => hk.2) (.int .i64 t725)) (fun _ hk => hk.2) (.slice Ao46 t726.length co46)) (fun _ hk => hk.2) (.slice Ao47 t729.length co47)) (fun _ h_ => h_.1)))) ((Kd.S_reads' HO728.out).2.1) (by refine (Kd.S_reads' (e := 78) (base := w.heap.size) (ok := fun k_ => (True ∧ some k_ ≠ (.slice Ao29 t717.length co29 : Value).ownBlock)) (n := t729.length) (c := co47) ?_).2.2; exact (by (with_reducible repeat (first | apply Kd.S_alloc | apply Kd.S_drewN | apply Kd.S_drew)); exact (Kd.S_mono (Kd.S_far (p := ⟨gb732, 2, none⟩) (Kd.S_far (p := ⟨gb732, 1, none⟩) (Kd.S_far (p := ⟨gb732, 0, none⟩) (Kd.S_types HO731.out BK732.out (by decide)) (fun _ hk => hk.2) (.int .i64 t725)) (fun _ hk => hk.2) (.slice Ao46 t726.length co46)) (fun _ hk => hk.2) (.slice Ao47 t729.length co47)) (fun _ h_ => h_.1)))) ((Kd.S_reads' HO731.out).2.1) A22.out) ?_; intro w49 hb; replace HO712 := am (Kd.S_below (by (with_reducible repeat (first | apply Kd.S_alloc | apply Kd.S_drewN | apply Kd.S_drew)); exact (Kd.S_mono (Kd.S_far (p := ⟨gb732, 2, none⟩) (Kd.S_far (p := ⟨gb732, 1, none⟩) (Kd.S_far (p := ⟨gb732, 0, none⟩) (Kd.S_types HO712.out BK732.out (by decide)) (fun _ hk => hk.2) (.int .i64 t725)) (fun _ hk => hk.2) (.slice Ao46 t726.length co46)) (fun _ hk => hk.2) (.slice Ao47 t729.length co47)) (fun _ h_ => h_.1))) hb); replace HO716 := am (Kd.S_below (by (with_reducible repeat (first | apply Kd.S_alloc | apply Kd.S_drewN | apply Kd.S_drew)); exact (Kd.S_mono (Kd.S_far (p := ⟨gb732, 2, none⟩) (Kd.S_far (p := ⟨gb732, 1, none⟩) (Kd.S_far (p := ⟨gb732, 0, none⟩) (Kd.S_types HO716.out BK732.out (by decide)) (fun _ hk => hk.2) (.int .i64 t725)) (fun _ hk => hk.2) (.slice Ao46 t726.length co46)) (fun _ hk => hk.2) (.slice Ao47 t729.length co47)) (fun _ h_ => h_.1))) hb); replace HO719 := am (Kd.S_below (by (with_reducible repeat (first | apply Kd.S_alloc | apply Kd.S_drewN | apply Kd.S_drew)); exact (Kd.S_mono (Kd.S_far (p := ⟨gb732, 2, none⟩) (Kd.S_far (p := ⟨gb732, 1, none⟩) (Kd.S_far (p := ⟨gb732, 0, none⟩) (Kd.S_types HO719.out BK732.out (by decide)) (fun _ hk => hk.2) (.int .i64 t725)) (fun _ hk => hk.2) (.slice Ao46 t726.length co46)) (fun _ hk => hk.2) (.slice Ao47 t729.length co47)) (fun _ h_ => h_.1))) hb); replace HO723 := am (Kd.S_below (by (with_reducible repeat (first | apply Kd.S_alloc | apply Kd.S_drewN | apply Kd.S_drew)); exact (Kd.S_mono (Kd.S_far (p := ⟨gb732, 2, none⟩) (Kd.S_far (p := ⟨gb732, 1, none⟩) (Kd.S_far (p := ⟨gb732, 0, none⟩) (Kd.S_types HO723.out BK732.out (by decide)) (fun _ hk => hk.2) (.int .i64 t725)) (fun _ hk => hk.2) (.slice Ao46 t726.length co46)) (fun _ hk => hk.2) (.slice Ao47 t729.length co47)) (fun _ h_ => h_.1))) hb); replace HO728 := am (Kd.S_below (by (with_reducible repeat (first | apply Kd.S_alloc | apply Kd.S_drewN | apply Kd.S_drew)); exact (Kd.S_mono (Kd.S_far (p := ⟨gb732, 2, none⟩) (Kd.S_far (p := ⟨gb732, 1, none⟩) (Kd.S_far (p := ⟨gb732, 0, none⟩) (Kd.S_types HO728.out BK732.out (by decide)) (fun _ hk => hk.2) (.int .i64 t725)) (fun _ hk => hk.2) (.slice Ao46 t726.length co46)) (fun _ hk => hk.2) (.slice Ao47 t729.length co47)) (fun _ h_ => h_.1))) hb); replace HO731 := am (Kd.S_below (by (with_reducible repeat (first | apply Kd.S_alloc | apply Kd.S_drewN | apply Kd.S_drew)); exact (Kd.S_mono (Kd.S_far (p := ⟨gb732, 2, none⟩) (Kd.S_far (p := ⟨gb732, 1, none⟩) (Kd.S_far (p := ⟨gb732, 0, none⟩) (Kd.S_types HO731.out BK732.out (by decide)) (fun _ hk => hk.2) (.int .i64 t725)) (fun _ hk => hk.2) (.slice Ao46 t726.length co46)) (fun _ hk => hk.2) (.slice Ao47 t729.length co47)) (fun _ h_ => h_.1))) hb); replace BK706 := bb2 BK706 hb; replace BK707 := bb2 BK707 hb; replace BK724 := bb2 BK724 hb; replace BK732 := bo #[.int .i64 t725, .slice Ao46 t726.length co46, .slice Ao47 t729.length co47] BK732 hb; replace HB := bs HB hb; clear hb))
 (try simp only [Act.put, sa, sz, ss])
 have H := HC23.out
 clear HC23
 by_cases c50 : t733.toList = t720.toList
 ·rw [if_pos c50] at H
  have c50b0 : (t733.toList == t720.toList) = true := beq_iff_eq.mpr c50
  have c50b1 : (t733.toList != t720.toList) = false := bne_eq_false_iff_eq.mpr c50
  clear c50
  (first | rw [c50b0] | (simp only [i64_w, i32_w]; rw [c50b0]) | skip)
  refine be H ?_; clear H; intro t734 A51 H
  refine be H ?_; clear H; intro t737 A52 H
  have HC53 := am H
  clear H
  try go_wp2
  replace HO712 := am (Kd.S_drew HO712.out)
  replace HO716 := am (Kd.S_drew HO716.out)
  replace HO719 := am (Kd.S_drew HO719.out)
  replace HO723 := am (Kd.S_drew HO723.out)
  replace HO728 := am (Kd.S_drew HO728.out)
  replace HO731 := am (Kd.S_drew HO731.out)
  replace BK706 := am (blk_drew BK706.out)
  replace BK707 := am (blk_drew BK707.out)
  replace BK724 := am (blk_drew BK724.out)
  replace BK732 := am (blk_drew BK732.out)
  replace HB := am (below_drew1 HB.out)
  refine start_ (n := 5) (S := fun w' => w'.cell? ⟨gb724, 0, none⟩ = some (.slice Ao35 t721.length co35) ∧ w'.cell? ⟨gb706, 0, none⟩ = some (.slice A0_0 l0_0.length c0_0)) (ds := []) (bv 5 0) (by kernel_rfl) rfl (by kernel_rfl) ⟨bc BK724 0, bc BK706 0⟩ (fun hHeld => ?_)
  generalize w49.drew = w54 at HO712 HO716 HO719 HO723 HO728 HO731 BK706 BK707 BK724 BK732 HB hHeld ⊢
  refine take_ (i := 0) (N := some 35) (v := ?_) (a' := ?_) (bv 5 1) rfl rfl (by kernel_rfl) (fun _ _ _ h => h) (Or.inl ⟨by rfl, ?_⟩) hHeld ?_ ?_
  rotate_left
  ·rintro w' ⟨s0, s1⟩
   go_simp
   with_reducible rfl
  rotate_left
  ·simp only [Act.put, sa, sz, ss, i64_w, i32_w]
   rfl
  refine take_ (i := 1) (N := some 36) (v := ?_) (a' := ?_) (bv 5 3) rfl rfl (by kernel_rfl) (fun _ _ _ h => h) (Or.inl ⟨by rfl, ?_⟩) hHeld ?_ ?_
  rotate_left
  ·rintro w' ⟨s0, s1⟩
   go_simp
   with_reducible rfl
  rotate_left
  ·simp only [Act.put, sa, sz, ss, i64_w, i32_w]
   rfl
  refine one_ (i := 2) (N := some 37) (bv 5 7) rfl rfl (by kernel_rfl) (by decide) (fun K hK => ?_)
  refine goes_ Try.func10 (by kernel_rfl) rfl #[.agg #[.slice A0_0 l0_0.length c0_0]] (by rfl) rfl rfl gl ?_
  with_reducible refine (laws_toProgram.calls k _ _ l0_0 t734 _ ?side1 ?side2 A51.out).mono ?_
  (case side1 => exact cc (Kd.C_below HR0_0.out HB.out))
  (case side2 => exact HC0_0.out)
  rintro e w55 ⟨v735, rfl, ho0, hb⟩
  refine ⟨_, rfl, ?_⟩
  have n0_ := am (Kd.S_elder' (kS HO712) (Kd.S_base ho0) hb)
  have n1_ := am (Kd.S_below (kS HO716) hb)
  have n2_ := am (Kd.S_below (kS HO719) hb)
  have n3_ := am (Kd.S_elder' (kS HO723) (Kd.S_base ho0) hb)
  have n4_ := am (Kd.S_below (kS HO728) hb)
  have n5_ := am (Kd.S_below (kS HO731) hb)
  have n6_ := am (Kd.S_lower (Kd.S_new' (Kd.S_new' ho0 (Kd.S_lt (kS HO712))) (Kd.S_lt (kS HO723))) (below_size (bw HB)))
  have n7_ := bb BK706 hb
  have n8_ := bb BK707 hb
  have n9_ := bb BK724 hb
  have n10_ := bb BK732 hb
  have n11_ := am (below_step (bw HB) hb)
  clear HO712
  clear HO716
  clear HO719
  clear HO723
  clear HO728
  clear HO731
  clear BK706
  clear BK707
  clear BK724
  clear BK732
  clear HB
  have HO712 := n0_
  have HO716 := n1_
  have HO719 := n2_
  have HO723 := n3_
  have HO728 := n4_
  have HO731 := n5_
  have HO736 := n6_
  have BK706 := n7_
  have BK707 := n8_
  have BK724 := n9_
  have BK732 := n10_
  have HB := n11_
  clear n0_ n1_ n2_ n3_ n4_ n5_ n6_ n7_ n8_ n9_ n10_ n11_
  clear hb
  obtain ⟨Ao56, co56, eo56⟩ := Kd.S_slice HO736.out
  (first | subst eo56 | (injection eo56 with f1_ f2_ f3_; have f4_ := f1_.symm; have f5_ := f3_.symm; clear f1_ f2_ f3_; subst f4_; subst f5_))
  refine hK.out _ _ ⟨bc BK724 0, bc BK706 0⟩ (fun hHeld => ?_)
  clear hK K
  refine nm (some 37) ?_
  refine one_ (i := 3) (N := some 38) (bv 5 15) rfl rfl (by kernel_rfl) (by decide) (fun K hK => ?_)
  refine goes_ Try.func14 (by kernel_rfl) rfl #[.agg #[.slice Ao35 t721.length co35], .agg #[.slice Ao56 t734.length co56]] (by rfl) rfl rfl gl ?_
  with_reducible refine (laws_eqProgram.calls k _ _ t721 _ _ t734 t737 _ ?side1 ?side2 ?side3 ?side4 A52.out).mono ?_
  (case side1 => exact cc (Kd.S_reads' HO723.out).2.2)
  (case side2 => exact (Kd.S_reads' HO723.out).2.1)
  (case side3 => exact cc (Kd.S_reads' HO736.out).2.2)
  (case side4 => exact (Kd.S_reads' HO736.out).2.1)
  rintro e w57 ⟨rfl, hb⟩
  refine ⟨_, rfl, ?_⟩
  replace HO712 := am (Kd.S_below (kS HO712) hb)
  replace HO716 := am (Kd.S_below (kS HO716) hb)
  replace HO719 := am (Kd.S_below (kS HO719) hb)
  replace HO723 := am (Kd.S_below (kS HO723) hb)
  replace HO728 := am (Kd.S_below (kS HO728) hb)
  replace HO731 := am (Kd.S_below (kS HO731) hb)
  replace HO736 := am (Kd.S_below (kS HO736) hb)
  replace BK706 := bb BK706 hb
  replace BK707 := bb BK707 hb
  replace BK724 := bb BK724 hb
  replace BK732 := bb BK732 hb
  replace HB := am (below_step (bw HB) hb)
  clear hb
  refine hK.out _ _ ⟨bc BK724 0, bc BK706 0⟩ (fun hHeld => ?_)
  clear hK K
  refine nm (some 38) ?_
  refine pure_ (i := 4) (N := some 39) (v := ?_) (a' := ?_) (bv 5 31) rfl rfl (by kernel_rfl) (fun _ _ _ h => h) (Or.inl ⟨by rfl, ?_⟩) ?_ ?_
  rotate_left
  ·intro w'
   go_simp
   with_reducible rfl
  rotate_left
  ·simp only [Act.put, sa, sz, ss, i64_w, i32_w]
   rfl
  refine done_ (by kernel_rfl) ?_
  go_upto_if 39 with (fail)
  (try simp only [Act.put, sa, sz, ss])
  have H := HC53.out
  clear HC53
  refine qT H ?_ ?_ <;> clear H <;> intro c58 H <;> subst c58
  ·replace H := Option.bind_eq_some_iff.mp H
   obtain ⟨⟨t738, t739, t742⟩, A590, H⟩ := H
   replace H : ((laws_eqAsm.f k t725 t726 t729 t738 t739 t742).bind fun t745 => (if t745 = true then (some true) else (some false))) = some r := H
   have A59 := am A590
   clear A590
   refine be H ?_; clear H; intro t745 A60 H
   have HC61 := am H
   clear H
   try go_wp2
   replace HO712 := am (Kd.S_drew HO712.out)
   replace HO716 := am (Kd.S_drew HO716.out)
   replace HO719 := am (Kd.S_drew HO719.out)
   replace HO723 := am (Kd.S_drew HO723.out)
   replace HO728 := am (Kd.S_drew HO728.out)
   replace HO731 := am (Kd.S_drew HO731.out)
   replace HO736 := am (Kd.S_drew HO736.out)
   replace BK706 := am (blk_drew BK706.out)
   replace BK707 := am (blk_drew BK707.out)
   replace BK724 := am (blk_drew BK724.out)
   replace BK732 := am (blk_drew BK732.out)
   replace HB := am (below_drew1 HB.out)
   refine start_ (n := 5) (S := fun w' => w'.cell? ⟨gb732, 0, none⟩ = some (.int .i64 t725) ∧ w'.cell? ⟨gb732, 1, none⟩ = some (.slice Ao46 t726.length co46) ∧ w'.cell? ⟨gb732, 2, none⟩ = some (.slice Ao47 t729.length co47) ∧ w'.cell? ⟨gb707, 0, none⟩ = some (.int .i64 a1_0) ∧ w'.cell? ⟨gb707, 1, none⟩ = some (.slice A1_1 l1_1.length c1_1) ∧ w'.cell? ⟨gb707, 2, none⟩ = some (.slice A1_2 l1_2.length c1_2)) (ds := []) (bv 5 0) (by kernel_rfl) rfl (by kernel_rfl) ⟨bc BK732 0, bc BK732 1, bc BK732 2, bc BK707 0, bc BK707 1, bc BK707 2⟩ (fun hHeld => ?_)
   generalize w57.drew = w62 at HO712 HO716 HO719 HO723 HO728 HO731 HO736 BK706 BK707 BK724 BK732 HB hHeld ⊢
   refine take_ (i := 0) (N := some 40) (v := ?_) (a' := ?_) (bv 5 1) rfl rfl (by kernel_rfl) (fun _ _ _ h => h) (Or.inl ⟨by rfl, ?_⟩) hHeld ?_ ?_
   rotate_left
   ·rintro w' ⟨s0, s1, s2, s3, s4, s5⟩
    go_simp
    with_reducible rfl
   rotate_left
   ·simp only [Act.put, sa, sz, ss, i64_w, i32_w]
    rfl
   refine take_ (i := 1) (N := some 41) (v := ?_) (a' := ?_) (bv 5 3) rfl rfl (by kernel_rfl) (fun _ _ _ h => h) (Or.inl ⟨by rfl, ?_⟩) hHeld ?_ ?_
   rotate_left
   ·rintro w' ⟨s0, s1, s2, s3, s4, s5⟩
    go_simp
    with_reducible rfl
   rotate_left
   ·simp only [Act.put, sa, sz, ss, i64_w, i32_w]
    rfl
   refine one_ (i := 2) (N := some 42) (bv 5 7) rfl rfl (by kernel_rfl) (by decide) (fun K hK => ?_)
   refine goes_ Try.func20 (by kernel_rfl) rfl #[.agg #[.int .i64 a1_0, .slice A1_1 l1_1.length c1_1, .slice A1_2 l1_2.length c1_2]] (by rfl) rfl rfl gl ?_
   with_reducible refine (laws_toAsm.calls k a1_0 _ _ l1_1 _ _ l1_2 t738 t739 t742 _ ?side1 ?side2 ?side3 ?side4 A59.out).mono ?_
   (case side1 => exact cc (Kd.C_below HR1_1.out HB.out))
   (case side2 => exact HC1_1.out)
   (case side3 => exact cc (Kd.C_below HR1_2.out HB.out))
   (case side4 => exact HC1_2.out)
   rintro e w63 ⟨v740, v743, rfl, ho0, ho1, hb⟩
   refine ⟨_, rfl, ?_⟩
   have n0_ := am (Kd.S_below (kS HO712) hb)
   have n1_ := am (Kd.S_elder' (kS HO716) (Kd.S_base ho0) hb)
   have n2_ := am (Kd.S_elder' (kS HO719) (Kd.S_base ho1) hb)
   have n3_ := am (Kd.S_below (kS HO723) hb)
   have n4_ := am (Kd.S_elder' (kS HO728) (Kd.S_base ho0) hb)
   have n5_ := am (Kd.S_elder' (kS HO731) (Kd.S_base ho1) hb)
   have n6_ := am (Kd.S_below (kS HO736) hb)
   have n7_ := am (Kd.S_lower (Kd.S_new' (Kd.S_new' ho0 (Kd.S_lt (kS HO716))) (Kd.S_lt (kS HO728))) (below_size (bw HB)))
   have n8_ := am (Kd.S_lower (Kd.S_new' (Kd.S_new' ho1 (Kd.S_lt (kS HO719))) (Kd.S_lt (kS HO731))) (below_size (bw HB)))
   have n9_ := bb BK706 hb
   have n10_ := bb BK707 hb
   have n11_ := bb BK724 hb
   have n12_ := bb BK732 hb
   have n13_ := am (below_step (bw HB) hb)
   clear HO712
   clear HO716
   clear HO719
   clear HO723
   clear HO728
   clear HO731
   clear HO736
   clear BK706
   clear BK707
   clear BK724
   clear BK732
   clear HB
   have HO712 := n0_
   have HO716 := n1_
   have HO719 := n2_
   have HO723 := n3_
   have HO728 := n4_
   have HO731 := n5_
   have HO736 := n6_
   have HO741 := n7_
   have HO744 := n8_
   have BK706 := n9_
   have BK707 := n10_
   have BK724 := n11_
   have BK732 := n12_
   have HB := n13_
   clear n0_ n1_ n2_ n3_ n4_ n5_ n6_ n7_ n8_ n9_ n10_ n11_ n12_ n13_
   clear hb
   obtain ⟨Ao64, co64, eo64⟩ := Kd.S_slice HO741.out
   (first | subst eo64 | (injection eo64 with f1_ f2_ f3_; have f4_ := f1_.symm; have f5_ := f3_.symm; clear f1_ f2_ f3_; subst f4_; subst f5_))
   obtain ⟨Ao65, co65, eo65⟩ := Kd.S_slice HO744.out
   (first | subst eo65 | (injection eo65 with f1_ f2_ f3_; have f4_ := f1_.symm; have f5_ := f3_.symm; clear f1_ f2_ f3_; subst f4_; subst f5_))
   refine hK.out _ _ ⟨bc BK732 0, bc BK732 1, bc BK732 2, bc BK707 0, bc BK707 1, bc BK707 2⟩ (fun hHeld => ?_)
   clear hK K
   refine nm (some 42) ?_
   refine one_ (i := 3) (N := some 43) (bv 5 15) rfl rfl (by kernel_rfl) (by decide) (fun K hK => ?_)
   refine goes_ Try.func22 (by kernel_rfl) rfl #[.agg #[.int .i64 t725, .slice Ao46 t726.length co46, .slice Ao47 t729.length co47], .agg #[.int .i64 t738, .slice Ao64 t739.length co64, .slice Ao65 t742.length co65]] (by rfl) rfl rfl gl ?_
   with_reducible refine (laws_eqAsm.calls k t725 _ _ t726 _ _ t729 t738 _ _ t739 _ _ t742 t745 _ ?side1 ?side2 ?side3 ?side4 ?side5 ?side6 ?side7 ?side8 A60.out).mono ?_
   (case side1 => exact cc (Kd.S_reads' HO728.out).2.2)
   (case side2 => exact (Kd.S_reads' HO728.out).2.1)
   (case side3 => exact cc (Kd.S_reads' HO731.out).2.2)
   (case side4 => exact (Kd.S_reads' HO731.out).2.1)
   (case side5 => exact cc (Kd.S_reads' HO741.out).2.2)
   (case side6 => exact (Kd.S_reads' HO741.out).2.1)
   (case side7 => exact cc (Kd.S_reads' HO744.out).2.2)
   (case side8 => exact (Kd.S_reads' HO744.out).2.1)
   rintro e w66 ⟨rfl, hb⟩
   refine ⟨_, rfl, ?_⟩
   replace HO712 := am (Kd.S_below (kS HO712) hb)
   replace HO716 := am (Kd.S_below (kS HO716) hb)
   replace HO719 := am (Kd.S_below (kS HO719) hb)
   replace HO723 := am (Kd.S_below (kS HO723) hb)
   replace HO728 := am (Kd.S_below (kS HO728) hb)
   replace HO731 := am (Kd.S_below (kS HO731) hb)
   replace HO736 := am (Kd.S_below (kS HO736) hb)
   replace HO741 := am (Kd.S_below (kS HO741) hb)
   replace HO744 := am (Kd.S_below (kS HO744) hb)
   replace BK706 := bb BK706 hb
   replace BK707 := bb BK707 hb
   replace BK724 := bb BK724 hb
   replace BK732 := bb BK732 hb
   replace HB := am (below_step (bw HB) hb)
   clear hb
   refine hK.out _ _ ⟨bc BK732 0, bc BK732 1, bc BK732 2, bc BK707 0, bc BK707 1, bc BK707 2⟩ (fun hHeld => ?_)
   clear hK K
   refine nm (some 43) ?_
   refine pure_ (i := 4) (N := some 44) (v := ?_) (a' := ?_) (bv 5 31) rfl rfl (by kernel_rfl) (fun _ _ _ h => h) (Or.inl ⟨by rfl, ?_⟩) ?_ ?_
   rotate_left
   ·intro w'
    go_simp
    with_reducible rfl
   rotate_left
   ·simp only [Act.put, sa, sz, ss, i64_w, i32_w]
    rfl
   refine done_ (by kernel_rfl) ?_
   go_upto_if 44 with (fail)
   (try simp only [Act.put, sa, sz, ss])
   have H := HC61.out
   clear HC61
   refine qT H ?_ ?_ <;> clear H <;> intro c67 H <;> subst c67
   ·obtain rfl := oi H
    go_wp2
    go_ret
    exact ⟨er, bw HB⟩
   obtain rfl := oi H
   go_wp2
   go_ret
   exact ⟨er, bw HB⟩
  obtain rfl := oi H
  go_wp2
  go_ret
  exact ⟨er, bw HB⟩
 rw [if_neg c50] at H
 have c50b0 : (t733.toList == t720.toList) = false := beq_eq_false_iff_ne.mpr c50
 have c50b1 : (t733.toList != t720.toList) = true := bne_iff_ne.mpr c50
 (first | rw [c50b0] | (simp only [i64_w, i32_w]; rw [c50b0]) | skip)
 obtain rfl := oi H
 go_wp2
 go_ret
 exact ⟨er, bw HB⟩

end Go.Proofs.Ytkhpiicijkhpkaa.QFnExactAsmBytes
