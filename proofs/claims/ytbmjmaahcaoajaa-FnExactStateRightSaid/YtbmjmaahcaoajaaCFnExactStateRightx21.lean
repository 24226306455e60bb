import Derived.Test.YtbmjmaahcaoajaaCFnExactStateRightx0
import Derived.Test.YtbmjmaahcaoajaaCFnExactStateRightx2
import Derived.Test.YtbmjmaahcaoajaaCFnExactStateRightx3
import Derived.Test.YtbmjmaahcaoajaaCFnExactStateRightx5
import Derived.Test.YtbmjmaahcaoajaaCFnExactStateRightx6
import Derived.Test.YtbmjmaahcaoajaaCFnExactStateRightx12
import Derived.Test.YtbmjmaahcaoajaaCFnExactStateRightx13
import Derived.Test.YtbmjmaahcaoajaaCFnExactStateRightx20
namespace Go.Proofs.Ytbmjmaahcaoajaa.QFnExactStateRight
open Go.RowKit Go.Proofs.YtbmjmaahcaoajaaW
open PrintWords PrintLast PrintMore PrintShort
attribute [local go_sem] max2_int min2_int max_two min_two max_three min_three max_four min_four   -- for this text's walks alone
set_option linter.unusedVariables false
set_option maxHeartbeats 8000000
set_option maxRecDepth 100000
set_option linter.unusedSimpArgs false

def laws_FnExactStateRight.f (k : Nat) (l0_0 : List (S165)) (l1_0 : List (S213)) (l1_1 : List (List Int)) (l1_2 : List Int) (a1_3 : Int) (a1_4 : Bool) (a1_5 : Int) (a1_6 : Int) : Option (Bool) := (laws_szProgram.f k l0_0 1048576).bind fun t477 => (if t477 < 0 then (some true) else ((laws_szState.f k l1_0 l1_1 l1_2 a1_3 a1_4 a1_5 a1_6 t477).bind fun t478 => (if t478 < 0 then (some true) else ((laws_toProgram.f k l0_0).bind fun t479 => ((laws_toState.f k l1_0 l1_1 l1_2 a1_3 a1_4 a1_5 a1_6).bind fun bt482 => ((spec_StateRight.f k t479 bt482.1 bt482.2.1 bt482.2.2.1 bt482.2.2.2.1 bt482.2.2.2.2.1 bt482.2.2.2.2.2.1 bt482.2.2.2.2.2.2).bind fun t495 => ((laws_toProgram.f k l0_0).bind fun t496 => ((laws_toState.f k l1_0 l1_1 l1_2 a1_3 a1_4 a1_5 a1_6).bind fun bt500 => ((impl_StateRight.f k t496 bt500.1 bt500.2.1 bt500.2.2.1 bt500.2.2.2.1 bt500.2.2.2.2.1 bt500.2.2.2.2.2.1 bt500.2.2.2.2.2.2).bind fun t514 => (if (t514 != t495) = true then (some false) else ((laws_toProgram.f k l0_0).bind fun t515 => ((laws_eqProgram.f k t496 t515).bind fun t518 => (if t518 = true then ((laws_toState.f k l1_0 l1_1 l1_2 a1_3 a1_4 a1_5 a1_6).bind fun bt519 => ((laws_eqState.f k bt500.1 bt500.2.1 bt500.2.2.1 bt500.2.2.2.1 bt500.2.2.2.2.1 bt500.2.2.2.2.2.1 bt500.2.2.2.2.2.2 bt519.1 bt519.2.1 bt519.2.2.1 bt519.2.2.2.1 bt519.2.2.2.2.1 bt519.2.2.2.2.2.1 bt519.2.2.2.2.2.2).bind fun t532 => (if t532 = true then (some true) else (some false)))) else (some false))))))))))))))
theorem laws_FnExactStateRight.mono : ∀ a0 a1 a2 a3 a4 a5 a6 a7 k, LeO (laws_FnExactStateRight.f k a0 a1 a2 a3 a4 a5 a6 a7) (laws_FnExactStateRight.f (k + 1) a0 a1 a2 a3 a4 a5 a6 a7) := by
 intro a0 a1 a2 a3 a4 a5 a6 a7 k
 unfold laws_FnExactStateRight.f
 with_reducible repeat' first | exact impl_StateRight.mono .. | exact laws_eqProgram.mono .. | exact laws_eqState.mono .. | exact laws_szProgram.mono .. | exact laws_szState.mono .. | exact laws_toProgram.mono .. | exact laws_toState.mono .. | exact spec_StateRight.mono .. | exact LeO.refl _ | exact LeO.none _ | refine LeO.ite ?_ ?_ | refine LeO.bind ?_ (fun _ => ?_)
theorem laws_FnExactStateRight.calls (k : Nat) (A0_0 : Option Addr) (c0_0 : Nat) (l0_0 : List (S165)) (A1_0 : Option Addr) (c1_0 : Nat) (l1_0 : List (S213)) (A1_1 : Option Addr) (c1_1 : Nat) (l1_1 : List (List Int)) (A1_2 : Option Addr) (c1_2 : Nat) (l1_2 : List Int) (a1_3 : Int) (a1_4 : Bool) (a1_5 : Int) (a1_6 : Int) (r : Bool) (w : World) (hr0_0 : Kd.C k165 w A0_0 l0_0.length l0_0) (hc0_0 : l0_0.length ≤ c0_0) (hr1_0 : Kd.C k213 w A1_0 l1_0.length l1_0) (hc1_0 : l1_0.length ≤ c1_0) (hr1_1 : Kd.C (Kd.slice 2 (Kd.int .i64)) w A1_1 l1_1.length l1_1) (hc1_1 : l1_1.length ≤ c1_1) (hr1_2 : Kd.C (Kd.int .i64) w A1_2 l1_2.length l1_2) (hc1_2 : l1_2.length ≤ c1_2) (h : laws_FnExactStateRight.f k l0_0 l1_0 l1_1 l1_2 a1_3 a1_4 a1_5 a1_6 = some r) :
  Calls Try.prog 13 #[.agg #[.slice A0_0 l0_0.length c0_0], .agg #[.slice A1_0 l1_0.length c1_0, .slice A1_1 l1_1.length c1_1, .slice A1_2 l1_2.length c1_2, .int .i64 a1_3, .bool a1_4, .int .i64 a1_5, .int .i64 a1_6]] w fun e w' => e = .returned (.bool r) ∧ Below w.heap.size w w' := by
 have hu24 := Try.underlying24
 have hu76 := Try.underlying76
 have hu30 := Try.underlying30
 have hu52 := Try.underlying52
 have HR0_0 := am hr0_0
 have HC0_0 := am hc0_0
 clear hr0_0 hc0_0
 have HR1_0 := am hr1_0
 have HC1_0 := am hc1_0
 clear hr1_0 hc1_0
 have HR1_1 := am hr1_1
 have HC1_1 := am hc1_1
 clear hr1_1 hc1_1
 have HR1_2 := am hr1_2
 have HC1_2 := am hc1_2
 clear hr1_2 hc1_2
 have HB := am (Below.refl w.heap.size w)
 have H : ((laws_szProgram.f k l0_0 1048576).bind fun t477 => (if t477 < 0 then (some true) else ((laws_szState.f k l1_0 l1_1 l1_2 a1_3 a1_4 a1_5 a1_6 t477).bind fun t478 => (if t478 < 0 then (some true) else ((laws_toProgram.f k l0_0).bind fun t479 => ((laws_toState.f k l1_0 l1_1 l1_2 a1_3 a1_4 a1_5 a1_6).bind fun bt482 => ((spec_StateRight.f k t479 bt482.1 bt482.2.1 bt482.2.2.1 bt482.2.2.2.1 bt482.2.2.2.2.1 bt482.2.2.2.2.2.1 bt482.2.2.2.2.2.2).bind fun t495 => ((laws_toProgram.f k l0_0).bind fun t496 => ((laws_toState.f k l1_0 l1_1 l1_2 a1_3 a1_4 a1_5 a1_6).bind fun bt500 => ((impl_StateRight.f k t496 bt500.1 bt500.2.1 bt500.2.2.1 bt500.2.2.2.1 bt500.2.2.2.2.1 bt500.2.2.2.2.2.1 bt500.2.2.2.2.2.2).bind fun t514 => (if (t514 != t495) = true then (some false) else ((laws_toProgram.f k l0_0).bind fun t515 => ((laws_eqProgram.f k t496 t515).bind fun t518 => (if t518 = true then ((laws_toState.f k l1_0 l1_1 l1_2 a1_3 a1_4 a1_5 a1_6).bind fun bt519 => ((laws_eqState.f k bt500.1 bt500.2.1 bt500.2.2.1 bt500.2.2.2.1 bt500.2.2.2.2.1 bt500.2.2.2.2.2.1 bt500.2.2.2.2.2.2 bt519.1 bt519.2.1 bt519.2.2.1 bt519.2.2.2.1 bt519.2.2.2.2.1 bt519.2.2.2.2.2.1 bt519.2.2.2.2.2.2).bind fun t532 => (if t532 = true then (some true) else (some false)))) else (some false))))))))))))))) = some r := h
 clear h
 refine be H ?_; clear H; intro t477 A3 H
 have HC4 := am H
 clear H
 go_enter Try.func13, Try.ntmps13
 go_upto_if 14 with (first | ((with_reducible refine gd 2 rfl ?_); refine bX 2 #[.slice A0_0 l0_0.length c0_0] 24 HB ?_; clear HB; intro gb475 w5 hg hb BK475 GW475 HB; clear hb hg) | ((with_reducible refine gd 3 rfl ?_); refine bX 3 #[.slice A1_0 l1_0.length c1_0, .slice A1_1 l1_1.length c1_1, .slice A1_2 l1_2.length c1_2, .int .i64 a1_3, .bool a1_4, .int .i64 a1_5, .int .i64 a1_6] 76 HB ?_; clear HB; intro gb476 w6 hg hb BK476 GW476 HB; obtain ⟨NB475_476, NB476_475, BK475⟩ := b3 hg BK475 hb; clear hb hg; have hnb7 := NB475_476.out; have hnc7 := NB476_475.out; have hcz8 := bK w6 BK475; have hfz8 := bF BK475) | ((with_reducible refine gk 14 rfl ?_); refine gB 14 (some 12) Try.func14 #[.agg #[.slice A0_0 l0_0.length c0_0], .int .i64 1048576] (laws_szProgram.calls k _ _ l0_0 1048576 t477 _ (cc (Kd.C_below HR0_0.out HB.out)) HC0_0.out A3.out) ?_; intro w9 hb; replace BK475 := bb BK475 hb; replace BK476 := bb BK476 hb; replace HB := bs HB hb; clear hb))
 (try simp only [Act.put, sa, sz, ss])
 have H := HC4.out
 clear HC4
 refine qI H ?_ ?_ <;> clear H <;> intro c10b0 H
 ·(first | rw [c10b0] | (simp only [i64_w, i32_w]; rw [c10b0]) | skip)
  obtain rfl := Option.some.inj H
  go_wp2
  go_ret
  exact ⟨er, bw HB⟩
 (first | rw [c10b0] | (simp only [i64_w, i32_w]; rw [c10b0]) | skip)
 refine be H ?_; clear H; intro t478 A11 H
 have HC12 := am H
 clear H
 have hnb13 := NB476_475.out
 have hnc13 := NB475_476.out
 have hcz14_0 := bk w9 BK476 0
 have hcz14_1 := bk w9 BK476 1
 have hcz14_2 := bk w9 BK476 2
 have hcz14_3 := bk w9 BK476 3
 have hcz14_4 := bk w9 BK476 4
 have hcz14_5 := bk w9 BK476 5
 have hcz14_6 := bk w9 BK476 6
 have hfz14_0 := bf BK476 0
 have hfz14_1 := bf BK476 1
 have hfz14_2 := bf BK476 2
 have hfz14_3 := bf BK476 3
 have hfz14_4 := bf BK476 4
 have hfz14_5 := bf BK476 5
 have hfz14_6 := bf BK476 6
 go_upto_if 19 with (first | ((with_reducible refine gk 52 rfl ?_); refine gB 52 (some 17) Try.func52 #[.agg #[.slice A1_0 l1_0.length c1_0, .slice A1_1 l1_1.length c1_1, .slice A1_2 l1_2.length c1_2, .int .i64 a1_3, .bool a1_4, .int .i64 a1_5, .int .i64 a1_6], .int .i64 t477] (laws_szState.calls k _ _ l1_0 _ _ l1_1 _ _ l1_2 a1_3 a1_4 a1_5 a1_6 t477 t478 _ (cc (Kd.C_below HR1_0.out HB.out)) HC1_0.out (cc (Kd.C_below HR1_1.out HB.out)) HC1_1.out (cc (Kd.C_below HR1_2.out HB.out)) HC1_2.out A11.out) ?_; intro w15 hb; replace BK475 := bb BK475 hb; replace BK476 := bb BK476 hb; replace HB := bs HB hb; clear hb))
 (try simp only [Act.put, sa, sz, ss])
 have H := HC12.out
 clear HC12
 refine qI H ?_ ?_ <;> clear H <;> intro c16b0 H
 ·(first | rw [c16b0] | (simp only [i64_w, i32_w]; rw [c16b0]) | skip)
  obtain rfl := Option.some.inj H
  go_wp2
  go_ret
  exact ⟨er, bw HB⟩
 (first | rw [c16b0] | (simp only [i64_w, i32_w]; rw [c16b0]) | skip)
 refine be H ?_; clear H; intro t479 A17 H
 replace H := Option.bind_eq_some_iff.mp H
 obtain ⟨⟨t482, t485, t488, t491, t492, t493, t494⟩, A180, H⟩ := H
 replace H : ((spec_StateRight.f k t479 t482 t485 t488 t491 t492 t493 t494).bind fun t495 => ((laws_toProgram.f k l0_0).bind fun t496 => ((laws_toState.f k l1_0 l1_1 l1_2 a1_3 a1_4 a1_5 a1_6).bind fun bt500 => ((impl_StateRight.f k t496 bt500.1 bt500.2.1 bt500.2.2.1 bt500.2.2.2.1 bt500.2.2.2.2.1 bt500.2.2.2.2.2.1 bt500.2.2.2.2.2.2).bind fun t514 => (if (t514 != t495) = true then (some false) else ((laws_toProgram.f k l0_0).bind fun t515 => ((laws_eqProgram.f k t496 t515).bind fun t518 => (if t518 = true then ((laws_toState.f k l1_0 l1_1 l1_2 a1_3 a1_4 a1_5 a1_6).bind fun bt519 => ((laws_eqState.f k bt500.1 bt500.2.1 bt500.2.2.1 bt500.2.2.2.1 bt500.2.2.2.2.1 bt500.2.2.2.2.2.1 bt500.2.2.2.2.2.2 bt519.1 bt519.2.1 bt519.2.2.1 bt519.2.2.2.1 bt519.2.2.2.2.1 bt519.2.2.2.2.2.1 bt519.2.2.2.2.2.2).bind fun t532 => (if t532 = true then (some true) else (some false)))) else (some false))))))))) = some r := H
 have A18 := am A180
 clear A180
 refine be H ?_; clear H; intro t495 A19 H
 refine be H ?_; clear H; intro t496 A20 H
 replace H := Option.bind_eq_some_iff.mp H
 obtain ⟨⟨t500, t503, t506, t509, t510, t511, t512⟩, A210, H⟩ := H
 replace H : ((impl_StateRight.f k t496 t500 t503 t506 t509 t510 t511 t512).bind fun t514 => (if (t514 != t495) = true then (some false) else ((laws_toProgram.f k l0_0).bind fun t515 => ((laws_eqProgram.f k t496 t515).bind fun t518 => (if t518 = true then ((laws_toState.f k l1_0 l1_1 l1_2 a1_3 a1_4 a1_5 a1_6).bind fun bt519 => ((laws_eqState.f k t500 t503 t506 t509 t510 t511 t512 bt519.1 bt519.2.1 bt519.2.2.1 bt519.2.2.2.1 bt519.2.2.2.2.1 bt519.2.2.2.2.2.1 bt519.2.2.2.2.2.2).bind fun t532 => (if t532 = true then (some true) else (some false)))) else (some false)))))) = some r := H
 have A21 := am A210
 clear A210
 refine be H ?_; clear H; intro t514 A22 H
 have HC23 := am H
 clear H
 try go_wp2
 replace BK475 := am (blk_drew BK475.out)
 replace BK476 := am (blk_drew BK476.out)
 replace HB := am (below_drew1 HB.out)
 refine start_ (n := 6) (S := fun w' => w'.cell? ⟨gb475, 0, none⟩ = some (.slice A0_0 l0_0.length c0_0) ∧ w'.cell? ⟨gb476, 0, none⟩ = some (.slice A1_0 l1_0.length c1_0) ∧ w'.cell? ⟨gb476, 1, none⟩ = some (.slice A1_1 l1_1.length c1_1) ∧ w'.cell? ⟨gb476, 2, none⟩ = some (.slice A1_2 l1_2.length c1_2) ∧ w'.cell? ⟨gb476, 3, none⟩ = some (.int .i64 a1_3) ∧ w'.cell? ⟨gb476, 4, none⟩ = some (.bool a1_4) ∧ w'.cell? ⟨gb476, 5, none⟩ = some (.int .i64 a1_5) ∧ w'.cell? ⟨gb476, 6, none⟩ = some (.int .i64 a1_6)) (ds := []) (bv 6 0) (by kernel_rfl) rfl (by kernel_rfl) ⟨bc BK475 0, bc BK476 0, bc BK476 1, bc BK476 2, bc BK476 3, bc BK476 4, bc BK476 5, bc BK476 6⟩ (fun hHeld => ?_)
 generalize w15.drew = w24 at BK475 BK476 HB hHeld ⊢
 refine take_ (i := 0) (N := some 20) (v := ?_) (a' := ?_) (bv 6 1) rfl rfl (by kernel_rfl) (fun _ _ _ h => h) (Or.inl ⟨by rfl, ?_⟩) hHeld ?_ ?_
 rotate_left
 ·rintro w' ⟨s0, s1, s2, s3, s4, s5, s6, s7⟩
  go_simp
  with_reducible rfl
 rotate_left
 ·simp only [Act.put, sa, sz, ss, i64_w, i32_w]
  rfl
 refine take_ (i := 2) (N := some 22) (v := ?_) (a' := ?_) (bv 6 5) rfl rfl (by kernel_rfl) (fun _ _ _ h => h) (Or.inl ⟨by rfl, ?_⟩) hHeld ?_ ?_
 rotate_left
 ·rintro w' ⟨s0, s1, s2, s3, s4, s5, s6, s7⟩
  go_simp
  with_reducible rfl
 rotate_left
 ·simp only [Act.put, sa, sz, ss, i64_w, i32_w]
  rfl
 refine one_ (i := 1) (N := some 21) (bv 6 7) rfl rfl (by kernel_rfl) (by decide) (fun K hK => ?_)
 refine goes_ Try.func16 (by kernel_rfl) rfl #[.agg #[.slice A0_0 l0_0.length c0_0]] (by rfl) rfl rfl gl ?_
 with_reducible refine (laws_toProgram.calls k _ _ l0_0 t479 _ ?side1 ?side2 A17.out).mono ?_
 (case side1 => exact cc (Kd.C_below HR0_0.out HB.out))
 (case side2 => exact HC0_0.out)
 rintro e w25 ⟨v480, rfl, ho0, hb⟩
 refine ⟨_, rfl, ?_⟩
 have n0_ := am (Kd.S_lower ho0 (below_size (bw HB)))
 have n1_ := bb BK475 hb
 have n2_ := bb BK476 hb
 have n3_ := am (below_step (bw HB) hb)
 clear BK475
 clear BK476
 clear HB
 have HO481 := n0_
 have BK475 := n1_
 have BK476 := n2_
 have HB := n3_
 clear n0_ n1_ n2_ n3_
 clear hb
 (try clear ho0)
 refine hK.out _ _ ⟨bc BK475 0, bc BK476 0, bc BK476 1, bc BK476 2, bc BK476 3, bc BK476 4, bc BK476 5, bc BK476 6⟩ (fun hHeld => ?_)
 clear hK K
 refine nm (some 21) ?_
 refine one_ (i := 3) (N := some 23) (bv 6 15) rfl rfl (by kernel_rfl) (by decide) (fun K hK => ?_)
 refine goes_ Try.func54 (by kernel_rfl) rfl #[.agg #[.slice A1_0 l1_0.length c1_0, .slice A1_1 l1_1.length c1_1, .slice A1_2 l1_2.length c1_2, .int .i64 a1_3, .bool a1_4, .int .i64 a1_5, .int .i64 a1_6]] (by rfl) rfl rfl gl ?_
 with_reducible refine (laws_toState.calls k _ _ l1_0 _ _ l1_1 _ _ l1_2 a1_3 a1_4 a1_5 a1_6 t482 t485 t488 t491 t492 t493 t494 _ ?side1 ?side2 ?side3 ?side4 ?side5 ?side6 A18.out).mono ?_
 (case side1 => exact cc (Kd.C_below HR1_0.out HB.out))
 (case side2 => exact HC1_0.out)
 (case side3 => exact cc (Kd.C_below HR1_1.out HB.out))
 (case side4 => exact HC1_1.out)
 (case side5 => exact cc (Kd.C_below HR1_2.out HB.out))
 (case side6 => exact HC1_2.out)
 rintro e w26 ⟨v483, v486, v489, rfl, ho0, ho1, ho2, hb⟩
 refine ⟨_, rfl, ?_⟩
 have n0_ := am (Kd.S_below (kS HO481) hb)
 have n1_ := am (Kd.S_lower ho0 (below_size (bw HB)))
 have n2_ := am (Kd.S_lower ho1 (below_size (bw HB)))
 have n3_ := am (Kd.R_lower ho2 (below_size (bw HB)))
 have n4_ := bb BK475 hb
 have n5_ := bb BK476 hb
 have n6_ := am (below_step (bw HB) hb)
 clear HO481
 clear BK475
 clear BK476
 clear HB
 have HO481 := n0_
 have HO484 := n1_
 have HO487 := n2_
 have HO490 := n3_
 have BK475 := n4_
 have BK476 := n5_
 have HB := n6_
 clear n0_ n1_ n2_ n3_ n4_ n5_ n6_
 clear hb
 (try clear ho0)
 (try clear ho1)
 (try clear ho2)
 obtain ⟨Ao27, co27, eo27⟩ := Kd.S_slice HO481.out
 (first | subst eo27 | (injection eo27 with f1_ f2_ f3_; have f4_ := f1_.symm; have f5_ := f3_.symm; clear f1_ f2_ f3_; subst f4_; subst f5_))
 obtain ⟨Ao28, co28, eo28⟩ := Kd.S_slice HO484.out
 (first | subst eo28 | (injection eo28 with f1_ f2_ f3_; have f4_ := f1_.symm; have f5_ := f3_.symm; clear f1_ f2_ f3_; subst f4_; subst f5_))
 obtain ⟨Ao29, co29, eo29⟩ := Kd.S_slice HO487.out
 (first | subst eo29 | (injection eo29 with f1_ f2_ f3_; have f4_ := f1_.symm; have f5_ := f3_.symm; clear f1_ f2_ f3_; subst f4_; subst f5_))
 obtain ⟨Ao30, co30, eo30⟩ := Kd.R_slice HO490.out
 (first | subst eo30 | (injection eo30 with f1_ f2_ f3_; have f4_ := f1_.symm; have f5_ := f3_.symm; clear f1_ f2_ f3_; subst f4_; subst f5_))
 refine hK.out _ _ ⟨bc BK475 0, bc BK476 0, bc BK476 1, bc BK476 2, bc BK476 3, bc BK476 4, bc BK476 5, bc BK476 6⟩ (fun hHeld => ?_)
 clear hK K
 refine nm (some 23) ?_
 refine one_ (i := 4) (N := some 24) (bv 6 31) rfl rfl (by kernel_rfl) (by decide) (fun K hK => ?_)
 refine goes_ Try.func53 (by kernel_rfl) rfl #[.agg #[.slice Ao27 t479.length co27], .agg #[.slice Ao28 t482.length co28, .slice Ao29 t485.length co29, .slice Ao30 t488.length co30, .int .i64 t491, .bool t492, .int .i64 t493, .int .i64 t494]] (by rfl) rfl rfl gl ?_
 with_reducible refine (spec_StateRight.calls k _ _ t479 _ _ t482 _ _ t485 _ _ t488 t491 t492 t493 t494 t495 _ ?side1 ?side2 ?side3 ?side4 ?side5 ?side6 ?side7 ?side8 A19.out).mono ?_
 (case side1 => exact cc (Kd.S_reads' HO481.out).2.2)
 (case side2 => exact (Kd.S_reads' HO481.out).2.1)
 (case side3 => exact cc (Kd.S_reads' HO484.out).2.2)
 (case side4 => exact (Kd.S_reads' HO484.out).2.1)
 (case side5 => exact cc (Kd.S_reads' HO487.out).2.2)
 (case side6 => exact (Kd.S_reads' HO487.out).2.1)
 (case side7 => exact cc (Kd.R_reads' HO490.out).2.2)
 (case side8 => exact (Kd.R_reads' HO490.out).2.1)
 rintro e w31 ⟨rfl, hb⟩
 refine ⟨_, rfl, ?_⟩
 replace HO481 := am (Kd.S_below (kS HO481) hb)
 replace HO484 := am (Kd.S_below (kS HO484) hb)
 replace HO487 := am (Kd.S_below (kS HO487) hb)
 replace HO490 := am (Kd.R_below (kR HO490) hb)
 replace BK475 := bb BK475 hb
 replace BK476 := bb BK476 hb
 replace HB := am (below_step (bw HB) hb)
 clear hb
 refine hK.out _ _ ⟨bc BK475 0, bc BK476 0, bc BK476 1, bc BK476 2, bc BK476 3, bc BK476 4, bc BK476 5, bc BK476 6⟩ (fun hHeld => ?_)
 clear hK K
 refine nm (some 24) ?_
 refine pure_ (i := 5) (N := some 6) (v := ?_) (a' := ?_) (bv 6 63) rfl rfl (by kernel_rfl) (fun _ _ _ h => h) (Or.inl ⟨by rfl, ?_⟩) ?_ ?_
 rotate_left
 ·intro w'
  go_simp
  with_reducible rfl
 rotate_left
 ·simp only [Act.put, sa, sz, ss, i64_w, i32_w]
  rfl
 refine done_ (by kernel_rfl) ?_
 have hnb32 := NB475_476.out
 have hnc32 := NB476_475.out
 have hcz33 := bK w31 BK475
 have hfz33 := bF BK475
 go_upto_if 34 with (first | ((with_reducible refine gk 16 rfl ?_); refine gC 16 (some 26) Try.func16 #[.agg #[.slice A0_0 l0_0.length c0_0]] ((laws_toProgram.calls k _ _ l0_0 t496 _ (cc (Kd.C_below HR0_0.out HB.out)) HC0_0.out A20.out).mono ?_); rintro e w34 ⟨v497, rfl, ho0, hb⟩; refine ⟨_, rfl, ?_⟩; replace HO484 := am (Kd.S_below (kS HO484) hb); replace HO487 := am (Kd.S_below (kS HO487) hb); replace HO490 := am (Kd.R_below (kR HO490) hb); have HO498 := am (Kd.S_lower (Kd.S_new' ho0 (Kd.S_lt (kS HO481))) (below_size (bw HB))); replace HO481 := am (Kd.S_elder' (kS HO481) (Kd.S_base ho0) hb); replace BK475 := bb BK475 hb; replace BK476 := bb BK476 hb; replace HB := bs HB hb; clear hb; (try clear ho0)) | ((with_reducible refine gd 7 rfl ?_); refine bX 7 #[.slice none 0 0] 30 HB ?_; clear HB; intro gb499 w35 hg hb BK499 GW499 HB; replace HO481 := am (Kd.S_below (kS HO481) hb); replace HO484 := am (Kd.S_below (kS HO484) hb); replace HO487 := am (Kd.S_below (kS HO487) hb); replace HO490 := am (Kd.R_below (kR HO490) hb); replace HO498 := am (Kd.S_below (kS HO498) hb); obtain ⟨NB475_499, NB499_475, BK475⟩ := b3 hg BK475 hb; obtain ⟨NB476_499, NB499_476, BK476⟩ := b3 hg BK476 hb; clear hb hg; obtain ⟨Ao36, co36, eo36⟩ := Kd.S_slice HO498.out; subst eo36; have hnb37 := NB499_475.out; have hnc37 := NB475_499.out; have hnb38 := NB499_476.out; have hnc38 := NB476_499.out; have hcz39 := bK w35 BK499; have hfz39 := bF BK499; have hcz40_0 := bk w35 BK476 0; have hcz40_1 := bk w35 BK476 1; have hcz40_2 := bk w35 BK476 2; have hcz40_3 := bk w35 BK476 3; have hcz40_4 := bk w35 BK476 4; have hcz40_5 := bk w35 BK476 5; have hcz40_6 := bk w35 BK476 6; have hfz40_0 := bf BK476 0; have hfz40_1 := bf BK476 1; have hfz40_2 := bf BK476 2; have hfz40_3 := bf BK476 3; have hfz40_4 := bf BK476 4; have hfz40_5 := bf BK476 5; have hfz40_6 := bf BK476 6) | ((with_reducible refine gk 54 rfl ?_); refine gC 54 (some 28) Try.func54 #[.agg #[.slice A1_0 l1_0.length c1_0, .slice A1_1 l1_1.length c1_1, .slice A1_2 l1_2.length c1_2, .int .i64 a1_3, .bool a1_4, .int .i64 a1_5, .int .i64 a1_6]] ((laws_toState.calls k _ _ l1_0 _ _ l1_1 _ _ l1_2 a1_3 a1_4 a1_5 a1_6 t500 t503 t506 t509 t510 t511 t512 _ (Kd.C_below HR1_0.out (bw HB)) HC1_0.out (Kd.C_below HR1_1.out (bw HB)) HC1_1.out (Kd.C_below HR1_2.out (bw HB)) HC1_2.out A21.out).mono ?_); rintro e w41 ⟨v501, v504, v507, rfl, ho0, ho1, ho2, hb⟩; refine ⟨_, rfl, ?_⟩; replace HO481 := am (Kd.S_below (by (with_reducible repeat (first | apply Kd.S_alloc | apply Kd.S_drewN | apply Kd.S_drew)); exact (Kd.S_mono (Kd.S_far (p := ⟨gb499, 0, none⟩) (Kd.S_types HO481.out BK499.out (by decide)) (fun _ hk => hk.2) (.slice Ao36 t496.length co36)) (fun _ h_ => h_.1))) hb); replace HO498 := am (Kd.S_below (by (with_reducible repeat (first | apply Kd.S_alloc | apply Kd.S_drewN | apply Kd.S_drew)); exact (Kd.S_mono (Kd.S_far (p := ⟨gb499, 0, none⟩) (Kd.S_types HO498.out BK499.out (by decide)) (fun _ hk => hk.2) (.slice Ao36 t496.length co36)) (fun _ h_ => h_.1))) hb); have HO502 := am (Kd.S_lower (Kd.S_new' (Kd.S_new' ho0 (Kd.S_lt (by (with_reducible repeat (first | apply Kd.S_alloc | apply Kd.S_drewN | apply Kd.S_drew)); exact (Kd.S_mono (Kd.S_far (p := ⟨gb499, 0, none⟩) (Kd.S_types HO484.out BK499.out (by decide)) (fun _ hk => hk.2) (.slice Ao36 t496.length co36)) (fun _ h_ => h_.1))))) (Kd.R_lt (by (with_reducible repeat (first | apply Kd.R_alloc | apply Kd.R_drewN | apply Kd.R_drew)); exact (Kd.R_mono (Kd.R_far (p := ⟨gb499, 0, none⟩) (Kd.R_types HO490.out BK499.out (by decide)) (fun _ hk => hk.2) (.slice Ao36 t496.length co36)) (fun _ h_ => h_.1))))) (below_size (bw HB))); replace HO484 := am (Kd.S_mono (Kd.S_told (Kd.S_told (Kd.S_old (by (with_reducible repeat (first | apply Kd.S_alloc | apply Kd.S_drewN | apply Kd.S_drew)); exact (Kd.S_mono (Kd.S_far (p := ⟨gb499, 0, none⟩) (Kd.S_types HO484.out BK499.out (by decide)) (fun _ hk => hk.2) (.slice Ao36 t496.length co36)) (fun _ h_ => h_.1))) hb) (Kd.S_base ho0)) (Kd.R_base ho2)) (fun _ h_ => h_.1)); have HO505 := am (Kd.S_lower (Kd.S_new' (Kd.S_new' ho1 (Kd.S_lt (by (with_reducible repeat (first | apply Kd.S_alloc | apply Kd.S_drewN | apply Kd.S_drew)); exact (Kd.S_mono (Kd.S_far (p := ⟨gb499, 0, none⟩) (Kd.S_types HO487.out BK499.out (by decide)) (fun _ hk => hk.2) (.slice Ao36 t496.length co36)) (fun _ h_ => h_.1))))) (Kd.R_lt (by (with_reducible repeat (first | apply Kd.R_alloc | apply Kd.R_drewN | apply Kd.R_drew)); exact (Kd.R_mono (Kd.R_far (p := ⟨gb499, 0, none⟩) (Kd.R_types HO490.out BK499.out (by decide)) (fun _ hk => hk.2) (.slice Ao36 t496.length co36)) (fun _ h_ => h_.1))))) (below_size (bw HB))); replace HO487 := am (Kd.S_mono (Kd.S_told (Kd.S_told (Kd.S_old (by (with_reducible repeat (first | apply Kd.S_alloc | apply Kd.S_drewN | apply Kd.S_drew)); exact (Kd.S_mono (Kd.S_far (p := ⟨gb499, 0, none⟩) (Kd.S_types HO487.out BK499.out (by decide)) (fun _ hk => hk.2) (.slice Ao36 t496.length co36)) (fun _ h_ => h_.1))) hb) (Kd.S_base ho1)) (Kd.R_base ho2)) (fun _ h_ => h_.1)); have HO508 := am (Kd.R_lower (Kd.R_new' ho2 (Kd.R_lt (by (with_reducible repeat (first | apply Kd.R_alloc | apply Kd.R_drewN | apply Kd.R_drew)); exact (Kd.R_mono (Kd.R_far (p := ⟨gb499, 0, none⟩) (Kd.R_types HO490.out BK499.out (by decide)) (fun _ hk => hk.2) (.slice Ao36 t496.length co36)) (fun _ h_ => h_.1))))) (below_size (bw HB))); replace HO490 := am (Kd.R_elder' (by (with_reducible repeat (first | apply Kd.R_alloc | apply Kd.R_drewN | apply Kd.R_drew)); exact (Kd.R_mono (Kd.R_far (p := ⟨gb499, 0, none⟩) (Kd.R_types HO490.out BK499.out (by decide)) (fun _ hk => hk.2) (.slice Ao36 t496.length co36)) (fun _ h_ => h_.1))) (Kd.R_base ho2) hb); replace BK475 := bb2 BK475 hb; replace BK476 := bb2 BK476 hb; replace BK499 := bo #[.slice Ao36 t496.length co36] BK499 hb; replace HB := bs HB hb; clear hb; (try clear ho0); (try clear ho1); (try clear ho2)) | ((with_reducible refine gd 8 rfl ?_); refine bX 8 #[.slice none 0 0, .slice none 0 0, .slice none 0 0, .int .i64 0, .bool false, .int .i64 0, .int .i64 0] 52 HB ?_; clear HB; intro gb513 w42 hg hb BK513 GW513 HB; replace HO481 := am (Kd.S_below (kS HO481) hb); replace HO484 := am (Kd.S_below (kS HO484) hb); replace HO487 := am (Kd.S_below (kS HO487) hb); replace HO490 := am (Kd.R_below (kR HO490) hb); replace HO498 := am (Kd.S_below (kS HO498) hb); replace HO502 := am (Kd.S_below (kS HO502) hb); replace HO505 := am (Kd.S_below (kS HO505) hb); replace HO508 := am (Kd.R_below (kR HO508) hb); obtain ⟨NB475_513, NB513_475, BK475⟩ := b3 hg BK475 hb; obtain ⟨NB476_513, NB513_476, BK476⟩ := b3 hg BK476 hb; obtain ⟨NB499_513, NB513_499, BK499⟩ := b3 hg BK499 hb; clear hb hg; obtain ⟨Ao43, co43, eo43⟩ := Kd.S_slice HO502.out; subst eo43; have hnb44 := NB513_475.out; have hnc44 := NB475_513.out; have hnb45 := NB513_476.out; have hnc45 := NB476_513.out; have hnb46 := NB513_499.out; have hnc46 := NB499_513.out; have hcz47_0 := bk w42 BK513 0; have hcz47_1 := bk w42 BK513 1; have hcz47_2 := bk w42 BK513 2; have hcz47_3 := bk w42 BK513 3; have hcz47_4 := bk w42 BK513 4; have hcz47_5 := bk w42 BK513 5; have hcz47_6 := bk w42 BK513 6; have hfz47_0 := bf BK513 0; have hfz47_1 := bf BK513 1; have hfz47_2 := bf BK513 2; have hfz47_3 := bf BK513 3; have hfz47_4 := bf BK513 4; have hfz47_5 := bf BK513 5; have hfz47_6 := bf BK513 6; obtain ⟨Ao48, co48, eo48⟩ := Kd.S_slice HO505.out; subst eo48; obtain ⟨Ao49, co49, eo49⟩ := Kd.R_slice HO508.out; subst eo49; have hcz50 := bK w42 BK499; have hfz50 := bF BK499) | ((with_reducible refine gk 55 rfl ?_); refine gB 55 (some 31) Try.func55 #[.agg #[.slice Ao36 t496.length co36], .agg #[.slice Ao43 t500.length co43, .slice Ao48 t503.length co48, .slice Ao49 t506.length co49, .int .i64 t509, .bool t510, .int .i64 t511, .int .i64 t512]] (impl_StateRight.calls k _ _ t496 _ _ t500 _ _ t503 _ _ t506 t509 t510 t511 t512 t514 _ (by refine (Kd.S_reads' (e := 100) (base := w.heap.size) (ok := fun k_ => (True ∧ some k_ ≠ (.slice Ao27 t479.length co27 : Value).ownBlock)) (n := t496.length) (c := co36) ?_).2.2; exact (by (with_reducible repeat (first | apply Kd.S_alloc | apply Kd.S_drewN | apply Kd.S_drew)); exact (Kd.S_mono (Kd.S_far (p := ⟨gb513, 6, none⟩) (Kd.S_far (p := ⟨gb513, 5, none⟩) (Kd.S_far (p := ⟨gb513, 4, none⟩) (Kd.S_far (p := ⟨gb513, 3, none⟩) (Kd.S_far (p := ⟨gb513, 2, none⟩) (Kd.S_far (p := ⟨gb513, 1, none⟩) (Kd.S_far (p := ⟨gb513, 0, none⟩) (Kd.S_types HO498.out BK513.out (by decide)) (fun _ hk => hk.2) (.slice Ao43 t500.length co43)) (fun _ hk => hk.2) (.slice Ao48 t503.length co48)) (fun _ hk => hk.2) (.slice Ao49 t506.length co49)) (fun _ hk => hk.2) (.int .i64 t509)) (fun _ hk => hk.2) (.bool t510)) (fun _ hk => hk.2) (.int .i64 t511)) (fun _ hk => hk.2) (.int .i64 t512)) (fun _ h_ => h_.1)))) ((Kd.S_reads' HO498.out).2.1) (by refine (Kd.S_reads' (e := 129) (base := w.heap.size) (ok := fun k_ => ((some k_ ≠ (.slice Ao49 t506.length co49 : Value).ownBlock ∧ some k_ ≠ (.slice Ao28 t482.length co28 : Value).ownBlock) ∧ some k_ ≠ (.slice Ao30 t488.length co30 : Value).ownBlock)) (n := t500.length) (c := co43) ?_).2.2; exact (by (with_reducible repeat (first | apply Kd.S_alloc | apply Kd.S_drewN | apply Kd.S_drew)); exact (Kd.S_mono (Kd.S_far (p := ⟨gb513, 6, none⟩) (Kd.S_far (p := ⟨gb513, 5, none⟩) (Kd.S_far (p := ⟨gb513, 4, none⟩) (Kd.S_far (p := ⟨gb513, 3, none⟩) (Kd.S_far (p := ⟨gb513, 2, none⟩) (Kd.S_far (p := ⟨gb513, 1, none⟩) (Kd.S_far (p := ⟨gb513, 0, none⟩) (Kd.S_types HO502.out BK513.out (by decide)) (fun _ hk => hk.2) (.slice Ao43 t500.length co43)) (fun _ hk => hk.2) (.slice Ao48 t503.length co48)) (fun _ hk => hk.2) (.slice Ao49 t506.length co49)) (fun _ hk => hk.2) (.int .i64 t509)) (fun _ hk => hk.2) (.bool t510)) (fun _ hk => hk.2) (.int .i64 t511)) (fun _ hk => hk.2) (.int .i64 t512)) (fun _ h_ => h_.1)))) ((Kd.S_reads' HO502.out).2.1) (by refine (Kd.S_reads' (e := 26) (base := w.heap.size) (ok := fun k_ => ((some k_ ≠ (.slice Ao49 t506.length co49 : Value).ownBlock ∧ some k_ ≠ (.slice Ao29 t485.length co29 : Value).ownBlock) ∧ some k_ ≠ (.slice Ao30 t488.length co30 : Value).ownBlock)) (n := t503.length) (c := co48) ?_).2.2; exact (by (with_reducible repeat (first | apply Kd.S_alloc | apply Kd.S_drewN | apply Kd.S_drew)); exact (Kd.S_mono (Kd.S_far (p := ⟨gb513, 6, none⟩) (Kd.S_far (p := ⟨gb513, 5, none⟩) (Kd.S_far (p := ⟨gb513, 4, none⟩) (Kd.S_far (p := ⟨gb513, 3, none⟩) (Kd.S_far (p := ⟨gb513, 2, none⟩) (Kd.S_far (p := ⟨gb513, 1, none⟩) (Kd.S_far (p := ⟨gb513, 0, none⟩) (Kd.S_types HO505.out BK513.out (by decide)) (fun _ hk => hk.2) (.slice Ao43 t500.length co43)) (fun _ hk => hk.2) (.slice Ao48 t503.length co48)) (fun _ hk => hk.2) (.slice Ao49 t506.length co49)) (fun _ hk => hk.2) (.int .i64 t509)) (fun _ hk => hk.2) (.bool t510)) (fun _ hk => hk.2) (.int .i64 t511)) (fun _ hk => hk.2) (.int .i64 t512)) (fun _ h_ => h_.1)))) ((Kd.S_reads' HO505.out).2.1) (by refine (Kd.R_reads' (e := 2) (base := w.heap.size) (ok := fun k_ => (True ∧ some k_ ≠ (.slice Ao30 t488.length co30 : Value).ownBlock)) (n := t506.length) (c := co49) ?_).2.2; exact (by (with_reducible repeat (first | apply Kd.R_alloc | apply Kd.R_drewN | apply Kd.R_drew)); exact (Kd.R_mono (Kd.R_far (p := ⟨gb513, 6, none⟩) (Kd.R_far (p := ⟨gb513, 5, none⟩) (Kd.R_far (p := ⟨gb513, 4, none⟩) (Kd.R_far (p := ⟨gb513, 3, none⟩) (Kd.R_far (p := ⟨gb513, 2, none⟩) (Kd.R_far (p := ⟨gb513, 1, none⟩) (Kd.R_far (p := ⟨gb513, 0, none⟩) (Kd.R_types HO508.out BK513.out (by decide)) (fun _ hk => hk.2) (.slice Ao43 t500.length co43)) (fun _ hk => hk.2) (.slice Ao48 t503.length co48)) (fun _ hk => hk.2) (.slice Ao49 t506.length co49)) (fun _ hk => hk.2) (.int .i64 t509)) (fun _ hk => hk.2) (.bool t510)) (fun _ hk => hk.2) (.int .i64 t511)) (fun _ hk => hk.2) (.int .i64 t512)) (fun _ h_ => h_.1)))) ((Kd.R_reads' HO508.out).2.1) A22.out) ?_; intro w51 hb; replace HO481 := am (Kd.S_below (by (with_reducible repeat (first | apply Kd.S_alloc | apply Kd.S_drewN | apply Kd.S_drew)); exact (Kd.S_mono (Kd.S_far (p := ⟨gb513, 6, none⟩) (Kd.S_far (p := ⟨gb513, 5, none⟩) (Kd.S_far (p := ⟨gb513, 4, none⟩) (Kd.S_far (p := ⟨gb513, 3, none⟩) (Kd.S_far (p := ⟨gb513, 2, none⟩) (Kd.S_far (p := ⟨gb513, 1, none⟩) (Kd.S_far (p := ⟨gb513, 0, none⟩) (Kd.S_types HO481.out BK513.out (by decide)) (fun _ hk => hk.2) (.slice Ao43 t500.length co43)) (fun _ hk => hk.2) (.slice Ao48 t503.length co48)) (fun _ hk => hk.2) (.slice Ao49 t506.length co49)) (fun _ hk => hk.2) (.int .i64 t509)) (fun _ hk => hk.2) (.bool t510)) (fun _ hk => hk.2) (.int .i64 t511)) (fun _ hk => hk.2) (.int .i64 t512)) (fun _ h_ => h_.1))) hb); replace HO484 := am (Kd.S_below (by (with_reducible repeat (first | apply Kd.S_alloc | apply Kd.S_drewN | apply Kd.S_drew)); exact (Kd.S_mono (Kd.S_far (p := ⟨gb513, 6, none⟩) (Kd.S_far (p := ⟨gb513, 5, none⟩) (Kd.S_far (p := ⟨gb513, 4, none⟩) (Kd.S_far (p := ⟨gb513, 3, none⟩) (Kd.S_far (p := ⟨gb513, 2, none⟩) (Kd.S_far (p := ⟨gb513, 1, none⟩) (Kd.S_far (p := ⟨gb513, 0, none⟩) (Kd.S_types HO484.out BK513.out (by decide)) (fun _ hk => hk.2) (.slice Ao43 t500.length co43)) (fun _ hk => hk.2) (.slice Ao48 t503.length co48)) (fun _ hk => hk.2) (.slice Ao49 t506.length co49)) (fun _ hk => hk.2) (.int .i64 t509)) (fun _ hk => hk.2) (.bool t510)) (fun _ hk => hk.2) (.int .i64 t511)) (fun _ hk => hk.2) (.int .i64 t512)) (fun _ h_ => h_.1))) hb); replace HO487 := am (Kd.S_below (by (with_reducible repeat (first | apply Kd.S_alloc | apply Kd.S_drewN | apply Kd.S_drew)); exact (Kd.S_mono (Kd.S_far (p := ⟨gb513, 6, none⟩) (Kd.S_far (p := ⟨gb513, 5, none⟩) (Kd.S_far (p := ⟨gb513, 4, none⟩) (Kd.S_far (p := ⟨gb513, 3, none⟩) (Kd.S_far (p := ⟨gb513, 2, none⟩) (Kd.S_far (p := ⟨gb513, 1, none⟩) (Kd.S_far (p := ⟨gb513, 0, none⟩) (Kd.S_types HO487.out BK513.out (by decide)) (fun _ hk => hk.2) (.slice Ao43 t500.length co43)) (fun _ hk => hk.2) (.slice Ao48 t503.length co48)) (fun _ hk => hk.2) (.slice Ao49 t506.length co49)) (fun _ hk => hk.2) (.int .i64 t509)) (fun _ hk => hk.2) (.bool t510)) (fun _ hk => hk.2) (.int .i64 t511)) (fun _ hk => hk.2) (.int .i64 t512)) (fun _ h_ => h_.1))) hb); replace HO490 := am (Kd.R_below (by (with_reducible repeat (first | apply Kd.R_alloc | apply Kd.R_drewN | apply Kd.R_drew)); exact (Kd.R_mono (Kd.R_far (p := ⟨gb513, 6, none⟩) (Kd.R_far (p := ⟨gb513, 5, none⟩) (Kd.R_far (p := ⟨gb513, 4, none⟩) (Kd.R_far (p := ⟨gb513, 3, none⟩) (Kd.R_far (p := ⟨gb513, 2, none⟩) (Kd.R_far (p := ⟨gb513, 1, none⟩) (Kd.R_far (p := ⟨gb513, 0, none⟩) (Kd.R_types HO490.out BK513.out (by decide)) (fun _ hk => hk.2) (.slice Ao43 t500.length co43)) (fun _ hk => hk.2) (.slice Ao48 t503.length co48)) (fun _ hk => hk.2) (.slice Ao49 t506.length co49)) (fun _ hk => hk.2) (.int .i64 t509)) (fun _ hk => hk.2) (.bool t510)) (fun _ hk => hk.2) (.int .i64 t511)) (fun _ hk => hk.2) (.int .i64 t512)) (fun _ h_ => h_.1))) hb); replace HO498 := am (Kd.S_below (by (with_reducible repeat (first | apply Kd.S_alloc | apply Kd.S_drewN | apply Kd.S_drew)); exact (Kd.S_mono (Kd.S_far (p := ⟨gb513, 6, none⟩) (Kd.S_far (p := ⟨gb513, 5, none⟩) (Kd.S_far (p := ⟨gb513, 4, none⟩) (Kd.S_far (p := ⟨gb513, 3, none⟩) (Kd.S_far (p := ⟨gb513, 2, none⟩) (Kd.S_far (p := ⟨gb513, 1, none⟩) (Kd.S_far (p := ⟨gb513, 0, none⟩) (Kd.S_types HO498.out BK513.out (by decide)) (fun _ hk => hk.2) (.slice Ao43 t500.length co43)) (fun _ hk => hk.2) (.slice Ao48 t503.length co48)) (fun _ hk => hk.2) (.slice Ao49 t506.length co49)) (fun _ hk => hk.2) (.int .i64 t509)) (fun _ hk => hk.2) (.bool t510)) (fun _ hk => hk.2) (.int .i64 t511)) (fun _ hk => hk.2) (.int .i64 t512)) (fun _ h_ => h_.1))) hb); replace HO502 := am (Kd.S_below (by (with_reducible repeat (first | apply Kd.S_alloc | apply Kd.S_drewN | apply Kd.S_drew)); exact (Kd.S_mono (Kd.S_far (p := ⟨gb513, 6, none⟩) (Kd.S_far (p := ⟨gb513, 5, none⟩) (Kd.S_far (p := ⟨gb513, 4, none⟩) (Kd.S_far (p := ⟨gb513, 3, none⟩) (Kd.S_far (p := ⟨gb513, 2, none⟩) (Kd.S_far (p := ⟨gb513, 1, none⟩) (Kd.S_far (p := ⟨gb513, 0, none⟩) (Kd.S_types HO502.out BK513.out (by decide)) (fun _ hk => hk.2) (.slice Ao43 t500.length co43)) (fun _ hk => hk.2) (.slice Ao48 t503.length co48)) (fun _ hk => hk.2) (.slice Ao49 t506.length co49)) (fun _ hk => hk.2) (.int .i64 t509)) (fun _ hk => hk.2) (.bool t510)) (fun _ hk => hk.2) (.int .i64 t511)) (fun _ hk => hk.2) (.int .i64 t512)) (fun _ h_ => h_.1))) hb); replace HO505 := am (Kd.S_below (by (with_reducible repeat (first | apply Kd.S_alloc | apply Kd.S_drewN | apply Kd.S_drew)); exact (Kd.S_mono (Kd.S_far (p := ⟨gb513, 6, none⟩) (Kd.S_far (p := ⟨gb513, 5, none⟩) (Kd.S_far (p := ⟨gb513, 4, none⟩) (Kd.S_far (p := ⟨gb513, 3, none⟩) (Kd.S_far (p := ⟨gb513, 2, none⟩) (Kd.S_far (p := ⟨gb513, 1, none⟩) (Kd.S_far (p := ⟨gb513, 0, none⟩) (Kd.S_types HO505.out BK513.out (by decide)) (fun _ hk => hk.2) (.slice Ao43 t500.length co43)) (fun _ hk => hk.2) (.slice Ao48 t503.length co48)) (fun _ hk => hk.2) (.slice Ao49 t506.length co49)) (fun _ hk => hk.2) (.int .i64 t509)) (fun _ hk => hk.2) (.bool t510)) (fun _ hk => hk.2) (.int .i64 t511)) (fun _ hk => hk.2) (.int .i64 t512)) (fun _ h_ => h_.1))) hb); replace HO508 := am (Kd.R_below (by (with_reducible repeat (first | apply Kd.R_alloc | apply Kd.R_drewN | apply Kd.R_drew)); exact (Kd.R_mono (Kd.R_far (p := ⟨gb513, 6, none⟩) (Kd.R_far (p := ⟨gb513, 5, none⟩) (Kd.R_far (p := ⟨gb513, 4, none⟩) (Kd.R_far (p := ⟨gb513, 3, none⟩) (Kd.R_far (p := ⟨gb513, 2, none⟩) (Kd.R_far (p := ⟨gb513, 1, none⟩) (Kd.R_far (p := ⟨gb513, 0, none⟩) (Kd.R_types HO508.out BK513.out (by decide)) (fun _ hk => hk.2) (.slice Ao43 t500.length co43)) (fun _ hk => hk.2) (.slice Ao48 t503.length co48)) (fun _ hk => hk.2) (.slice Ao49 t506.length co49)) (fun _ hk => hk.2) (.int .i64 t509)) (fun _ hk => hk.2) (.bool t510)) (fun _ hk => hk.2) (.int .i64 t511)) (fun _ hk => hk.2) (.int .i64 t512)) (fun _ h_ => h_.1))) hb); replace BK475 := bb2 BK475 hb; replace BK476 := bb2 BK476 hb; replace BK499 := bb2 BK499 hb; replace BK513 := bo #[.slice Ao43 t500.length co43, .slice Ao48 t503.length co48, .slice Ao49 t506.length co49, .int .i64 t509, .bool t510, .int .i64 t511, .int .i64 t512] BK513 hb; replace HB := bs HB hb; clear hb))
 (try simp only [Act.put, sa, sz, ss])
 have H := HC23.out
 clear HC23
 by_cases c52 : (t514 != t495) = true
 ·rw [if_pos c52] at H
  have c52b0 : (t514 != t495) = true := c52
  (try (have c52b1 : decide (t514 = t495) = false := by simpa using c52))
  (try (have c52b2 : (t514 == t495) = false := by simpa using c52))
  (try (have c52b3 : ¬ (t514 = t495) := by simpa using c52))
  clear c52
  (first | rw [c52b0] | (simp only [i64_w, i32_w]; rw [c52b0]) | (simp only [c52b2, Bool.not_false, Bool.not_true]) | skip)
  obtain rfl := Option.some.inj H
  go_wp2
  go_ret
  exact ⟨er, bw HB⟩
 rw [if_neg c52] at H
 have c52b0 : (t514 != t495) = false := by simpa using c52
 (try (have c52b1 : decide (t514 = t495) = true := by simpa using c52))
 (try (have c52b2 : (t514 == t495) = true := by simpa using c52))
 clear c52
 (first | rw [c52b0] | (simp only [i64_w, i32_w]; rw [c52b0]) | (simp only [c52b2, Bool.not_false, Bool.not_true]) | skip)
 refine be H ?_; clear H; intro t515 A53 H
 refine be H ?_; clear H; intro t518 A54 H
 have HC55 := am H
 clear H
 try go_wp2
 replace HO481 := am (Kd.S_drew HO481.out)
 replace HO484 := am (Kd.S_drew HO484.out)
 replace HO487 := am (Kd.S_drew HO487.out)
 replace HO490 := am (Kd.R_drew HO490.out)
 replace HO498 := am (Kd.S_drew HO498.out)
 replace HO502 := am (Kd.S_drew HO502.out)
 replace HO505 := am (Kd.S_drew HO505.out)
 replace HO508 := am (Kd.R_drew HO508.out)
 replace BK475 := am (blk_drew BK475.out)
 replace BK476 := am (blk_drew BK476.out)
 replace BK499 := am (blk_drew BK499.out)
 replace BK513 := am (blk_drew BK513.out)
 replace HB := am (below_drew1 HB.out)
 refine start_ (n := 5) (S := fun w' => w'.cell? ⟨gb499, 0, none⟩ = some (.slice Ao36 t496.length co36) ∧ w'.cell? ⟨gb475, 0, none⟩ = some (.slice A0_0 l0_0.length c0_0)) (ds := []) (bv 5 0) (by kernel_rfl) rfl (by kernel_rfl) ⟨bc BK499 0, bc BK475 0⟩ (fun hHeld => ?_)
 generalize w51.drew = w56 at HO481 HO484 HO487 HO490 HO498 HO502 HO505 HO508 BK475 BK476 BK499 BK513 HB hHeld ⊢
 refine take_ (i := 0) (N := some 35) (v := ?_) (a' := ?_) (bv 5 1) rfl rfl (by kernel_rfl) (fun _ _ _ h => h) (Or.inl ⟨by rfl, ?_⟩) hHeld ?_ ?_
 rotate_left
 ·rintro w' ⟨s0, s1⟩
  go_simp
  with_reducible rfl
 rotate_left
 ·simp only [Act.put, sa, sz, ss, i64_w, i32_w]
  rfl
 refine take_ (i := 1) (N := some 36) (v := ?_) (a' := ?_) (bv 5 3) rfl rfl (by kernel_rfl) (fun _ _ _ h => h) (Or.inl ⟨by rfl, ?_⟩) hHeld ?_ ?_
 rotate_left
 ·rintro w' ⟨s0, s1⟩
  go_simp
  with_reducible rfl
 rotate_left
 ·simp only [Act.put, sa, sz, ss, i64_w, i32_w]
  rfl
 refine one_ (i := 2) (N := some 37) (bv 5 7) rfl rfl (by kernel_rfl) (by decide) (fun K hK => ?_)
 refine goes_ Try.func16 (by kernel_rfl) rfl #[.agg #[.slice A0_0 l0_0.length c0_0]] (by rfl) rfl rfl gl ?_
 with_reducible refine (laws_toProgram.calls k _ _ l0_0 t515 _ ?side1 ?side2 A53.out).mono ?_
 (case side1 => exact cc (Kd.C_below HR0_0.out HB.out))
 (case side2 => exact HC0_0.out)
 rintro e w57 ⟨v516, rfl, ho0, hb⟩
 refine ⟨_, rfl, ?_⟩
 have n0_ := am (Kd.S_elder' (kS HO481) (Kd.S_base ho0) hb)
 have n1_ := am (Kd.S_below (kS HO484) hb)
 have n2_ := am (Kd.S_below (kS HO487) hb)
 have n3_ := am (Kd.R_below (kR HO490) hb)
 have n4_ := am (Kd.S_elder' (kS HO498) (Kd.S_base ho0) hb)
 have n5_ := am (Kd.S_below (kS HO502) hb)
 have n6_ := am (Kd.S_below (kS HO505) hb)
 have n7_ := am (Kd.R_below (kR HO508) hb)
 have n8_ := am (Kd.S_lower (Kd.S_new' (Kd.S_new' ho0 (Kd.S_lt (kS HO481))) (Kd.S_lt (kS HO498))) (below_size (bw HB)))
 have n9_ := bb BK475 hb
 have n10_ := bb BK476 hb
 have n11_ := bb BK499 hb
 have n12_ := bb BK513 hb
 have n13_ := am (below_step (bw HB) hb)
 clear HO481
 clear HO484
 clear HO487
 clear HO490
 clear HO498
 clear HO502
 clear HO505
 clear HO508
 clear BK475
 clear BK476
 clear BK499
 clear BK513
 clear HB
 have HO481 := n0_
 have HO484 := n1_
 have HO487 := n2_
 have HO490 := n3_
 have HO498 := n4_
 have HO502 := n5_
 have HO505 := n6_
 have HO508 := n7_
 have HO517 := n8_
 have BK475 := n9_
 have BK476 := n10_
 have BK499 := n11_
 have BK513 := n12_
 have HB := n13_
 clear n0_ n1_ n2_ n3_ n4_ n5_ n6_ n7_ n8_ n9_ n10_ n11_ n12_ n13_
 clear hb
 (try clear ho0)
 obtain ⟨Ao58, co58, eo58⟩ := Kd.S_slice HO517.out
 (first | subst eo58 | (injection eo58 with f1_ f2_ f3_; have f4_ := f1_.symm; have f5_ := f3_.symm; clear f1_ f2_ f3_; subst f4_; subst f5_))
 refine hK.out _ _ ⟨bc BK499 0, bc BK475 0⟩ (fun hHeld => ?_)
 clear hK K
 refine nm (some 37) ?_
 refine one_ (i := 3) (N := some 38) (bv 5 15) rfl rfl (by kernel_rfl) (by decide) (fun K hK => ?_)
 refine goes_ Try.func19 (by kernel_rfl) rfl #[.agg #[.slice Ao36 t496.length co36], .agg #[.slice Ao58 t515.length co58]] (by rfl) rfl rfl gl ?_
 with_reducible refine (laws_eqProgram.calls k _ _ t496 _ _ t515 t518 _ ?side1 ?side2 ?side3 ?side4 A54.out).mono ?_
 (case side1 => exact cc (Kd.S_reads' HO498.out).2.2)
 (case side2 => exact (Kd.S_reads' HO498.out).2.1)
 (case side3 => exact cc (Kd.S_reads' HO517.out).2.2)
 (case side4 => exact (Kd.S_reads' HO517.out).2.1)
 rintro e w59 ⟨rfl, hb⟩
 refine ⟨_, rfl, ?_⟩
 replace HO481 := am (Kd.S_below (kS HO481) hb)
 replace HO484 := am (Kd.S_below (kS HO484) hb)
 replace HO487 := am (Kd.S_below (kS HO487) hb)
 replace HO490 := am (Kd.R_below (kR HO490) hb)
 replace HO498 := am (Kd.S_below (kS HO498) hb)
 replace HO502 := am (Kd.S_below (kS HO502) hb)
 replace HO505 := am (Kd.S_below (kS HO505) hb)
 replace HO508 := am (Kd.R_below (kR HO508) hb)
 replace HO517 := am (Kd.S_below (kS HO517) hb)
 replace BK475 := bb BK475 hb
 replace BK476 := bb BK476 hb
 replace BK499 := bb BK499 hb
 replace BK513 := bb BK513 hb
 replace HB := am (below_step (bw HB) hb)
 clear hb
 refine hK.out _ _ ⟨bc BK499 0, bc BK475 0⟩ (fun hHeld => ?_)
 clear hK K
 refine nm (some 38) ?_
 refine pure_ (i := 4) (N := some 39) (v := ?_) (a' := ?_) (bv 5 31) rfl rfl (by kernel_rfl) (fun _ _ _ h => h) (Or.inl ⟨by rfl, ?_⟩) ?_ ?_
 rotate_left
 ·intro w'
  go_simp
  with_reducible rfl
 rotate_left
 ·simp only [Act.put, sa, sz, ss, i64_w, i32_w]
  rfl
 refine done_ (by kernel_rfl) ?_
 go_upto_if 39 with (fail)
 (try simp only [Act.put, sa, sz, ss])
 have H := HC55.out
 clear HC55
 refine qT H ?_ ?_ <;> clear H <;> intro c60 H <;> subst c60
 ·replace H := Option.bind_eq_some_iff.mp H
  obtain ⟨⟨t519, t522, t525, t528, t529, t530, t531⟩, A610, H⟩ := H
  replace H : ((laws_eqState.f k t500 t503 t506 t509 t510 t511 t512 t519 t522 t525 t528 t529 t530 t531).bind fun t532 => (if t532 = true then (some true) else (some false))) = some r := H
  have A61 := am A610
  clear A610
  refine be H ?_; clear H; intro t532 A62 H
  have HC63 := am H
  clear H
  try go_wp2
  replace HO481 := am (Kd.S_drew HO481.out)
  replace HO484 := am (Kd.S_drew HO484.out)
  replace HO487 := am (Kd.S_drew HO487.out)
  replace HO490 := am (Kd.R_drew HO490.out)
  replace HO498 := am (Kd.S_drew HO498.out)
  replace HO502 := am (Kd.S_drew HO502.out)
  replace HO505 := am (Kd.S_drew HO505.out)
  replace HO508 := am (Kd.R_drew HO508.out)
  replace HO517 := am (Kd.S_drew HO517.out)
  replace BK475 := am (blk_drew BK475.out)
  replace BK476 := am (blk_drew BK476.out)
  replace BK499 := am (blk_drew BK499.out)
  replace BK513 := am (blk_drew BK513.out)
  replace HB := am (below_drew1 HB.out)
  refine start_ (n := 5) (S := fun w' => w'.cell? ⟨gb513, 0, none⟩ = some (.slice Ao43 t500.length co43) ∧ w'.cell? ⟨gb513, 1, none⟩ = some (.slice Ao48 t503.length co48) ∧ w'.cell? ⟨gb513, 2, none⟩ = some (.slice Ao49 t506.length co49) ∧ w'.cell? ⟨gb513, 3, none⟩ = some (.int .i64 t509) ∧ w'.cell? ⟨gb513, 4, none⟩ = some (.bool t510) ∧ w'.cell? ⟨gb513, 5, none⟩ = some (.int .i64 t511) ∧ w'.cell? ⟨gb513, 6, none⟩ = some (.int .i64 t512) ∧ w'.cell? ⟨gb476, 0, none⟩ = some (.slice A1_0 l1_0.length c1_0) ∧ w'.cell? ⟨gb476, 1, none⟩ = some (.slice A1_1 l1_1.length c1_1) ∧ w'.cell? ⟨gb476, 2, none⟩ = some (.slice A1_2 l1_2.length c1_2) ∧ w'.cell? ⟨gb476, 3, none⟩ = some (.int .i64 a1_3) ∧ w'.cell? ⟨gb476, 4, none⟩ = some (.bool a1_4) ∧ w'.cell? ⟨gb476, 5, none⟩ = some (.int .i64 a1_5) ∧ w'.cell? ⟨gb476, 6, none⟩ = some (.int .i64 a1_6)) (ds := []) (bv 5 0) (by kernel_rfl) rfl (by kernel_rfl) ⟨bc BK513 0, bc BK513 1, bc BK513 2, bc BK513 3, bc BK513 4, bc BK513 5, bc BK513 6, bc BK476 0, bc BK476 1, bc BK476 2, bc BK476 3, bc BK476 4, bc BK476 5, bc BK476 6⟩ (fun hHeld => ?_)
  generalize w59.drew = w64 at HO481 HO484 HO487 HO490 HO498 HO502 HO505 HO508 HO517 BK475 BK476 BK499 BK513 HB hHeld ⊢
  refine take_ (i := 0) (N := some 40) (v := ?_) (a' := ?_) (bv 5 1) rfl rfl (by kernel_rfl) (fun _ _ _ h => h) (Or.inl ⟨by rfl, ?_⟩) hHeld ?_ ?_
  rotate_left
  ·rintro w' ⟨s0, s1, s2, s3, s4, s5, s6, s7, s8, s9, s10, s11, s12, s13⟩
   go_simp
   with_reducible rfl
  rotate_left
  ·simp only [Act.put, sa, sz, ss, i64_w, i32_w]
   rfl
  refine take_ (i := 1) (N := some 41) (v := ?_) (a' := ?_) (bv 5 3) rfl rfl (by kernel_rfl) (fun _ _ _ h => h) (Or.inl ⟨by rfl, ?_⟩) hHeld ?_ ?_
  rotate_left
  ·rintro w' ⟨s0, s1, s2, s3, s4, s5, s6, s7, s8, s9, s10, s11, s12, s13⟩
   go_simp
   with_reducible rfl
  rotate_left
  ·simp only [Act.put, sa, sz, ss, i64_w, i32_w]
   rfl
  refine one_ (i := 2) (N := some 42) (bv 5 7) rfl rfl (by kernel_rfl) (by decide) (fun K hK => ?_)
  refine goes_ Try.func54 (by kernel_rfl) rfl #[.agg #[.slice A1_0 l1_0.length c1_0, .slice A1_1 l1_1.length c1_1, .slice A1_2 l1_2.length c1_2, .int .i64 a1_3, .bool a1_4, .int .i64 a1_5, .int .i64 a1_6]] (by rfl) rfl rfl gl ?_
  with_reducible refine (laws_toState.calls k _ _ l1_0 _ _ l1_1 _ _ l1_2 a1_3 a1_4 a1_5 a1_6 t519 t522 t525 t528 t529 t530 t531 _ ?side1 ?side2 ?side3 ?side4 ?side5 ?side6 A61.out).mono ?_
  (case side1 => exact cc (Kd.C_below HR1_0.out HB.out))
  (case side2 => exact HC1_0.out)
  (case side3 => exact cc (Kd.C_below HR1_1.out HB.out))
  (case side4 => exact HC1_1.out)
  (case side5 => exact cc (Kd.C_below HR1_2.out HB.out))
  (case side6 => exact HC1_2.out)
  rintro e w65 ⟨v520, v523, v526, rfl, ho0, ho1, ho2, hb⟩
  refine ⟨_, rfl, ?_⟩
  have n0_ := am (Kd.S_below (kS HO481) hb)
  have n1_ := am (Kd.S_mono (Kd.S_told (Kd.S_told (Kd.S_old (kS HO484) hb) (Kd.S_base ho0)) (Kd.R_base ho2)) (fun _ h_ => h_.1))
  have n2_ := am (Kd.S_mono (Kd.S_told (Kd.S_told (Kd.S_old (kS HO487) hb) (Kd.S_base ho1)) (Kd.R_base ho2)) (fun _ h_ => h_.1))
  have n3_ := am (Kd.R_elder' (kR HO490) (Kd.R_base ho2) hb)
  have n4_ := am (Kd.S_below (kS HO498) hb)
  have n5_ := am (Kd.S_mono (Kd.S_told (Kd.S_told (Kd.S_old (kS HO502) hb) (Kd.S_base ho0)) (Kd.R_base ho2)) (fun _ h_ => h_.1))
  have n6_ := am (Kd.S_mono (Kd.S_told (Kd.S_told (Kd.S_old (kS HO505) hb) (Kd.S_base ho1)) (Kd.R_base ho2)) (fun _ h_ => h_.1))
  have n7_ := am (Kd.R_elder' (kR HO508) (Kd.R_base ho2) hb)
  have n8_ := am (Kd.S_below (kS HO517) hb)
  have n9_ := am (Kd.S_lower (Kd.S_new' (Kd.S_new' (Kd.S_new' (Kd.S_new' ho0 (Kd.S_lt (kS HO484))) (Kd.R_lt (kR HO490))) (Kd.S_lt (kS HO502))) (Kd.R_lt (kR HO508))) (below_size (bw HB)))
  have n10_ := am (Kd.S_lower (Kd.S_new' (Kd.S_new' (Kd.S_new' (Kd.S_new' ho1 (Kd.S_lt (kS HO487))) (Kd.R_lt (kR HO490))) (Kd.S_lt (kS HO505))) (Kd.R_lt (kR HO508))) (below_size (bw HB)))
  have n11_ := am (Kd.R_lower (Kd.R_new' (Kd.R_new' ho2 (Kd.R_lt (kR HO490))) (Kd.R_lt (kR HO508))) (below_size (bw HB)))
  have n12_ := bb BK475 hb
  have n13_ := bb BK476 hb
  have n14_ := bb BK499 hb
  have n15_ := bb BK513 hb
  have n16_ := am (below_step (bw HB) hb)
  clear HO481
  clear HO484
  clear HO487
  clear HO490
  clear HO498
  clear HO502
  clear HO505
  clear HO508
  clear HO517
  clear BK475
  clear BK476
  clear BK499
  clear BK513
  clear HB
  have HO481 := n0_
  have HO484 := n1_
  have HO487 := n2_
  have HO490 := n3_
  have HO498 := n4_
  have HO502 := n5_
  have HO505 := n6_
  have HO508 := n7_
  have HO517 := n8_
  have HO521 := n9_
  have HO524 := n10_
  have HO527 := n11_
  have BK475 := n12_
  have BK476 := n13_
  have BK499 := n14_
  have BK513 := n15_
  have HB := n16_
  clear n0_ n1_ n2_ n3_ n4_ n5_ n6_ n7_ n8_ n9_ n10_ n11_ n12_ n13_ n14_ n15_ n16_
  clear hb
  (try clear ho0)
  (try clear ho1)
  (try clear ho2)
  obtain ⟨Ao66, co66, eo66⟩ := Kd.S_slice HO521.out
  (first | subst eo66 | (injection eo66 with f1_ f2_ f3_; have f4_ := f1_.symm; have f5_ := f3_.symm; clear f1_ f2_ f3_; subst f4_; subst f5_))
  obtain ⟨Ao67, co67, eo67⟩ := Kd.S_slice HO524.out
  (first | subst eo67 | (injection eo67 with f1_ f2_ f3_; have f4_ := f1_.symm; have f5_ := f3_.symm; clear f1_ f2_ f3_; subst f4_; subst f5_))
  obtain ⟨Ao68, co68, eo68⟩ := Kd.R_slice HO527.out
  (first | subst eo68 | (injection eo68 with f1_ f2_ f3_; have f4_ := f1_.symm; have f5_ := f3_.symm; clear f1_ f2_ f3_; subst f4_; subst f5_))
  refine hK.out _ _ ⟨bc BK513 0, bc BK513 1, bc BK513 2, bc BK513 3, bc BK513 4, bc BK513 5, bc BK513 6, bc BK476 0, bc BK476 1, bc BK476 2, bc BK476 3, bc BK476 4, bc BK476 5, bc BK476 6⟩ (fun hHeld => ?_)
  clear hK K
  refine nm (some 42) ?_
  refine one_ (i := 3) (N := some 43) (bv 5 15) rfl rfl (by kernel_rfl) (by decide) (fun K hK => ?_)
  refine goes_ Try.func41 (by kernel_rfl) rfl #[.agg #[.slice Ao43 t500.length co43, .slice Ao48 t503.length co48, .slice Ao49 t506.length co49, .int .i64 t509, .bool t510, .int .i64 t511, .int .i64 t512], .agg #[.slice Ao66 t519.length co66, .slice Ao67 t522.length co67, .slice Ao68 t525.length co68, .int .i64 t528, .bool t529, .int .i64 t530, .int .i64 t531]] (by rfl) rfl rfl gl ?_
  with_reducible refine (laws_eqState.calls k _ _ t500 _ _ t503 _ _ t506 t509 t510 t511 t512 _ _ t519 _ _ t522 _ _ t525 t528 t529 t530 t531 t532 _ ?side1 ?side2 ?side3 ?side4 ?side5 ?side6 ?side7 ?side8 ?side9 ?side10 ?side11 ?side12 A62.out).mono ?_
  (case side1 => exact cc (Kd.S_reads' HO502.out).2.2)
  (case side2 => exact (Kd.S_reads' HO502.out).2.1)
  (case side3 => exact cc (Kd.S_reads' HO505.out).2.2)
  (case side4 => exact (Kd.S_reads' HO505.out).2.1)
  (case side5 => exact cc (Kd.R_reads' HO508.out).2.2)
  (case side6 => exact (Kd.R_reads' HO508.out).2.1)
  (case side7 => exact cc (Kd.S_reads' HO521.out).2.2)
  (case side8 => exact (Kd.S_reads' HO521.out).2.1)
  (case side9 => exact cc (Kd.S_reads' HO524.out).2.2)
  (case side10 => exact (Kd.S_reads' HO524.out).2.1)
  (case side11 => exact cc (Kd.R_reads' HO527.out).2.2)
  (case side12 => exact (Kd.R_reads' HO527.out).2.1)
  rintro e w69 ⟨rfl, hb⟩
  refine ⟨_, rfl, ?_⟩
  replace HO481 := am (Kd.S_below (kS HO481) hb)
  replace HO484 := am (Kd.S_below (kS HO484) hb)
  replace HO487 := am (Kd.S_below (kS HO487) hb)
  replace HO490 := am (Kd.R_below (kR HO490) hb)
  replace HO498 := am (Kd.S_below (kS HO498) hb)
  replace HO502 := am (Kd.S_below (kS HO502) hb)
  replace HO505 := am (Kd.S_below (kS HO505) hb)
  replace HO508 := am (Kd.R_below (kR HO508) hb)
  replace HO517 := am (Kd.S_below (kS HO517) hb)
  replace HO521 := am (Kd.S_below (kS HO521) hb)
  replace HO524 := am (Kd.S_below (kS HO524) hb)
  replace HO527 := am (Kd.R_below (kR HO527) hb)
  replace BK475 := bb BK475 hb
  replace BK476 := bb BK476 hb
  replace BK499 := bb BK499 hb
  replace BK513 := bb BK513 hb
  replace HB := am (below_step (bw HB) hb)
  clear hb
  refine hK.out _ _ ⟨bc BK513 0, bc BK513 1, bc BK513 2, bc BK513 3, bc BK513 4, bc BK513 5, bc BK513 6, bc BK476 0, bc BK476 1, bc BK476 2, bc BK476 3, bc BK476 4, bc BK476 5, bc BK476 6⟩ (fun hHeld => ?_)
  clear hK K
  refine nm (some 43) ?_
  refine pure_ (i := 4) (N := some 44) (v := ?_) (a' := ?_) (bv 5 31) rfl rfl (by kernel_rfl) (fun _ _ _ h => h) (Or.inl ⟨by rfl, ?_⟩) ?_ ?_
  rotate_left
  ·intro w'
   go_simp
   with_reducible rfl
  rotate_left
  ·simp only [Act.put, sa, sz, ss, i64_w, i32_w]
   rfl
  refine done_ (by kernel_rfl) ?_
  go_upto_if 44 with (fail)
  (try simp only [Act.put, sa, sz, ss])
  have H := HC63.out
  clear HC63
  refine qT H ?_ ?_ <;> clear H <;> intro c70 H <;> subst c70
  ·obtain rfl := Option.some.inj H
   go_wp2
   go_ret
   exact ⟨er, bw HB⟩
  obtain rfl := Option.some.inj H
  go_wp2
  go_ret
  exact ⟨er, bw HB⟩
 obtain rfl := Option.some.inj H
 go_wp2
 go_ret
 exact ⟨er, bw HB⟩

end Go.Proofs.Ytbmjmaahcaoajaa.QFnExactStateRight
