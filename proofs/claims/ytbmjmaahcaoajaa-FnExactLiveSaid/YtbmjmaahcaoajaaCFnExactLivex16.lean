import Derived.Test.YtbmjmaahcaoajaaCFnExactLivex0
import Derived.Test.YtbmjmaahcaoajaaCFnExactLivex1
import Derived.Test.YtbmjmaahcaoajaaCFnExactLivex2
import Derived.Test.YtbmjmaahcaoajaaCFnExactLivex3
import Derived.Test.YtbmjmaahcaoajaaCFnExactLivex10
import Derived.Test.YtbmjmaahcaoajaaCFnExactLivex15
namespace Go.Proofs.Ytbmjmaahcaoajaa.QFnExactLive
open Go.RowKit Go.Proofs.YtbmjmaahcaoajaaW
open PrintWords PrintLast PrintMore PrintShort PrintIsh
attribute [local go_sem] max2_int min2_int max_two min_two max_three min_three max_four min_four   -- for this text's walks alone
set_option linter.unusedVariables false
set_option maxHeartbeats 8000000
set_option maxRecDepth 100000
set_option linter.unusedSimpArgs false

def laws_FnExactLive.j0 : Nat → Int → List Int → List Int → Bool → List (S165) → Option (Bool)
 | 0, _, _, _, _, _ => none
 | k + 1, x1, x6, x8, x46, x471000 => if x46 = true then (some false) else ((laws_markInt64S.f k x8 1).bind fun bt492 => ((laws_heldInt64S.f k bt492.2 1).bind fun t494 => (if t494 < 0 then (some false) else (if t494 = bt492.1 then ((laws_toProgram.f k x471000).bind fun t495 => ((impl_Live.f k t495 x1).bind fun t498 => ((laws_eqInt64S.f k t498 x6).bind fun t501 => (if t501 = true then ((laws_heldInt64S.f k bt492.2 1).bind fun t502 => (if t502 < 0 then (some false) else (if t502 = bt492.1 then (some true) else (some false)))) else (some false))))) else (some false)))))
def laws_FnExactLive.f (k : Nat) (l0_0 : List (S165)) (a1 : Int) : Option (Bool) := (laws_szProgram.f k l0_0 1048576).bind fun t471 => (if t471 < 0 then (some true) else ((laws_toProgram.f k l0_0).bind fun t472 => ((spec_Live.f k t472 a1).bind fun t475 => ((laws_toProgram.f k l0_0).bind fun t478 => ((impl_Live.f k t478 a1).bind fun t482 => ((laws_eqInt64S.f k t482 t475).bind fun t485 => (if t485 = true then ((laws_toProgram.f k l0_0).bind fun t486 => ((laws_eqProgram.f k t478 t486).bind fun t489 => (if t489 = true then ((laws_markProgram.f t478 1).bind fun t490 => (if t490 < 0 then (laws_FnExactLive.j0 k a1 t475 t482 true l0_0) else ((laws_eqInt64S.f k t482 t475).bind fun t491 => (laws_FnExactLive.j0 k a1 t475 t482 (!t491) l0_0)))) else (some false)))) else (some false))))))))
theorem laws_FnExactLive.mono_l : ∀ k, (∀ y0 y1 y2 y3 y4, LeO (laws_FnExactLive.j0 k y0 y1 y2 y3 y4) (laws_FnExactLive.j0 (k + 1) y0 y1 y2 y3 y4))
 | 0 => fun _ _ _ _ _ r h => by simp [laws_FnExactLive.j0] at h
 | k + 1 => by
  have ih0 := laws_FnExactLive.mono_l k
  ·intro y0 y1 y2 y3 y4
   unfold laws_FnExactLive.j0
   with_reducible repeat' first | exact ih0 .. | exact impl_Live.mono .. | exact laws_eqInt64S.mono .. | exact laws_eqProgram.mono .. | exact laws_heldInt64S.mono .. | exact laws_markInt64S.mono .. | exact laws_szProgram.mono .. | exact laws_toProgram.mono .. | exact spec_Live.mono .. | exact LeO.refl _ | exact LeO.none _ | refine LeO.ite ?_ ?_ | refine LeO.bind ?_ (fun _ => ?_)
theorem laws_FnExactLive.mono : ∀ a0 a1 k, LeO (laws_FnExactLive.f k a0 a1) (laws_FnExactLive.f (k + 1) a0 a1) := by
 intro a0 a1 k
 have ih0 := laws_FnExactLive.mono_l k
 unfold laws_FnExactLive.f
 with_reducible repeat' first | exact ih0 .. | exact impl_Live.mono .. | exact laws_eqInt64S.mono .. | exact laws_eqProgram.mono .. | exact laws_heldInt64S.mono .. | exact laws_markInt64S.mono .. | exact laws_szProgram.mono .. | exact laws_toProgram.mono .. | exact spec_Live.mono .. | exact LeO.refl _ | exact LeO.none _ | refine LeO.ite ?_ ?_ | refine LeO.bind ?_ (fun _ => ?_)
theorem laws_FnExactLive.calls (k : Nat) (A0_0 : Option Addr) (c0_0 : Nat) (l0_0 : List (S165)) (a1 : Int) (r : Bool) (w : World) (hr0_0 : Kd.C k165 w A0_0 l0_0.length l0_0) (hc0_0 : l0_0.length ≤ c0_0) (h : laws_FnExactLive.f k l0_0 a1 = some r) :
  Calls Try.prog 9 #[.agg #[.slice A0_0 l0_0.length c0_0], .int .i64 a1] w fun e w' => e = .returned (.bool r) ∧ Below w.heap.size w w' := by
 have hu24 := Try.underlying24
 have hu30 := Try.underlying30
 have HR0_0 := am hr0_0
 have HC0_0 := am hc0_0
 clear hr0_0 hc0_0
 have HB := am (Below.refl w.heap.size w)
 have H : ((laws_szProgram.f k l0_0 1048576).bind fun t471 => (if t471 < 0 then (some true) else ((laws_toProgram.f k l0_0).bind fun t472 => ((spec_Live.f k t472 a1).bind fun t475 => ((laws_toProgram.f k l0_0).bind fun t478 => ((impl_Live.f k t478 a1).bind fun t482 => ((laws_eqInt64S.f k t482 t475).bind fun t485 => (if t485 = true then ((laws_toProgram.f k l0_0).bind fun t486 => ((laws_eqProgram.f k t478 t486).bind fun t489 => (if t489 = true then ((laws_markProgram.f t478 1).bind fun t490 => (if t490 < 0 then (laws_FnExactLive.j0 k a1 t475 t482 true l0_0) else ((laws_eqInt64S.f k t482 t475).bind fun t491 => (laws_FnExactLive.j0 k a1 t475 t482 (!t491) l0_0)))) else (some false)))) else (some false))))))))) = some r := h
 clear h
 refine be H ?_; clear H; intro t471 A3 H
 have HC4 := am H
 clear H
 go_enter Try.func9, Try.ntmps9
 go_upto_if 17 with (first | ((with_reducible refine gd 2 rfl ?_); refine bX 2 #[.slice A0_0 l0_0.length c0_0] 24 HB ?_; clear HB; intro gb470 w5 hg hb BK470 GW470 HB; clear hb hg; have hcz6 := bK w5 BK470; have hfz6 := bF BK470) | ((with_reducible refine gk 14 rfl ?_); refine gB 14 (some 15) Try.func14 #[.agg #[.slice A0_0 l0_0.length c0_0], .int .i64 1048576] (laws_szProgram.calls k _ _ l0_0 1048576 t471 _ (cc (Kd.C_below HR0_0.out HB.out)) HC0_0.out A3.out) ?_; intro w7 hb; replace BK470 := bb BK470 hb; replace HB := bs HB hb; clear hb))
 (try simp only [Act.put, sa, sz, ss])
 have H := HC4.out
 clear HC4
 by_cases c8 : t471 < 0
 ·rw [if_pos c8] at H
  have c8b0 := decide_eq_true c8
  clear c8
  (first | rw [c8b0] | (simp only [i64_w, i32_w]; rw [c8b0]) | skip)
  obtain rfl := Option.some.inj H
  go_wp2
  go_ret
  exact ⟨er, bw HB⟩
 rw [if_neg c8] at H
 have c8b0 := decide_eq_false c8
 clear c8
 (first | rw [c8b0] | (simp only [i64_w, i32_w]; rw [c8b0]) | skip)
 refine be H ?_; clear H; intro t472 A9 H
 refine be H ?_; clear H; intro t475 A10 H
 refine be H ?_; clear H; intro t478 A11 H
 refine be H ?_; clear H; intro t482 A12 H
 refine be H ?_; clear H; intro t485 A13 H
 have HC14 := am H
 clear H
 have hcz15 := bK w7 BK470
 have hfz15 := bF BK470
 go_upto_if 30 with (first | ((with_reducible refine gk 16 rfl ?_); refine gC 16 (some 19) Try.func16 #[.agg #[.slice A0_0 l0_0.length c0_0]] ((laws_toProgram.calls k _ _ l0_0 t472 _ (cc (Kd.C_below HR0_0.out HB.out)) HC0_0.out A9.out).mono ?_); rintro e w16 ⟨v473, rfl, ho0, hb⟩; refine ⟨_, rfl, ?_⟩; have HO474 := am (Kd.S_lower ho0 (below_size (bw HB))); replace BK470 := bb BK470 hb; replace HB := bs HB hb; clear hb; (try clear ho0); obtain ⟨Ao17, co17, eo17⟩ := Kd.S_slice HO474.out; subst eo17) | ((with_reducible refine gk 36 rfl ?_); refine gC 36 (some 21) Try.func36 #[.agg #[.slice Ao17 t472.length co17], .int .i64 a1] ((spec_Live.calls k _ _ t472 a1 t475 _ (cc (Kd.S_reads' HO474.out).2.2) ((Kd.S_reads' HO474.out).2.1) A10.out).mono ?_); rintro e w18 ⟨v476, rfl, ho0, hb⟩; refine ⟨_, rfl, ?_⟩; replace HO474 := am (Kd.S_below (kS HO474) hb); have HO477 := am (Kd.R_lower ho0 (below_size (bw HB))); replace BK470 := bb BK470 hb; replace HB := bs HB hb; clear hb; (try clear ho0); have hcz19 := bK w18 BK470; have hfz19 := bF BK470) | ((with_reducible refine gk 16 rfl ?_); refine gC 16 (some 23) Try.func16 #[.agg #[.slice A0_0 l0_0.length c0_0]] ((laws_toProgram.calls k _ _ l0_0 t478 _ (cc (Kd.C_below HR0_0.out HB.out)) HC0_0.out A11.out).mono ?_); rintro e w20 ⟨v479, rfl, ho0, hb⟩; refine ⟨_, rfl, ?_⟩; replace HO477 := am (Kd.R_below (kR HO477) hb); have HO480 := am (Kd.S_lower (Kd.S_new' ho0 (Kd.S_lt (kS HO474))) (below_size (bw HB))); replace HO474 := am (Kd.S_elder' (kS HO474) (Kd.S_base ho0) hb); replace BK470 := bb BK470 hb; replace HB := bs HB hb; clear hb; (try clear ho0)) | ((with_reducible refine gd 7 rfl ?_); refine bX 7 #[.slice none 0 0] 30 HB ?_; clear HB; intro gb481 w21 hg hb BK481 GW481 HB; replace HO474 := am (Kd.S_below (kS HO474) hb); replace HO477 := am (Kd.R_below (kR HO477) hb); replace HO480 := am (Kd.S_below (kS HO480) hb); obtain ⟨NB470_481, NB481_470, BK470⟩ := b3 hg BK470 hb; clear hb hg; obtain ⟨Ao22, co22, eo22⟩ := Kd.S_slice HO480.out; subst eo22; have hnb23 := NB481_470.out; have hnc23 := NB470_481.out; have hcz24 := bK w21 BK481; have hfz24 := bF BK481) | ((with_reducible refine gk 37 rfl ?_); refine gC 37 (some 26) Try.func37 #[.agg #[.slice Ao22 t478.length co22], .int .i64 a1] ((impl_Live.calls k _ _ t478 a1 t482 _ (by refine (Kd.S_reads' (e := 100) (base := w.heap.size) (ok := fun k_ => (True ∧ some k_ ≠ (.slice Ao17 t472.length co17 : Value).ownBlock)) (n := t478.length) (c := co22) ?_).2.2; exact (by (with_reducible repeat (first | apply Kd.S_alloc | apply Kd.S_drewN | apply Kd.S_drew)); exact (Kd.S_mono (Kd.S_far (p := ⟨gb481, 0, none⟩) (Kd.S_types HO480.out BK481.out (by decide)) (fun _ hk => hk.2) (.slice Ao22 t478.length co22)) (fun _ h_ => h_.1)))) ((Kd.S_reads' HO480.out).2.1) A12.out).mono ?_); rintro e w25 ⟨v483, rfl, ho0, hb⟩; refine ⟨_, rfl, ?_⟩; replace HO474 := am (Kd.S_below (by (with_reducible repeat (first | apply Kd.S_alloc | apply Kd.S_drewN | apply Kd.S_drew)); exact (Kd.S_mono (Kd.S_far (p := ⟨gb481, 0, none⟩) (Kd.S_types HO474.out BK481.out (by decide)) (fun _ hk => hk.2) (.slice Ao22 t478.length co22)) (fun _ h_ => h_.1))) hb); replace HO480 := am (Kd.S_below (by (with_reducible repeat (first | apply Kd.S_alloc | apply Kd.S_drewN | apply Kd.S_drew)); exact (Kd.S_mono (Kd.S_far (p := ⟨gb481, 0, none⟩) (Kd.S_types HO480.out BK481.out (by decide)) (fun _ hk => hk.2) (.slice Ao22 t478.length co22)) (fun _ h_ => h_.1))) hb); have HO484 := am (Kd.R_lower (Kd.R_new' ho0 (Kd.R_lt (by (with_reducible repeat (first | apply Kd.R_alloc | apply Kd.R_drewN | apply Kd.R_drew)); exact (Kd.R_mono (Kd.R_far (p := ⟨gb481, 0, none⟩) (Kd.R_types HO477.out BK481.out (by decide)) (fun _ hk => hk.2) (.slice Ao22 t478.length co22)) (fun _ h_ => h_.1))))) (below_size (bw HB))); replace HO477 := am (Kd.R_elder' (by (with_reducible repeat (first | apply Kd.R_alloc | apply Kd.R_drewN | apply Kd.R_drew)); exact (Kd.R_mono (Kd.R_far (p := ⟨gb481, 0, none⟩) (Kd.R_types HO477.out BK481.out (by decide)) (fun _ hk => hk.2) (.slice Ao22 t478.length co22)) (fun _ h_ => h_.1))) (Kd.R_base ho0) hb); replace BK470 := bb2 BK470 hb; replace BK481 := bo #[.slice Ao22 t478.length co22] BK481 hb; replace HB := bs HB hb; clear hb; (try clear ho0); obtain ⟨Ao26, co26, eo26⟩ := Kd.R_slice HO484.out; subst eo26; obtain ⟨Ao27, co27, eo27⟩ := Kd.R_slice HO477.out; subst eo27) | ((with_reducible refine gk 18 rfl ?_); refine gD 18 (some 29) Try.func18 #[.slice Ao26 t482.length co26, .slice Ao27 t475.length co27] (laws_eqInt64S.calls k _ _ t482 _ _ t475 t485 _ (cc (Kd.R_reads' HO484.out).2.2) ((Kd.R_reads' HO484.out).2.1) (cc (Kd.R_reads' HO477.out).2.2) ((Kd.R_reads' HO477.out).2.1) A13.out) ?_; intro nd))
 (try simp only [Act.put, sa, sz, ss])
 (try simp only [World.drewN_drewN])
 generalize hq_ : World.drewN w25 _ = w28
 replace HO474 : Aside0 (Kd.S k100 100 w28 w.heap.size (fun k_ => some k_ ≠ (.slice Ao22 t478.length co22 : Value).ownBlock) (.slice Ao17 t472.length co17) t472) := ⟨by rw [← hq_]; exact (by (with_reducible repeat (first | apply Kd.S_alloc | apply Kd.S_drewN | apply Kd.S_drew)); exact Kd.S_mono HO474.out (fun _ hk => hk.2))⟩
 replace HO477 : Aside0 (Kd.R (Kd.int .i64) 2 w28 w.heap.size (fun k_ => some k_ ≠ (.slice Ao26 t482.length co26 : Value).ownBlock) (.slice Ao27 t475.length co27) t475) := ⟨by rw [← hq_]; exact (by (with_reducible repeat (first | apply Kd.R_alloc | apply Kd.R_drewN | apply Kd.R_drew)); exact Kd.R_mono HO477.out (fun _ hk => hk.2))⟩
 replace HO480 : Aside0 (Kd.S k100 100 w28 w.heap.size (fun k_ => some k_ ≠ (.slice Ao17 t472.length co17 : Value).ownBlock) (.slice Ao22 t478.length co22) t478) := ⟨by rw [← hq_]; exact (by (with_reducible repeat (first | apply Kd.S_alloc | apply Kd.S_drewN | apply Kd.S_drew)); exact Kd.S_mono HO480.out (fun _ hk => hk.2))⟩
 replace HO484 : Aside0 (Kd.R (Kd.int .i64) 2 w28 w.heap.size (fun k_ => some k_ ≠ (.slice Ao27 t475.length co27 : Value).ownBlock) (.slice Ao26 t482.length co26) t482) := ⟨by rw [← hq_]; exact (by (with_reducible repeat (first | apply Kd.R_alloc | apply Kd.R_drewN | apply Kd.R_drew)); exact Kd.R_mono HO484.out (fun _ hk => hk.2))⟩
 replace BK470 : Aside0 (w28.heap[gb470]? = some (.cells #[.slice A0_0 l0_0.length c0_0] 24 (0, 0))) := ⟨by rw [← hq_]; exact (bp BK470)⟩
 replace BK481 : Aside0 (w28.heap[gb481]? = some (.cells #[.slice Ao22 t478.length co22] 30 (0, 0))) := ⟨by rw [← hq_]; exact (bp BK481)⟩
 replace HB : Aside0 (Below w.heap.size w w28) := ⟨by rw [← hq_]; exact (bw HB)⟩
 clear hq_
 have H := HC14.out
 clear HC14
 refine qT H ?_ ?_ <;> clear H <;> intro c29 H <;> subst c29
 ·refine be H ?_; clear H; intro t486 A30 H
  refine be H ?_; clear H; intro t489 A31 H
  have HC32 := am H
  clear H
  try go_wp2
  replace HO474 := am (Kd.S_drew HO474.out)
  replace HO477 := am (Kd.R_drew HO477.out)
  replace HO480 := am (Kd.S_drew HO480.out)
  replace HO484 := am (Kd.R_drew HO484.out)
  replace BK470 := am (blk_drew BK470.out)
  replace BK481 := am (blk_drew BK481.out)
  replace HB := am (below_drew1 HB.out)
  refine start_ (n := 5) (S := fun w' => w'.cell? ⟨gb481, 0, none⟩ = some (.slice Ao22 t478.length co22) ∧ w'.cell? ⟨gb470, 0, none⟩ = some (.slice A0_0 l0_0.length c0_0)) (ds := []) (bv 5 0) (by kernel_rfl) rfl (by kernel_rfl) ⟨bc BK481 0, bc BK470 0⟩ (fun hHeld => ?_)
  generalize w28.drew = w33 at HO474 HO477 HO480 HO484 BK470 BK481 HB hHeld ⊢
  refine take_ (i := 0) (N := some 31) (v := ?_) (a' := ?_) (bv 5 1) rfl rfl (by kernel_rfl) (fun _ _ _ h => h) (Or.inl ⟨by rfl, ?_⟩) hHeld ?_ ?_
  rotate_left
  ·rintro w' ⟨s0, s1⟩
   go_simp
   with_reducible rfl
  rotate_left
  ·simp only [Act.put, sa, sz, ss, i64_w, i32_w]
   rfl
  refine take_ (i := 1) (N := some 32) (v := ?_) (a' := ?_) (bv 5 3) rfl rfl (by kernel_rfl) (fun _ _ _ h => h) (Or.inl ⟨by rfl, ?_⟩) hHeld ?_ ?_
  rotate_left
  ·rintro w' ⟨s0, s1⟩
   go_simp
   with_reducible rfl
  rotate_left
  ·simp only [Act.put, sa, sz, ss, i64_w, i32_w]
   rfl
  refine one_ (i := 2) (N := some 33) (bv 5 7) rfl rfl (by kernel_rfl) (by decide) (fun K hK => ?_)
  refine goes_ Try.func16 (by kernel_rfl) rfl #[.agg #[.slice A0_0 l0_0.length c0_0]] (by rfl) rfl rfl gl ?_
  with_reducible refine (laws_toProgram.calls k _ _ l0_0 t486 _ ?side1 ?side2 A30.out).mono ?_
  (case side1 => exact cc (Kd.C_below HR0_0.out HB.out))
  (case side2 => exact HC0_0.out)
  rintro e w34 ⟨v487, rfl, ho0, hb⟩
  refine ⟨_, rfl, ?_⟩
  have n0_ := am (Kd.S_elder' (kS HO474) (Kd.S_base ho0) hb)
  have n1_ := am (Kd.R_below (kR HO477) hb)
  have n2_ := am (Kd.S_elder' (kS HO480) (Kd.S_base ho0) hb)
  have n3_ := am (Kd.R_below (kR HO484) hb)
  have n4_ := am (Kd.S_lower (Kd.S_new' (Kd.S_new' ho0 (Kd.S_lt (kS HO474))) (Kd.S_lt (kS HO480))) (below_size (bw HB)))
  have n5_ := bb BK470 hb
  have n6_ := bb BK481 hb
  have n7_ := am (below_step (bw HB) hb)
  clear HO474
  clear HO477
  clear HO480
  clear HO484
  clear BK470
  clear BK481
  clear HB
  have HO474 := n0_
  have HO477 := n1_
  have HO480 := n2_
  have HO484 := n3_
  have HO488 := n4_
  have BK470 := n5_
  have BK481 := n6_
  have HB := n7_
  clear n0_ n1_ n2_ n3_ n4_ n5_ n6_ n7_
  clear hb
  (try clear ho0)
  obtain ⟨Ao35, co35, eo35⟩ := Kd.S_slice HO488.out
  (first | subst eo35 | (injection eo35 with f1_ f2_ f3_; have f4_ := f1_.symm; have f5_ := f3_.symm; clear f1_ f2_ f3_; subst f4_; subst f5_))
  refine hK.out _ _ ⟨bc BK481 0, bc BK470 0⟩ (fun hHeld => ?_)
  clear hK K
  refine nm (some 33) ?_
  refine one_ (i := 3) (N := some 34) (bv 5 15) rfl rfl (by kernel_rfl) (by decide) (fun K hK => ?_)
  refine goes_ Try.func19 (by kernel_rfl) rfl #[.agg #[.slice Ao22 t478.length co22], .agg #[.slice Ao35 t486.length co35]] (by rfl) rfl rfl gl ?_
  with_reducible refine (laws_eqProgram.calls k _ _ t478 _ _ t486 t489 _ ?side1 ?side2 ?side3 ?side4 A31.out).mono ?_
  (case side1 => exact cc (Kd.S_reads' HO480.out).2.2)
  (case side2 => exact (Kd.S_reads' HO480.out).2.1)
  (case side3 => exact cc (Kd.S_reads' HO488.out).2.2)
  (case side4 => exact (Kd.S_reads' HO488.out).2.1)
  rintro e w36 ⟨rfl, hb⟩
  refine ⟨_, rfl, ?_⟩
  replace HO474 := am (Kd.S_below (kS HO474) hb)
  replace HO477 := am (Kd.R_below (kR HO477) hb)
  replace HO480 := am (Kd.S_below (kS HO480) hb)
  replace HO484 := am (Kd.R_below (kR HO484) hb)
  replace HO488 := am (Kd.S_below (kS HO488) hb)
  replace BK470 := bb BK470 hb
  replace BK481 := bb BK481 hb
  replace HB := am (below_step (bw HB) hb)
  clear hb
  refine hK.out _ _ ⟨bc BK481 0, bc BK470 0⟩ (fun hHeld => ?_)
  clear hK K
  refine nm (some 34) ?_
  refine pure_ (i := 4) (N := some 35) (v := ?_) (a' := ?_) (bv 5 31) rfl rfl (by kernel_rfl) (fun _ _ _ h => h) (Or.inl ⟨by rfl, ?_⟩) ?_ ?_
  rotate_left
  ·intro w'
   go_simp
   with_reducible rfl
  rotate_left
  ·simp only [Act.put, sa, sz, ss, i64_w, i32_w]
   rfl
  refine done_ (by kernel_rfl) ?_
  go_upto_if 35 with (fail)
  (try simp only [Act.put, sa, sz, ss])
  have H := HC32.out
  clear HC32
  refine qT H ?_ ?_ <;> clear H <;> intro c37 H <;> subst c37
  ·refine be H ?_; clear H; intro t490 A38 H
   have HC39 := am H
   clear H
   have hnb40 := NB481_470.out
   have hnc40 := NB470_481.out
   have hcz41 := bK w36 BK481
   have hfz41 := bF BK481
   go_upto_region 14 with (first | ((with_reducible refine gk 20 rfl ?_); refine gC 20 (some 38) Try.func20 #[.agg #[.slice Ao22 t478.length co22], .int .i64 1] ((laws_markProgram.calls (fun k_ => w.heap.size ≤ k_ ∧ tyIn w36 (100 :: Kd.E k100) k_) (.slice Ao22 t478.length co22) t478 1 t490 w _ (by repeat (first | (with_reducible first | exact HB.out | apply below_alloc | apply pw_below_drewN | apply below_drew1 | refine below_set ?_ GW470.out | refine below_set ?_ GW481.out) | exact HB.out)) (R_typedIn (Kd.S_R HO480.out)) A38.out).mono ?_); rintro e w42 ⟨rfl, hb, hkp⟩; refine ⟨_, rfl, ?_⟩; replace BK470 := am (blk_kept (bp BK470) hkp (fun hs_ => (fun e_ => tyIn_blk e_.2 (bp BK470) (by decide)) hs_)); replace HO477 := am (Kd.R_mono (ok' := fun k_ => some k_ ≠ (.slice Ao26 t482.length co26 : Value).ownBlock) (Kd.R_keptB ((Kd.R_mono (Kd.R_bound HO477.out) (fun k_ h_ => (⟨h_.1, fun e_ => tyIn_no e_ h_.2.2.2 (by decide)⟩ : _ ∧ ¬ tyIn _ (100 :: Kd.E k100) k_)))) hkp (fun k_ hk_ hs_ => (fun e_ => (hk_.2) e_.2) hs_)) (fun k_ hk_ => (by have h1_ := hk_.1.1; first | exact hk_.1.1 | exact h1_ | exact h1_.2 | exact h1_.1 | exact h1_.1.2 | exact h1_.2.2 | exact h1_.2.1 | exact h1_.1.1 | exact h1_.1.1.2 | exact h1_.1.2.1 | exact h1_.1.1.1))); replace BK481 := am (blk_kept (bp BK481) hkp (fun hs_ => (fun e_ => tyIn_blk e_.2 (bp BK481) (by decide)) hs_)); replace HO484 := am (Kd.R_mono (ok' := fun k_ => some k_ ≠ (.slice Ao27 t475.length co27 : Value).ownBlock) (Kd.R_keptB ((Kd.R_mono (Kd.R_bound HO484.out) (fun k_ h_ => (⟨h_.1, fun e_ => tyIn_no e_ h_.2.2.2 (by decide)⟩ : _ ∧ ¬ tyIn _ (100 :: Kd.E k100) k_)))) hkp (fun k_ hk_ hs_ => (fun e_ => (hk_.2) e_.2) hs_)) (fun k_ hk_ => (by have h1_ := hk_.1.1; first | exact hk_.1.1 | exact h1_ | exact h1_.2 | exact h1_.1 | exact h1_.1.2 | exact h1_.2.2 | exact h1_.2.1 | exact h1_.1.1 | exact h1_.1.1.2 | exact h1_.1.2.1 | exact h1_.1.1.1))); replace HB := am (hb); clear HO474; clear HO488; clear HO480; (try clear hb); (try clear hkp)))
   (try simp only [Act.put, sa, sz, ss])
   go_cut [46] (fun v46 wc => ∃ (kq : Nat) (x46_38 : Bool), v46 = .bool x46_38 ∧ Aside0 (laws_FnExactLive.j0 kq a1 t475 t482 x46_38 l0_0 = some r) ∧ Aside0 (kq ≤ k) ∧ Aside0 (Kd.R (Kd.int .i64) 2 wc w.heap.size (fun k_ => some k_ ≠ ((.slice Ao26 t482.length co26) : Value).ownBlock) (.slice Ao27 t475.length co27) t475) ∧ Aside0 (Kd.R (Kd.int .i64) 2 wc w.heap.size (fun k_ => some k_ ≠ ((.slice Ao27 t475.length co27) : Value).ownBlock) (.slice Ao26 t482.length co26) t482) ∧ Aside0 (wc.heap[gb470]? = some (.cells #[(.slice A0_0 l0_0.length c0_0)] 24 (0, 0))) ∧ Aside0 (Below w.heap.size w wc))
   case first =>
    have H := HC39.out
    clear HC39
    refine qI H ?_ ?_ <;> clear H <;> intro c43b0 H
    ·(first | rw [c43b0] | (simp only [i64_w, i32_w]; rw [c43b0]) | skip)
     have H' := am H
     clear H
     go_wp2
     go_meet
     case rel => exact ⟨_, (true), dr, H', ⟨lk0⟩, ⟨kR HO477⟩, ⟨kR HO484⟩, ⟨bp BK470⟩, ⟨bw HB⟩⟩
    (first | rw [c43b0] | (simp only [i64_w, i32_w]; rw [c43b0]) | skip)
    refine be H ?_; clear H; intro t491 A44 H
    have H' := am H
    clear H
    go_wp2_with (first | (go_at_call 18; refine (laws_eqInt64S.calls k _ _ t482 _ _ t475 t491 _ (cc (Kd.R_reads' HO484.out).2.2) ((Kd.R_reads' HO484.out).2.1) (cc (Kd.R_reads' HO477.out).2.2) ((Kd.R_reads' HO477.out).2.1) A44.out).mono ?_; rintro e w' ⟨rfl, ⟨nd, rfl⟩⟩))
    go_meet
    case rel => exact ⟨_, (!t491), dr, H', ⟨lk0⟩, ⟨kR HO477⟩, ⟨kR HO484⟩, ⟨bp BK470⟩, ⟨bw HB⟩⟩
   clear HC39
   (try clear c1); (try clear c2); (try clear p2); (try clear c3); (try clear c4); (try clear c8); (try clear c8b0); (try clear c9); (try clear c14); (try clear c16); (try clear c18); (try clear c19); (try clear c20); (try clear c23); (try clear c29); (try clear c36); (try clear c37); (try clear c40); (try clear c43); (try clear c43b0); (try clear hcz15); (try clear hcz19); (try clear hcz24); (try clear hcz41); (try clear hcz6); (try clear hfz15); (try clear hfz19); (try clear hfz24); (try clear hfz41); (try clear hfz6)
   obtain ⟨kq, x46_38, rfl, HA, HJ38, HO_6, HO_8, BK470, HB⟩ := hcut
   rcases kq with _ | kj38
   ·exact absurd HA.out (by simp [laws_FnExactLive.j0])
   have H := HA.out
   clear HA
   simp only [laws_FnExactLive.j0] at H
   refine qT H ?_ ?_ <;> clear H <;> intro c45 H <;> subst c45
   ·obtain rfl := Option.some.inj H
    go_wp2
    go_ret
    exact ⟨er, bw HB⟩
   replace H := Option.bind_eq_some_iff.mp H
   obtain ⟨⟨t492, t493⟩, A460, H⟩ := H
   replace H : ((laws_heldInt64S.f kj38 t493 1).bind fun t494 => (if t494 < 0 then (some false) else (if t494 = t492 then ((laws_toProgram.f kj38 l0_0).bind fun t495 => ((impl_Live.f kj38 t495 a1).bind fun t498 => ((laws_eqInt64S.f kj38 t498 t475).bind fun t501 => (if t501 = true then ((laws_heldInt64S.f kj38 t493 1).bind fun t502 => (if t502 < 0 then (some false) else (if t502 = t492 then (some true) else (some false)))) else (some false))))) else (some false)))) = some r := H
   have A46 := am A460
   clear A460
   refine be H ?_; clear H; intro t494 A47 H
   have HC48 := am H
   clear H
   go_upto_if 54 with (first | ((with_reducible refine gk 21 rfl ?_); refine gC 21 (some 49) Try.func21 #[.slice Ao26 t482.length co26, .int .i64 1] ((laws_markInt64S.calls kj38 (fun k_ => some k_ = (.slice Ao26 t482.length co26 : Value).ownBlock) (.slice Ao26 t482.length co26) t482 1 t492 t493 w _ (by repeat (first | (with_reducible first | exact HB.out | apply below_alloc | apply pw_below_drewN | apply below_drew1 | refine below_set ?_ GW470.out) | exact HB.out)) (Kd.R_tight rfl HO_8.out) A46.out).mono ?_); rintro e w49 ⟨rfl, hy0, hb, hkp⟩; refine ⟨_, rfl, ?_⟩; replace HO_6 := am (Kd.R_mono (ok' := fun k_ => some k_ ≠ (.slice Ao26 t482.length co26 : Value).ownBlock) (Kd.R_keptB (HO_6.out) hkp (fun k_ hk_ hs_ => (hk_) hs_)) (fun k_ hk_ => hk_.1)); replace BK470 := am (blk_kept (bp BK470) hkp (fun hs_ => (fun e_ => (Kd.R_ne HO_8.out BK470.out (by decide)) e_) hs_)); replace HO_8 := am (Kd.R_reok rfl hy0 (fun k_ e_ => HO_8.out.1 k_ e_)); replace HB := am (hb); (try clear hb); (try clear hkp); (try clear hy0)) | ((with_reducible refine gate_callee (f := 22) rfl ?_); refine goesL_ (some 52) rfl rfl Try.func22 (by kernel_rfl) rfl #[.slice Ao26 t493.length co26, .int .i64 1] rfl (by (try simp only [List.map_toArray, List.map_cons, List.map_nil]); first | done | (rw [show t493.length = t482.length from (Kd.R_reads' HO_8.out).1.symm] <;> rfl) | rfl | (simp only [List.length_drop, List.length_take]; rfl)) ?_; refine (laws_heldInt64S.calls kj38 _ _ t493 1 t494 _ (cc (Kd.R_reads' HO_8.out).2.2) (by rw [show t493.length = t482.length from (Kd.R_reads' HO_8.out).1.symm]; exact (Kd.R_reads' HO_8.out).2.1) A47.out).mono ?_; rintro e w' ⟨rfl, ⟨nd, rfl⟩⟩; refine ⟨_, rfl, ?_⟩))
   (try simp only [Act.put, sa, sz, ss])
   (try simp only [World.drewN_drewN])
   generalize hq_ : World.drewN w49 _ = w50
   replace HO_6 : Aside0 (Kd.R (Kd.int .i64) 2 w50 w.heap.size (fun k_ => some k_ ≠ (.slice Ao26 t482.length co26 : Value).ownBlock) (.slice Ao27 t475.length co27) t475) := ⟨by rw [← hq_]; exact (kR HO_6)⟩
   replace HO_8 : Aside0 (Kd.R (Kd.int .i64) 2 w50 w.heap.size (fun k_ => some k_ ≠ (.slice Ao27 t475.length co27 : Value).ownBlock) (.slice Ao26 t482.length co26) t493) := ⟨by rw [← hq_]; exact (kR HO_8)⟩
   replace BK470 : Aside0 (w50.heap[gb470]? = some (.cells #[.slice A0_0 l0_0.length c0_0] 24 (0, 0))) := ⟨by rw [← hq_]; exact (bp BK470)⟩
   replace HB : Aside0 (Below w.heap.size w w50) := ⟨by rw [← hq_]; exact (bw HB)⟩
   clear hq_
   have H := HC48.out
   clear HC48
   refine qI H ?_ ?_ <;> clear H <;> intro c51b0 H
   ·(first | rw [c51b0] | (simp only [i64_w, i32_w]; rw [c51b0]) | skip)
    obtain rfl := Option.some.inj H
    go_wp2
    go_ret
    exact ⟨er, bw HB⟩
   (first | rw [c51b0] | (simp only [i64_w, i32_w]; rw [c51b0]) | skip)
   refine qE H ?_ ?_ <;> clear H
   ·intro c52b0 c52b1 H
    refine be H ?_; clear H; intro t495 A53 H
    refine be H ?_; clear H; intro t498 A54 H
    refine be H ?_; clear H; intro t501 A55 H
    have HC56 := am H
    clear H
    have hcz57 := bK w50 BK470
    have hfz57 := bF BK470
    go_upto_if 65 with (first | ((with_reducible refine gk 16 rfl ?_); refine gC 16 (some 59) Try.func16 #[.agg #[.slice A0_0 l0_0.length c0_0]] ((laws_toProgram.calls kj38 _ _ l0_0 t495 _ (cc (Kd.C_below HR0_0.out HB.out)) HC0_0.out A53.out).mono ?_); rintro e w58 ⟨v496, rfl, ho0, hb⟩; refine ⟨_, rfl, ?_⟩; replace HO_6 := am (Kd.R_below (kR HO_6) hb); replace HO_8 := am (Kd.R_below (kR HO_8) hb); have HO497 := am (Kd.S_lower ho0 (below_size (bw HB))); replace BK470 := bb BK470 hb; replace HB := bs HB hb; clear hb; (try clear ho0); obtain ⟨Ao59, co59, eo59⟩ := Kd.S_slice HO497.out; subst eo59) | ((with_reducible refine gk 37 rfl ?_); refine gC 37 (some 61) Try.func37 #[.agg #[.slice Ao59 t495.length co59], .int .i64 a1] ((impl_Live.calls kj38 _ _ t495 a1 t498 _ (cc (Kd.S_reads' HO497.out).2.2) ((Kd.S_reads' HO497.out).2.1) A54.out).mono ?_); rintro e w60 ⟨v499, rfl, ho0, hb⟩; refine ⟨_, rfl, ?_⟩; replace HO497 := am (Kd.S_below (kS HO497) hb); have HO500 := am (Kd.R_lower (Kd.R_new' (Kd.R_new' ho0 (Kd.R_lt (kR HO_6))) (Kd.R_lt (kR HO_8))) (below_size (bw HB))); replace HO_6 := am (Kd.R_elder' (kR HO_6) (Kd.R_base ho0) hb); replace HO_8 := am (Kd.R_elder' (kR HO_8) (Kd.R_base ho0) hb); replace BK470 := bb BK470 hb; replace HB := bs HB hb; clear hb; (try clear ho0); obtain ⟨Ao61, co61, eo61⟩ := Kd.R_slice HO500.out; subst eo61) | ((with_reducible refine gk 18 rfl ?_); refine gD 18 (some 64) Try.func18 #[.slice Ao61 t498.length co61, .slice Ao27 t475.length co27] (laws_eqInt64S.calls kj38 _ _ t498 _ _ t475 t501 _ (cc (Kd.R_reads' HO500.out).2.2) ((Kd.R_reads' HO500.out).2.1) (cc (Kd.R_reads' HO_6.out).2.2) ((Kd.R_reads' HO_6.out).2.1) A55.out) ?_; intro nd))
    (try simp only [Act.put, sa, sz, ss])
    (try simp only [World.drewN_drewN])
    generalize hq_ : World.drewN w60 _ = w62
    replace HO497 : Aside0 (Kd.S k100 100 w62 w.heap.size (fun _ => True) (.slice Ao59 t495.length co59) t495) := ⟨by rw [← hq_]; exact (kS HO497)⟩
    replace HO500 : Aside0 (Kd.R (Kd.int .i64) 2 w62 w.heap.size (fun k_ => some k_ ≠ (.slice Ao27 t475.length co27 : Value).ownBlock ∧ some k_ ≠ (.slice Ao26 t482.length co26 : Value).ownBlock) (.slice Ao61 t498.length co61) t498) := ⟨by rw [← hq_]; exact (by (with_reducible repeat (first | apply Kd.R_alloc | apply Kd.R_drewN | apply Kd.R_drew)); exact Kd.R_mono HO500.out (fun _ hk => ⟨hk.1.2, hk.2⟩))⟩
    replace HO_6 : Aside0 (Kd.R (Kd.int .i64) 2 w62 w.heap.size (fun k_ => some k_ ≠ (.slice Ao61 t498.length co61 : Value).ownBlock ∧ some k_ ≠ (.slice Ao26 t482.length co26 : Value).ownBlock) (.slice Ao27 t475.length co27) t475) := ⟨by rw [← hq_]; exact (by (with_reducible repeat (first | apply Kd.R_alloc | apply Kd.R_drewN | apply Kd.R_drew)); exact Kd.R_mono HO_6.out (fun _ hk => ⟨hk.2, hk.1⟩))⟩
    replace HO_8 : Aside0 (Kd.R (Kd.int .i64) 2 w62 w.heap.size (fun k_ => some k_ ≠ (.slice Ao61 t498.length co61 : Value).ownBlock ∧ some k_ ≠ (.slice Ao27 t475.length co27 : Value).ownBlock) (.slice Ao26 t482.length co26) t493) := ⟨by rw [← hq_]; exact (by (with_reducible repeat (first | apply Kd.R_alloc | apply Kd.R_drewN | apply Kd.R_drew)); exact Kd.R_mono HO_8.out (fun _ hk => ⟨hk.2, hk.1⟩))⟩
    replace BK470 : Aside0 (w62.heap[gb470]? = some (.cells #[.slice A0_0 l0_0.length c0_0] 24 (0, 0))) := ⟨by rw [← hq_]; exact (bp BK470)⟩
    replace HB : Aside0 (Below w.heap.size w w62) := ⟨by rw [← hq_]; exact (bw HB)⟩
    clear hq_
    have H := HC56.out
    clear HC56
    refine qT H ?_ ?_ <;> clear H <;> intro c63 H <;> subst c63
    ·refine be H ?_; clear H; intro t502 A64 H
     have HC65 := am H
     clear H
     go_upto_if 70 with (first | ((with_reducible refine gate_callee (f := 22) rfl ?_); refine goesL_ (some 68) rfl rfl Try.func22 (by kernel_rfl) rfl #[.slice Ao26 t493.length co26, .int .i64 1] rfl (by (try simp only [List.map_toArray, List.map_cons, List.map_nil]); first | done | (rw [show t493.length = t482.length from (Kd.R_reads' HO_8.out).1.symm] <;> rfl) | rfl | (simp only [List.length_drop, List.length_take]; rfl)) ?_; refine (laws_heldInt64S.calls kj38 _ _ t493 1 t502 _ (cc (Kd.R_reads' HO_8.out).2.2) (by rw [show t493.length = t482.length from (Kd.R_reads' HO_8.out).1.symm]; exact (Kd.R_reads' HO_8.out).2.1) A64.out).mono ?_; rintro e w' ⟨rfl, ⟨nd, rfl⟩⟩; refine ⟨_, rfl, ?_⟩))
     (try simp only [Act.put, sa, sz, ss])
     (try simp only [World.drewN_drewN])
     generalize hq_ : World.drewN w62 _ = w66
     replace HO497 : Aside0 (Kd.S k100 100 w66 w.heap.size (fun _ => True) (.slice Ao59 t495.length co59) t495) := ⟨by rw [← hq_]; exact (kS HO497)⟩
     replace HO500 : Aside0 (Kd.R (Kd.int .i64) 2 w66 w.heap.size (fun k_ => some k_ ≠ (.slice Ao27 t475.length co27 : Value).ownBlock ∧ some k_ ≠ (.slice Ao26 t482.length co26 : Value).ownBlock) (.slice Ao61 t498.length co61) t498) := ⟨by rw [← hq_]; exact (kR HO500)⟩
     replace HO_6 : Aside0 (Kd.R (Kd.int .i64) 2 w66 w.heap.size (fun k_ => some k_ ≠ (.slice Ao61 t498.length co61 : Value).ownBlock ∧ some k_ ≠ (.slice Ao26 t482.length co26 : Value).ownBlock) (.slice Ao27 t475.length co27) t475) := ⟨by rw [← hq_]; exact (kR HO_6)⟩
     replace HO_8 : Aside0 (Kd.R (Kd.int .i64) 2 w66 w.heap.size (fun k_ => some k_ ≠ (.slice Ao61 t498.length co61 : Value).ownBlock ∧ some k_ ≠ (.slice Ao27 t475.length co27 : Value).ownBlock) (.slice Ao26 t482.length co26) t493) := ⟨by rw [← hq_]; exact (kR HO_8)⟩
     replace BK470 : Aside0 (w66.heap[gb470]? = some (.cells #[.slice A0_0 l0_0.length c0_0] 24 (0, 0))) := ⟨by rw [← hq_]; exact (bp BK470)⟩
     replace HB : Aside0 (Below w.heap.size w w66) := ⟨by rw [← hq_]; exact (bw HB)⟩
     clear hq_
     have H := HC65.out
     clear HC65
     refine qI H ?_ ?_ <;> clear H <;> intro c67b0 H
     ·(first | rw [c67b0] | (simp only [i64_w, i32_w]; rw [c67b0]) | skip)
      obtain rfl := Option.some.inj H
      go_wp2
      go_ret
      exact ⟨er, bw HB⟩
     (first | rw [c67b0] | (simp only [i64_w, i32_w]; rw [c67b0]) | skip)
     refine qE H ?_ ?_ <;> clear H
     ·intro c68b0 c68b1 H
      obtain rfl := Option.some.inj H
      go_wp2
      go_ret
      exact ⟨er, bw HB⟩
     intro c68 c68b0 c68b1 H
     obtain rfl := Option.some.inj H
     go_wp2
     go_ret
     exact ⟨er, bw HB⟩
    obtain rfl := Option.some.inj H
    go_wp2
    go_ret
    exact ⟨er, bw HB⟩
   intro c52 c52b0 c52b1 H
   obtain rfl := Option.some.inj H
   go_wp2
   go_ret
   exact ⟨er, bw HB⟩
  obtain rfl := Option.some.inj H
  go_wp2
  go_ret
  exact ⟨er, bw HB⟩
 obtain rfl := Option.some.inj H
 go_wp2
 go_ret
 exact ⟨er, bw HB⟩

end Go.Proofs.Ytbmjmaahcaoajaa.QFnExactLive
