/- Parts of the drawn program's maker, by what they leave. No condition. -/
import Derived.Test.YtopaefhfjioecaaCFnFileCutg4
namespace Go.Proofs.Ytopaefhfjioecaa.QFnFileCut
open Go.RowKit Go.Proofs.YtopaefhfjioecaaW.PrintWords Go.Proofs.YtopaefhfjioecaaW.PrintLast Go.Proofs.YtopaefhfjioecaaW.PrintMore
attribute [local go_sem] max2_int min2_int max_two min_two max_three min_three max_four min_four
set_option linter.unusedVariables false
set_option linter.unusedSimpArgs false
set_option maxHeartbeats 8000000 in
set_option maxRecDepth 100000 in
theorem prog_rel {w0 w : World} {gs : Nat} {z : Int} (h : SrcZ w0 w gs z) (hB : Below w0.heap.size w0 w) :
  Calls Try.prog 45 #[.pointer (some ⟨gs, 0, none⟩)] w fun e w' => ∃ (u : Value) (P : List S35), e = .returned (.agg #[u]) ∧ Src w0 w' gs ∧ Below w0.heap.size w0 w' ∧ KeepBut w w' gs none ∧ Kd.R k35 35 w' w.heap.size (fun _ => True) u P ∧ GoodP P := by
 have HP := Aside0.mk (PB.start h hB)
 clear h hB
 go_enter Try.func45, Try.ntmps45
 go_wp2_with (first | ((with_reducible refine gate_dst (N := 10) rfl ?_); generalize ((w.alloc (.cells #[.slice none 0 0] 25)).alloc (.cells #[.slice none 0 0] 25)) = w2 at HP ⊢; refine Kd.R_lit (Kd.int .i64) (w0 := w2) w.heap.size 2 rfl (N := 10) rfl (xs := ([] : List Int)) (inner := []) (ok := fun _ => True) (okp := fun _ => True) ?hr ?hp (fun _ hk => hk) trivial (Below.refl _ _) (by have := HP.out.2.2.1.1; omega) (by simp) ?_; (case hr => first | (go_simp; done) | (go_simp; rfl)); (case hp => exact Reps.none _ _); intro v1 w3 ho hb hg hat; have n0_ := Aside0.mk (HP.out.args ho (by simp) hb (grownNo hg _)); clear HP ho hb hg hat; have HP := n0_; clear n0_) | ((with_reducible refine gate_callee (f := 56) rfl ?_); refine goesL_ _ rfl rfl Try.func56 (by kernel_rfl) rfl #[.pointer (some ⟨gs, 0, none⟩), .int .i64 _] rfl gl ?_; refine (n_relZ HP.out.1 HP.out.2.1 _ (by omega)).mono ?_; rintro e w4 ⟨n1, rfl, hn1, hs, hb, hk⟩; refine ⟨_, rfl, ?_⟩; have n0_ := Aside0.mk (HP.out.src hs hb hk); clear HP hs hb hk; have HP := n0_; clear n0_; skip))
 go_loopg [4, 5] 3 (fun kq v4 v5 w' => ∃ (x : Int) (la : List Int), v5 = .int .i64 x ∧ Aside0 (0 ≤ x ∧ 1 ≤ x + la.length ∧ x + la.length ≤ 3 ∧ x ≤ kq) ∧ Aside0 (PB w0 w gs z w' v4 la (.slice none 0 0) []))
 case atStart => exact ⟨1 + n1, [], rfl, ⟨by simp; omega⟩, HP⟩
 case round =>
  clear HP hn1
  obtain ⟨x, la, rfl, HX, HP⟩ := hrel
  obtain ⟨Aa, ca, ea⟩ := Kd.R_slice HP.out.2.2.2.2.2.1.1
  subst ea
  by_cases hx : 0 < x
  · have hxd : decide (0 < x) = true := decide_eq_true hx
    cases gk with
    | zero => exact absurd HX.out (by omega)
    | succ k1 =>
     go_wp2_with (first | ((with_reducible refine gate_callee (f := 56) rfl ?_); refine goesL_ _ rfl rfl Try.func56 (by kernel_rfl) rfl #[.pointer (some ⟨gs, 0, none⟩), .int .i64 _] rfl gl ?_; refine (n_relZ HP.out.1 HP.out.2.1 _ (by omega)).mono ?_; rintro e w4 ⟨n1, rfl, hn1, hs, hb, hk⟩; refine ⟨_, rfl, ?_⟩; have n0_ := Aside0.mk (HP.out.src hs hb hk); clear HP hs hb hk; have HP := n0_; clear n0_; skip) | ((with_reducible refine gate_builtin (b := .append) (xs := #[.tmp 18, .tmp 21]) rfl ?_); at_builtin; refine Kd.R_append (Kd.int .i64) (w0 := w4) w.heap.size rfl (.tmp 18) (.tmp 21) 31 2 _ 8 rfl Try.underlying31 info2_ rfl (by decide) (by omega) (.slice Aa la.length ca) la n1 [.int .i64 n1] (fun _ => True) (fun _ => False) rfl rfl rfl (fun _ hk => hk.elim) (fun _ _ => trivial) HP.out.2.2.2.2.2.1.1 (Below.refl _ _) HP.out.2.2.1.1 (by have := HX.out; omega) ?_; intro v1 w5 ho hb hg hat; have n0_ := Aside0.mk (HP.out.args ho (all_snoc HP.out.2.2.2.2.2.1.2 (by omega)) hb hg); clear HP ho hb hg hat; have HP := n0_; clear n0_))
     go_roundg k1
     case measure => omega
     case rel => exact ⟨x - 1, la ++ [n1], by have := HX.out; first | rfl | (simp [wrap_in (n := x - 1) (by omega) (by omega)]; done), ⟨by have := HX.out; simp only [List.length_append, List.length_singleton]; omega⟩, HP⟩
  · have hxd : decide (0 < x) = false := decide_eq_false hx
    have hla : 0 < la.length ∧ la.length ≤ 3 := by have := HX.out; omega
    clear HX
    go_wp2
    clear hxd hx
    obtain ⟨ad, _, ea, _⟩ := Kd.C_get (Kd.R_reads' HP.out.2.2.2.2.2.1.1).2.2 0 0 (by omega) (by omega)
    subst ea
    obtain ⟨ga, ea⟩ := Kd.R_head HP.out.2.2.2.2.2.1.1
    subst ea
    go_loopg [6] 3 (fun kq v6 w' => ∃ (f : Nat) (u : Value) (P : List S35) (z : Int), v6 = .int .i64 f ∧ Aside0 (f ≤ la.length ∧ P.length = f ∧ la.length ≤ f + kq) ∧ Aside0 (PB w0 w gs z w' (.slice (some ⟨ga, 0, none⟩) la.length ca) la u P))
    case atStart => exact ⟨0, _, [], _, rfl, ⟨by omega, rfl, by omega⟩, HP⟩
    case round =>
     clear HP
     obtain ⟨f, u, P, z, rfl, HX, HP⟩ := hrel
     by_cases hf : f < la.length
     · obtain ⟨kk, hkk⟩ : ∃ kk, gk = kk + 1 := ⟨gk - 1, by have := HX.out; omega⟩
       subst hkk
       have hf0 : (0 : Int) ≤ (f : Int) := by omega
       have hf1 : (f : Int) < (la.length : Int) := by omega
       have hfd : decide ((f : Int) < (la.length : Int)) = true := decide_eq_true hf1
       have hf0_ := eq_true hf0
       have hf1_ := eq_true hf1
       go_wp2
       have n0_ := Aside0.mk HP.out.drew
       clear HP
       have HP := n0_
       clear n0_
       go_region_held3 (fun w' => w'.cell? ⟨ga, f, none⟩ = some (.int .i64 (rd la f)) ∧ w'.cell? ⟨gs, 3, none⟩ = some (.int .i64 z)) (first | exact ⟨(HP.out.argc f hf).1, HP.out.1.c3⟩ | exact ⟨pw_cell_below (below_alloc (Below.refl _ _) _) (HP.out.argc f hf).1, pw_cell_below (below_alloc (Below.refl _ _) _) HP.out.1.c3⟩) (first | (go_at_call 56; refine (n_relZ HP.out.1 HP.out.2.1 _ (by omega)).mono ?_; rintro e w4 ⟨n1, rfl, hn1, hs, hb, hk⟩; have n0_ := Aside0.mk (HP.out.src hs hb hk); clear HP hs hb hk; have HP := n0_; clear n0_) | (go_at_call 79; refine (min_rel _ _ _).mono ?_; rintro e w5 ⟨m1, rfl, hm1, hm2, nd, rfl⟩))
       obtain ⟨ha0, ha1⟩ := (HP.out.argc f hf).2
       have hwr : IntKind.i64.wrap (rd la ↑f + n1) = rd la ↑f + n1 := by rw [i64_w]; exact wrap_in (by omega) (by omega)
       have hm8 : 0 ≤ m1 ∧ m1 ≤ 8 := by rw [hwr] at hm2; omega
       clear hwr
       generalize IntKind.i64.wrap (10 + IntKind.i64.wrap (2 * z)) = mo
       have HG := Aside0.mk (GenB.start nd HP.out hla hm8 mo)
       have n0_ := Aside0.mk (HP.out.gen nd (.cells #[.pointer (some ⟨gs, 0, none⟩), .slice (some ⟨ga, 0, none⟩) la.length ca, .int .i64 m1, .slice none 0 0, .int .i64 mo] 109))
       have HK := Aside0.mk (frAlloc nd w4 (.cells #[.pointer (some ⟨gs, 0, none⟩), .slice (some ⟨ga, 0, none⟩) la.length ca, .int .i64 m1, .slice none 0 0, .int .i64 mo] 109) gs)
       have HP4 := HP
       clear HP
       have HP := n0_
       clear n0_ ha0 ha1 hn1 hm1 hm2 hf0_ hf1_ hfd
       generalize ((w4.drewN nd).alloc (.cells #[.pointer (some ⟨gs, 0, none⟩), .slice (some ⟨ga, 0, none⟩) la.length ca, .int .i64 m1, .slice none 0 0, .int .i64 mo] 109)) = w6 at HG HP HK ⊢
       obtain ⟨p, hp⟩ : ∃ p : GP, p = ⟨w4.heap.size, w4.heap.size, gs, ga, ca, la, m1, mo⟩ := ⟨_, rfl⟩
       rw [← hp] at HG
       have hgg : w4.heap.size = p.gg := by rw [hp]
       have hbb : p.base = p.gg := by rw [hp]
       have hgs : p.gs = gs := by rw [hp]
       have hlo : p.locals = m1 := by rw [hp]
       rw [hgg] at HK ⊢
       have HE := Aside0.mk (And.intro hgg (And.intro hbb (And.intro hgs hlo)))
       clear hp hgg hbb hgs hlo
       go_wp2_with (first | ((with_reducible refine gate_callee (f := 56) rfl ?_); refine goesL_ _ rfl rfl Try.func56 (by kernel_rfl) rfl #[.pointer (some ⟨gs, 0, none⟩), .int .i64 _] rfl gl ?_; refine (n_relZ HP.out.1 HP.out.2.1 _ (by omega)).mono ?_; rintro e w7 ⟨n1, rfl, hn1, hs, hb, hk7⟩; refine ⟨_, rfl, ?_⟩; have n0_ := Aside0.mk (HP.out.src hs hb hk7); clear HP hs hb; have HP := n0_; clear n0_))
       have HB := Aside0.mk HP.out.2.1
       have HF := Aside0.mk (FrB.refl w7 p.base p.gs)
       have HD := Aside0.mk (HG.out.src (by rw [HE.out.2.2.1]; exact ⟨_, HP.out.1⟩) (by rw [HE.out.2.2.1]; exact hk7))
       have n0_ := Aside0.mk (HK.out.trans (FrB.keep hk7 (by have := HG.out.le; rw [HE.out.2.1] at this; exact this)))
       clear HK hk7
       have HK := n0_
       clear n0_
       go_loopg [8] 3 (fun kq v8 w' => ∃ (y : Int) (n : Nat), v8 = .int .i64 y ∧ Aside0 (y ≤ kq ∧ n + kq * 4000 ≤ 12000) ∧ Aside0 (GenB w0 w' p n) ∧ Aside0 (Below w0.heap.size w0 w') ∧ Aside0 (FrB w7 w' p.base p.gs))
       case atStart => exact ⟨1 + n1, 0, rfl, ⟨by omega, by omega⟩, HD, HB, HF⟩
       case round =>
        clear HD HB HF hn1
        obtain ⟨y, n, rfl, HY, HD, HB, HF⟩ := hrel
        by_cases hy : 0 < y
        · have hyd : decide (0 < y) = true := decide_eq_true hy
          cases gk with
          | zero => exact absurd HY.out (by omega)
          | succ k1 =>
           go_wp2_with (first | ((with_reducible refine gate_callee (f := 80) rfl ?_); refine goesL_ _ rfl rfl Try.func80 (by kernel_rfl) rfl #[.pointer (some ⟨p.gg, 0, none⟩), .int .i64 _] rfl gl ?_; refine (stmt_rel 2 (by omega) _ (by omega) (by omega) HD.out HB.out (by have := HY.out; have : S_ 2 = 3650 := rfl; have : E 2 = 34 := rfl; omega)).mono ?_; rintro e w3 ⟨rfl, n1, hl1, hl2, hG, hb, hf⟩; refine ⟨_, rfl, ?_⟩; have n0_ := Aside0.mk hG; have n1_ := Aside0.mk hb; have n2_ := Aside0.mk (HF.out.trans hf); clear HD HB HF hG hb hf; have HD := n0_; have HB := n1_; have HF := n2_; clear n0_ n1_ n2_))
           go_roundg k1
           case measure => omega
           case rel => exact ⟨y - 1, n1, by have := HY.out; first | rfl | (simp [wrap_in (n := y - 1) (by omega) (by omega)]; done), ⟨by have := HY.out; have : S_ 2 = 3650 := rfl; omega⟩, HD, HB, HF⟩
        · have hyd : decide (0 < y) = false := decide_eq_false hy
          go_wp2_with (first | ((with_reducible refine gate_callee (f := 81) rfl ?_); refine goesL_ _ rfl rfl Try.func81 (by kernel_rfl) rfl #[.pointer (some ⟨p.gg, 0, none⟩), .int .i64 _] rfl gl ?_; refine (expr_rel 2 (by omega) _ (by omega) (by omega) HD.out HB.out (by have := HY.out; have : S_ 2 = 3650 := rfl; have : E 2 = 34 := rfl; omega)).mono ?_; rintro e w3 ⟨rfl, n1, hl1, hl2, hG, hb, hf⟩; refine ⟨_, rfl, ?_⟩; have n0_ := Aside0.mk hG; have n1_ := Aside0.mk hb; have n2_ := Aside0.mk (HF.out.trans hf); clear HD HB HF hG hb hf; have HD := n0_; have HB := n1_; have HF := n2_; clear n0_ n1_ n2_) | ((with_reducible refine gate_callee (f := 82) rfl ?_); refine goesL_ _ rfl rfl Try.func82 (by kernel_rfl) rfl #[.pointer (some ⟨p.gg, 0, none⟩), .int .i64 _, .int .i64 _] rfl gl ?_; refine (put_rel HD.out HB.out _ _ (by unfold in64; omega) (by unfold in64; omega) (by have := HY.out; have : S_ 2 = 3650 := rfl; have : E 2 = 34 := rfl; omega)).mono ?_; rintro e w3 ⟨rfl, hG, hb, hf⟩; refine ⟨_, rfl, ?_⟩; have n0_ := Aside0.mk hG; have n1_ := Aside0.mk hb; have n2_ := Aside0.mk (HF.out.trans hf); clear HD HB HF hG hb hf; have HD := n0_; have HB := n1_; have HF := n2_; clear n0_ n1_ n2_))
          have hn9 : n + n1 + 1 < 1048576 := by have := HY.out; have : E 2 = 34 := rfl; omega
          have hz := HD.out.so
          rw [HE.out.2.2.1] at hz
          obtain ⟨z8, hz8⟩ := hz
          have HP8 := Aside0.mk (HP4.out.step (z' := z8) hz8 HB.out (by rw [HE.out.1]; have := HF.out; rw [HE.out.2.1, HE.out.2.2.1] at this; exact HK.out.trans this))
          have HS8 := Aside0.mk (S_fr HP4.out.2.2.2.2.2.2.1.1 (show FrB w4 w3 w4.heap.size gs by rw [HE.out.1]; have := HF.out; rw [HE.out.2.1, HE.out.2.2.1] at this; exact HK.out.trans this) HP4.out.2.2.2.2.2.2.2.1)
          obtain ⟨v8, xs, hg, _, _, _, hRc, hxl, hxi⟩ := HD.out
          obtain ⟨Ac, cc, ec⟩ := Kd.R_slice hRc
          subst ec
          obtain ⟨Au, cu, eu⟩ := Kd.R_slice (Kd.S_R HP8.out.2.2.2.2.2.2.1.1)
          subst eu
          have HG8 := Aside0.mk hg
          have HR8 := Aside0.mk (Kd.R_lower (Kd.R_mono (Kd.R_bound hRc) (ok' := fun k => w4.heap.size ≤ k) (fun k a => by have := a.2.1; rw [HE.out.2.1, ← HE.out.1] at this; exact this)) (show w.heap.size ≤ p.base by rw [HE.out.2.1, ← HE.out.1]; exact HP4.out.2.2.1.1))
          have HI8 := Aside0.mk (And.intro hxl hxi)
          clear hz8 hg hRc hxl hxi HP HG HD HB HF HK HP4
          have p0 := eq_true hf0
          have p1 := eq_true hf1
          refine start_ (n := 19) (S := fun w' => w'.cell? ⟨w.heap.size + 1, 0, none⟩ = some (.slice Au P.length cu) ∧ w'.cell? ⟨ga, f, none⟩ = some (.int .i64 (rd la f)) ∧ w'.cell? ⟨p.gg, 2, none⟩ = some (.int .i64 p.locals) ∧ w'.cell? ⟨p.gg, 3, none⟩ = some (.slice Ac xs.length cc)) (ds := [18]) #[false, false, false, false, false, false, false, false, false, false, false, false, false, false, false, false, false, false, false] (by kernel_rfl) rfl rfl ⟨(blk_cell HP8.out.2.2.2.2.1 0).trans rfl, (HP8.out.argc f hf).1, (blk_cell HG8.out 2).trans rfl, (blk_cell HG8.out 3).trans rfl⟩ (fun hHeld => ?_)
          have n0_ := Aside0.mk HP8.out.drew
          have n1_ := Aside0.mk (blk_drew HG8.out)
          have n2_ := Aside0.mk (Kd.R_drew HR8.out)
          have n3_ := Aside0.mk (Kd.S_drew HS8.out)
          clear HP8 HG8 HR8 HS8
          generalize w3.drew = w8 at n0_ n1_ n2_ n3_ hHeld ⊢
          refine pure_ (i := 0) (N := some 60) (v := ?_) (a' := ?_) #[true, false, false, false, false, false, false, false, false, false, false, false, false, false, false, false, false, false, false] rfl rfl (by kernel_rfl) (fun _ _ _ h => h) (Or.inl ⟨by rfl, ?_⟩) ?_ ?_
          rotate_left
          · intro w'
            go_simp
            with_reducible rfl
          rotate_left
          · simp only [Act.put, List.setIfInBounds_toArray, List.set_cons_zero, List.set_cons_succ, i64_w, i32_w]
            rfl
          refine take_ (i := 1) (N := some 61) (v := ?_) (a' := ?_) #[true, true, false, false, false, false, false, false, false, false, false, false, false, false, false, false, false, false, false] rfl rfl (by kernel_rfl) (fun _ _ _ h => h) (Or.inl ⟨by rfl, ?_⟩) hHeld ?_ ?_
          rotate_left
          · rintro w' ⟨s0, s1, s2, s3⟩
            go_simp
            with_reducible rfl
          rotate_left
          · simp only [Act.put, List.setIfInBounds_toArray, List.set_cons_zero, List.set_cons_succ, i64_w, i32_w]
            rfl
          refine pure_ (i := 2) (N := some 62) (v := ?_) (a' := ?_) #[true, true, true, false, false, false, false, false, false, false, false, false, false, false, false, false, false, false, false] rfl rfl (by kernel_rfl) (fun _ _ _ h => h) (Or.inl ⟨by rfl, ?_⟩) ?_ ?_
          rotate_left
          · intro w'
            go_simp
            with_reducible rfl
          rotate_left
          · simp only [Act.put, List.setIfInBounds_toArray, List.set_cons_zero, List.set_cons_succ, i64_w, i32_w]
            rfl
          refine pure_ (i := 3) (N := some 63) (v := ?_) (a' := ?_) #[true, true, true, true, false, false, false, false, false, false, false, false, false, false, false, false, false, false, false] rfl rfl (by kernel_rfl) (fun _ _ _ h => h) (Or.inl ⟨by rfl, ?_⟩) ?_ ?_
          rotate_left
          · intro w'
            go_simp
            with_reducible rfl
          rotate_left
          · simp only [Act.put, List.setIfInBounds_toArray, List.set_cons_zero, List.set_cons_succ, i64_w, i32_w]
            rfl
          refine pure_ (i := 4) (N := some 64) (v := ?_) (a' := ?_) #[true, true, true, true, true, false, false, false, false, false, false, false, false, false, false, false, false, false, false] rfl rfl (by kernel_rfl) (fun _ _ _ h => h) (Or.inl ⟨by rfl, ?_⟩) ?_ ?_
          rotate_left
          · intro w'
            go_simp
            with_reducible rfl
          rotate_left
          · simp only [Act.put, List.setIfInBounds_toArray, List.set_cons_zero, List.set_cons_succ, i64_w, i32_w]
            rfl
          refine take_ (i := 5) (N := some 65) (v := ?_) (a' := ?_) #[true, true, true, true, true, true, false, false, false, false, false, false, false, false, false, false, false, false, false] rfl rfl (by kernel_rfl) (fun _ _ _ h => h) (Or.inl ⟨by rfl, ?_⟩) hHeld ?_ ?_
          rotate_left
          · rintro w' ⟨s0, s1, s2, s3⟩
            go_simp
            with_reducible rfl
          rotate_left
          · simp only [Act.put, List.setIfInBounds_toArray, List.set_cons_zero, List.set_cons_succ, i64_w, i32_w]
            rfl
          refine pure_ (i := 6) (N := some 66) (v := ?_) (a' := ?_) #[true, true, true, true, true, true, true, false, false, false, false, false, false, false, false, false, false, false, false] rfl rfl (by kernel_rfl) (fun _ _ _ h => h) (Or.inl ⟨by rfl, ?_⟩) ?_ ?_
          rotate_left
          · intro w'
            go_simp
            with_reducible rfl
          rotate_left
          · simp only [Act.put, List.setIfInBounds_toArray, List.set_cons_zero, List.set_cons_succ, i64_w, i32_w]
            rfl
          refine pure_ (i := 7) (N := some 67) (v := ?_) (a' := ?_) #[true, true, true, true, true, true, true, true, false, false, false, false, false, false, false, false, false, false, false] rfl rfl (by kernel_rfl) (fun _ _ _ h => h) (Or.inl ⟨by rfl, ?_⟩) ?_ ?_
          rotate_left
          · intro w'
            go_simp
            with_reducible rfl
          rotate_left
          · simp only [Act.put, List.setIfInBounds_toArray, List.set_cons_zero, List.set_cons_succ, i64_w, i32_w]
            rfl
          refine pure_ (i := 8) (N := some 68) (v := ?_) (a' := ?_) #[true, true, true, true, true, true, true, true, true, false, false, false, false, false, false, false, false, false, false] rfl rfl (by kernel_rfl) (fun _ _ _ h => h) (Or.inl ⟨by rfl, ?_⟩) ?_ ?_
          rotate_left
          · intro w'
            go_simp
            with_reducible rfl
          rotate_left
          · simp only [Act.put, List.setIfInBounds_toArray, List.set_cons_zero, List.set_cons_succ, i64_w, i32_w]
            rfl
          refine take_ (i := 9) (N := some 69) (v := ?_) (a' := ?_) #[true, true, true, true, true, true, true, true, true, true, false, false, false, false, false, false, false, false, false] rfl rfl (by kernel_rfl) (fun _ _ _ h => h) (Or.inl ⟨by rfl, ?_⟩) hHeld ?_ ?_
          rotate_left
          · rintro w' ⟨s0, s1, s2, s3⟩
            go_simp
            with_reducible rfl
          rotate_left
          · simp only [Act.put, List.setIfInBounds_toArray, List.set_cons_zero, List.set_cons_succ, i64_w, i32_w]
            rfl
          refine pure_ (i := 10) (N := some 70) (v := ?_) (a' := ?_) #[true, true, true, true, true, true, true, true, true, true, true, false, false, false, false, false, false, false, false] rfl rfl (by kernel_rfl) (fun _ _ _ h => h) (Or.inl ⟨by rfl, ?_⟩) ?_ ?_
          rotate_left
          · intro w'
            go_simp
            with_reducible rfl
          rotate_left
          · simp only [Act.put, List.setIfInBounds_toArray, List.set_cons_zero, List.set_cons_succ, i64_w, i32_w]
            rfl
          refine pure_ (i := 11) (N := some 71) (v := ?_) (a' := ?_) #[true, true, true, true, true, true, true, true, true, true, true, true, false, false, false, false, false, false, false] rfl rfl (by kernel_rfl) (fun _ _ _ h => h) (Or.inl ⟨by rfl, ?_⟩) ?_ ?_
          rotate_left
          · intro w'
            go_simp
            with_reducible rfl
          rotate_left
          · simp only [Act.put, List.setIfInBounds_toArray, List.set_cons_zero, List.set_cons_succ, i64_w, i32_w]
            rfl
          refine pure_ (i := 12) (N := some 72) (v := ?_) (a' := ?_) #[true, true, true, true, true, true, true, true, true, true, true, true, true, false, false, false, false, false, false] rfl rfl (by kernel_rfl) (fun _ _ _ h => h) (Or.inl ⟨by rfl, ?_⟩) ?_ ?_
          rotate_left
          · intro w'
            go_simp
            with_reducible rfl
          rotate_left
          · simp only [Act.put, List.setIfInBounds_toArray, List.set_cons_zero, List.set_cons_succ, i64_w, i32_w]
            rfl
          refine take_ (i := 13) (N := some 73) (v := ?_) (a' := ?_) #[true, true, true, true, true, true, true, true, true, true, true, true, true, true, false, false, false, false, false] rfl rfl (by kernel_rfl) (fun _ _ _ h => h) (Or.inl ⟨by rfl, ?_⟩) hHeld ?_ ?_
          rotate_left
          · rintro w' ⟨s0, s1, s2, s3⟩
            go_simp
            with_reducible rfl
          rotate_left
          · simp only [Act.put, List.setIfInBounds_toArray, List.set_cons_zero, List.set_cons_succ, i64_w, i32_w]
            rfl
          refine pure_ (i := 14) (N := some 74) (v := ?_) (a' := ?_) #[true, true, true, true, true, true, true, true, true, true, true, true, true, true, true, false, false, false, false] rfl rfl (by kernel_rfl) (fun _ _ _ h => h) (Or.inl ⟨by rfl, ?_⟩) ?_ ?_
          rotate_left
          · intro w'
            go_simp
            with_reducible rfl
          rotate_left
          · simp only [Act.put, List.setIfInBounds_toArray, List.set_cons_zero, List.set_cons_succ, i64_w, i32_w]
            rfl
          refine one_ (i := 15) (N := some 75) #[true, true, true, true, true, true, true, true, true, true, true, true, true, true, true, true, false, false, false] rfl rfl (by kernel_rfl) (by decide) (fun K hK => ?_)
          refine event_step (w1 := (w8.alloc (.cells #[.int .i64 (rd la f), .int .i64 p.locals, .slice Ac xs.length cc] 35))) (v := .slice (some ⟨w8.heap.size, 0, none⟩) 1 1) (by rfl) (by first | (go_simp; done) | (go_simp; rfl)) ?_
          have hs2 := n0_.out.argc f hf
          refine hK.out _ _ ⟨pw_cell_below (below_alloc (Below.refl _ _) _) ((blk_cell n0_.out.2.2.2.2.1 0).trans rfl), pw_cell_below (below_alloc (Below.refl _ _) _) hs2.1, pw_cell_below (below_alloc (Below.refl _ _) _) ((blk_cell n1_.out 2).trans rfl), pw_cell_below (below_alloc (Below.refl _ _) _) ((blk_cell n1_.out 3).trans rfl)⟩ (fun hHeld => ?_)
          clear hK K
          refine norm_ (a' := ?_) ?_ ?_
          rotate_left
          · simp only [Act.put, List.setIfInBounds_toArray, List.set_cons_zero, List.set_cons_succ, i64_w, i32_w]
            rfl
          refine one_ (i := 16) (N := some 76) #[true, true, true, true, true, true, true, true, true, true, true, true, true, true, true, true, true, false, false] rfl rfl (by kernel_rfl) (by decide) (fun K hK => ?_)
          refine Kd.S_append_step k35 (w0 := w8) w.heap.size (by rfl) (.tmp 61) (.tmp 75) 23 35 (.agg #[.int .i64 0, .int .i64 0, .slice none 0 0]) 40 rfl Try.underlying23 info35_ rfl (by decide) (by omega) (.slice Au P.length cu) P ⟨rd la f, p.locals, xs⟩ [.int .i64 (rd la f), .int .i64 p.locals, .slice Ac xs.length cc] (fun _ => True) (fun k => w4.heap.size ≤ k) rfl rfl (k35_mkM _ _ _ ⟨rd la f, p.locals, xs⟩ n2_.out) (fun k hk => ⟨trivial, fun e => absurd ((Kd.S_R n3_.out).1 k e.symm) (by omega)⟩) (fun _ _ => trivial) (Kd.S_mono n3_.out (fun k hk => ⟨trivial, by omega⟩)) (Below.refl _ _) n0_.out.2.2.1.1 (by have := HX.out; omega) ?_
          intro v9 w9 ho hb hg hat
          have HQ := Aside0.mk (n0_.out.push ho (all_snoc n0_.out.2.2.2.2.2.2.1.2 (goodF hs2.2 HI8.out (by have := HE.out.2.2.2; omega) hn9)) hb hg)
          have hz9 := blk_grown n0_.out.2.2.2.2.1 hg (Kd.R_ne (Kd.S_R n0_.out.2.2.2.2.2.2.1.1) n0_.out.2.2.2.2.1 (by decide))
          have hg9 := blk_grown n1_.out hg (Kd.R_ne (Kd.S_R n0_.out.2.2.2.2.2.2.1.1) n1_.out (by decide))
          have ha9 := n0_.out.argg hg f hf
          obtain ⟨A9, c9, e9⟩ := Kd.R_slice (Kd.S_R ho)
          subst e9
          rw [List.length_append, List.length_singleton] at *
          refine hK.out _ _ ⟨(blk_cell hz9 0).trans rfl, ha9, (blk_cell hg9 2).trans rfl, (blk_cell hg9 3).trans rfl⟩ (fun hHeld => ?_)
          clear hK K
          refine norm_ (a' := ?_) ?_ ?_
          rotate_left
          · simp only [Act.put, List.setIfInBounds_toArray, List.set_cons_zero, List.set_cons_succ, i64_w, i32_w]
            rfl
          refine pure_ (i := 17) (N := some 77) (v := ?_) (a' := ?_) #[true, true, true, true, true, true, true, true, true, true, true, true, true, true, true, true, true, true, false] rfl rfl (by kernel_rfl) (fun _ _ _ h => h) (Or.inl ⟨by rfl, ?_⟩) ?_ ?_
          rotate_left
          · intro w'
            go_simp
            with_reducible rfl
          rotate_left
          · simp only [Act.put, List.setIfInBounds_toArray, List.set_cons_zero, List.set_cons_succ, i64_w, i32_w]
            rfl
          refine last_ (i := 18) (N := none) #[true, true, true, true, true, true, true, true, true, true, true, true, true, true, true, true, true, true, true] rfl rfl (by kernel_rfl) (by decide) (fun K hK => ?_)
          have hs := (blk_cell hz9 0).trans rfl
          have hf := blk_frozen hz9 0
          refine skip_ (w1 := ?_) (by rfl) rfl ?_ ?_
          rotate_left
          · go_simp
            rfl
          refine hK.out _ _ ?_
          clear hK K
          refine done_ (by kernel_rfl) ?_
          go_wp2
          go_roundg kk
          case measure => omega
          case rel => exact ⟨f + 1, _, P ++ [⟨rd la f, p.locals, xs⟩], _, by first | rfl | (simp; done) | (push_cast; rfl), ⟨by have := HX.out; simp only [List.length_append, List.length_singleton]; omega⟩, HQ⟩
     · have hfd : decide ((f : Int) < (la.length : Int)) = false := decide_eq_false (by omega)
       have HX2 := Aside0.mk (show 0 < P.length ∧ P.length ≤ 3 by have := HX.out; omega)
       have hf2 : (la.length : Int) ≤ (f : Int) := by omega
       clear HX hf
       obtain ⟨Au, cu, eu⟩ := Kd.R_slice (Kd.S_R HP.out.2.2.2.2.2.2.1.1)
       subst eu
       go_wp2_with (first | ((with_reducible refine gate_callee (f := 69) rfl ?_); refine goesL_ _ rfl rfl Try.func69 (by kernel_rfl) rfl #[.pointer (some ⟨gs, 0, none⟩), .int .i64 _] rfl gl ?_; refine (one_rel ⟨_, HP.out.1⟩ HP.out.2.1 _ (by omega) (by omega)).mono ?_; rintro e w8 ⟨b1, rfl, ⟨z8, hs⟩, hb, hk⟩; refine ⟨_, rfl, ?_⟩; have n0_ := Aside0.mk (HP.out.step (z' := z8) hs hb (FrB.keep hk (Nat.le_refl _))); clear HP hs hb hk; have HP := n0_; clear n0_; have hcp : w8.cell? ⟨w.heap.size + 1, 0, none⟩ = some (.slice Au P.length cu) := (blk_cell HP.out.2.2.2.2.1 0).trans rfl; have hcr : w8.cell? ⟨w.heap.size, 0, none⟩ = some (.slice none 0 0) := (blk_cell HP.out.2.2.2.1 0).trans rfl; have hfr := blk_frozen HP.out.2.2.2.1 0; rcases b1 with _ | _) | ((with_reducible refine gate_callee (f := 83) rfl ?_); refine goesL_ _ rfl rfl Try.func83 (by kernel_rfl) rfl #[.pointer (some ⟨gs, 0, none⟩), .pointer (some ⟨w.heap.size + 1, 0, none⟩)] rfl gl ?_; refine (spoil_rel (HP.out.po HX2.out)).mono ?_; rintro e w9 ⟨rfl, z9, u9, P1, hO⟩; refine ⟨_, rfl, ?_⟩; have HO := Aside0.mk hO; clear HP hO hcp hcr hfr; obtain ⟨Av, cv, ev⟩ := Kd.R_slice HO.out.2.2.2.2.2.1; subst ev; have hcp : w9.cell? ⟨w.heap.size + 1, 0, none⟩ = some (.slice Av P1.length cv) := (blk_cell HO.out.2.2.2.2.1 0).trans rfl; have hcr : w9.cell? ⟨w.heap.size, 0, none⟩ = some (.slice none 0 0) := (blk_cell HO.out.2.2.2.1 0).trans rfl; have hfr := blk_frozen HO.out.2.2.2.1 0))
       · refine bodyPost_ret (results_cell_row rfl _ _ w.heap.size 25 #[.slice Au P.length cu] (0, 0) _ rfl (blk_put HP.out.2.2.2.1 0 _ rfl) Try.underlying25 rfl (by kernel_rfl)) rfl ?_
         exact (HP.out.po HX2.out).1.fin
       · refine bodyPost_ret (results_cell_row rfl _ _ w.heap.size 25 #[.slice Av P1.length cv] (0, 0) _ rfl (blk_put HO.out.2.2.2.1 0 _ rfl) Try.underlying25 rfl (by kernel_rfl)) rfl ?_
         exact HO.out.fin


end Go.Proofs.Ytopaefhfjioecaa.QFnFileCut
