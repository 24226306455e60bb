import Derived.Test.YtbmjmaahcaoajaaCFnExactGuessx0
import Derived.Test.YtbmjmaahcaoajaaCFnExactGuessx1
import Derived.Test.YtbmjmaahcaoajaaCFnExactGuessx2
import Derived.Test.YtbmjmaahcaoajaaCFnExactGuessx3
import Derived.Test.YtbmjmaahcaoajaaCFnExactGuessx9
import Derived.Test.YtbmjmaahcaoajaaCFnExactGuessx13
import Derived.Test.YtbmjmaahcaoajaaCFnExactGuessx14
import Derived.Test.YtbmjmaahcaoajaaCFnExactGuessx15
import Derived.Test.YtbmjmaahcaoajaaCFnExactGuessx16
namespace Go.Proofs.Ytbmjmaahcaoajaa.QFnExactGuess
open Go.RowKit Go.Proofs.YtbmjmaahcaoajaaW
open PrintWords PrintLast PrintMore PrintShort PrintIsh
attribute [local go_sem] max2_int min2_int max_two min_two max_three min_three max_four min_four   -- for this text's walks alone
set_option linter.unusedVariables false
set_option maxHeartbeats 8000000
set_option maxRecDepth 100000
set_option linter.unusedSimpArgs false

def impl_Guess.j0 : Nat → List (S108) → Int → Int → Bool → Option (Int)
 | 0, _, _, _, _ => none
 | k + 1, x1, x2, x3, x35 => if x35 = true then (some 0) else ((impl_guess.f k x1 x2 x3).bind fun t411 => (some t411))
def impl_Guess.f (k : Nat) (l0_0 : List (S100)) (l1 : List (S108)) (a2 : Int) (a3 : Int) : Option (Int) := (impl_known.f k l0_0).bind fun bt401 => (if (l1.length : Int) > 400 then (impl_Guess.j0 k l1 a2 a3 true) else (if bt401.2.2 = true then ((impl_prog_seenRight.f k bt401.1 bt401.2.1 l1).bind fun t409 => (if t409 = true then ((impl_prog_isJz.f bt401.1 bt401.2.1 a2 a3).bind fun t410 => (impl_Guess.j0 k l1 a2 a3 (!t410))) else (impl_Guess.j0 k l1 a2 a3 true))) else (impl_Guess.j0 k l1 a2 a3 true)))
theorem impl_Guess.mono_l : ∀ k, (∀ y0 y1 y2 y3, LeO (impl_Guess.j0 k y0 y1 y2 y3) (impl_Guess.j0 (k + 1) y0 y1 y2 y3))
 | 0 => fun _ _ _ _ r h => by simp [impl_Guess.j0] at h
 | k + 1 => by
  have ih0 := impl_Guess.mono_l k
  ·intro y0 y1 y2 y3
   unfold impl_Guess.j0
   with_reducible repeat' first | exact ih0 .. | exact impl_guess.mono .. | exact impl_known.mono .. | exact impl_prog_seenRight.mono .. | exact LeO.refl _ | exact LeO.none _ | refine LeO.ite ?_ ?_ | refine LeO.bind ?_ (fun _ => ?_)
theorem impl_Guess.mono : ∀ a0 a1 a2 a3 k, LeO (impl_Guess.f k a0 a1 a2 a3) (impl_Guess.f (k + 1) a0 a1 a2 a3) := by
 intro a0 a1 a2 a3 k
 have ih0 := impl_Guess.mono_l k
 unfold impl_Guess.f
 with_reducible repeat' first | exact ih0 .. | exact impl_guess.mono .. | exact impl_known.mono .. | exact impl_prog_seenRight.mono .. | exact LeO.refl _ | exact LeO.none _ | refine LeO.ite ?_ ?_ | refine LeO.bind ?_ (fun _ => ?_)
theorem impl_Guess.calls (k : Nat) (A0_0 : Option Addr) (c0_0 : Nat) (l0_0 : List (S100)) (A1 : Option Addr) (c1 : Nat) (l1 : List (S108)) (a2 : Int) (a3 : Int) (r : Int) (w : World) (hr0_0 : Kd.C k100 w A0_0 l0_0.length l0_0) (hc0_0 : l0_0.length ≤ c0_0) (hr1 : Kd.C k108 w A1 l1.length l1) (hc1 : l1.length ≤ c1) (h : impl_Guess.f k l0_0 l1 a2 a3 = some r) :
  Calls Try.prog 35 #[.agg #[.slice A0_0 l0_0.length c0_0], .slice A1 l1.length c1, .int .i64 a2, .int .i64 a3] w fun e w' => e = .returned (.int .i64 r) ∧ Below w.heap.size w w' := by
 have hu30 := Try.underlying30
 have HR0_0 := am hr0_0
 have HC0_0 := am hc0_0
 clear hr0_0 hc0_0
 have HR1 := am hr1
 have HC1 := am hc1
 clear hr1 hc1
 have HB := am (Below.refl w.heap.size w)
 have H : ((impl_known.f k l0_0).bind fun bt401 => (if (l1.length : Int) > 400 then (impl_Guess.j0 k l1 a2 a3 true) else (if bt401.2.2 = true then ((impl_prog_seenRight.f k bt401.1 bt401.2.1 l1).bind fun t409 => (if t409 = true then ((impl_prog_isJz.f bt401.1 bt401.2.1 a2 a3).bind fun t410 => (impl_Guess.j0 k l1 a2 a3 (!t410))) else (impl_Guess.j0 k l1 a2 a3 true))) else (impl_Guess.j0 k l1 a2 a3 true)))) = some r := h
 clear h
 replace H := Option.bind_eq_some_iff.mp H
 obtain ⟨⟨t401, t404, t408⟩, A50, H⟩ := H
 replace H : (if (l1.length : Int) > 400 then (impl_Guess.j0 k l1 a2 a3 true) else (if t408 = true then ((impl_prog_seenRight.f k t401 t404 l1).bind fun t409 => (if t409 = true then ((impl_prog_isJz.f t401 t404 a2 a3).bind fun t410 => (impl_Guess.j0 k l1 a2 a3 (!t410))) else (impl_Guess.j0 k l1 a2 a3 true))) else (impl_Guess.j0 k l1 a2 a3 true))) = some r := H
 have A5 := am A50
 clear A50
 have HC6 := am H
 clear H
 go_enter Try.func35, Try.ntmps35
 go_upto_region 2 with (first | ((with_reducible refine gd 4 rfl ?_); refine bX 4 #[.slice A0_0 l0_0.length c0_0] 30 HB ?_; clear HB; intro gb400 w7 hg hb BK400 GW400 HB; clear hb hg; have hcz8 := bK w7 BK400; have hfz8 := bF BK400) | ((with_reducible refine gk 66 rfl ?_); refine gC 66 (some 13) Try.func66 #[.agg #[.slice A0_0 l0_0.length c0_0]] ((impl_known.calls k (fun k_ => k_ < w.heap.size) _ _ l0_0 t401 t404 t408 _ (Kd.V_mk HC0_0.out (Kd.F_below (Kd.C_F k100_heap HR0_0.out) (bw HB))) A5.out).mono ?_); rintro e w9 ⟨v402, v405, gb407, rfl, ho0, ho1, hbx, hgx, hb⟩; refine ⟨_, rfl, ?_⟩; have HO403 := am (Kd.V_lower (Kd.V_mono (ok' := fun k_ => some k_ ≠ (v405 : Value).ownBlock ∧ k_ ≠ gb400) ho0 (fun k_ hk_ => ⟨hk_.2, Or.elim hk_.1 (fun hs_ => fun e_ => Nat.not_le.2 hs_ (by rw [e_]; exact GW400.out)) (fun hn_ => (Kd.freshB (g := gb400) (o := .cells #[.slice A0_0 l0_0.length c0_0] 30 (0, 0)) (bp BK400) k_ hn_))⟩)) (below_size (bw HB))); have HO406 := am (Kd.S_lower (Kd.S_mono (ok' := fun k_ => True) ho1 (fun _ hk_ => trivial)) (below_size (bw HB))); have BK407 := am (hbx); have GW407 := am ((Nat.le_trans (below_size (bw HB)) hgx)); have GE407 := am ((Nat.le_trans (below_size (bw HB)) hgx)); have NB400_407 := am ((Nat.ne_of_lt (Nat.lt_of_lt_of_le (blk_lt (g := gb400) (o := .cells #[.slice A0_0 l0_0.length c0_0] 30 (0, 0)) (bp BK400)) hgx) : gb400 ≠ gb407)); have NB407_400 := am ((Nat.ne_of_gt (Nat.lt_of_lt_of_le (blk_lt (g := gb400) (o := .cells #[.slice A0_0 l0_0.length c0_0] 30 (0, 0)) (bp BK400)) hgx) : gb407 ≠ gb400)); replace BK400 := bb BK400 hb; replace HB := bs HB hb; clear hb; (try clear ho0); (try clear ho1); (try clear hbx); (try clear hgx)))
 (try simp only [Act.put, sa, sz, ss])
 go_cut [35] (fun v35 wc => ∃ (kq : Nat) (x35_5 : Bool), v35 = .bool x35_5 ∧ Aside0 (impl_Guess.j0 kq l1 a2 a3 x35_5 = some r) ∧ Aside0 (kq ≤ k) ∧ Aside0 (Kd.V k100 100 wc w.heap.size (fun k_ => some k_ ≠ (v405 : Value).ownBlock ∧ k_ ≠ gb400) v402 t401) ∧ Aside0 (Kd.S (Kd.slice 2 (Kd.int .i64)) 26 wc w.heap.size (fun _ => True) v405 t404) ∧ Aside0 (wc.heap[gb400]? = some (.cells #[(.slice A0_0 l0_0.length c0_0)] 30 (0, 0))) ∧ Aside0 (wc.heap[gb407]? = some (.cells #[v402, v405] 92 (0, 0))) ∧ Aside0 (Below w.heap.size w wc))
 case first =>
  have H := HC6.out
  clear HC6
  refine qG H ?_ ?_ <;> clear H <;> intro c10b0 H
  ·have c10 := of_decide_eq_true c10b0
   have c10b1 : decide (400 < l1.length) = true := decide_eq_true (by omega)
   clear c10
   (first | rw [c10b0] | (simp only [i64_w, i32_w]; rw [c10b0]) | skip)
   have H' := am H
   clear H
   go_wp2
   go_meet
   case rel => exact ⟨_, (true), dr, H', ⟨lk0⟩, ⟨kV HO403⟩, ⟨kS HO406⟩, ⟨bp BK400⟩, ⟨bp BK407⟩, ⟨bw HB⟩⟩
  have c10 := of_decide_eq_false c10b0
  have c10b1 : decide (400 < l1.length) = false := decide_eq_false (by omega)
  clear c10
  (first | rw [c10b0] | (simp only [i64_w, i32_w]; rw [c10b0]) | skip)
  refine qT H ?_ ?_ <;> clear H <;> intro c11 H <;> subst c11
  ·refine be H ?_; clear H; intro t409 A12 H
   refine qT H ?_ ?_ <;> clear H <;> intro c13 H <;> subst c13
   ·refine be H ?_; clear H; intro t410 A14 H
    have H' := am H
    clear H
    obtain ⟨Ao15, co15, eo15⟩ := Kd.V_slice HO403.out
    subst eo15
    obtain ⟨Ao16, co16, eo16⟩ := Kd.S_slice HO406.out
    subst eo16
    go_wp2_with (first | (go_at_call 73; refine (impl_prog_seenRight.calls k gb407 Ao15 co15 t401 Ao16 co16 t404 _ _ l1 true _ (bp BK407) (cc (Kd.V_reads' HO403.out).2.2) ((Kd.V_reads' HO403.out).2.1) (cc (Kd.S_reads' HO406.out).2.2) ((Kd.S_reads' HO406.out).2.1) (cc (Kd.C_below HR1.out HB.out)) HC1.out A12.out).mono ?_; rintro e w17 ⟨rfl, hb⟩; replace HO403 := am (Kd.V_below (kV HO403) hb); replace HO406 := am (Kd.S_below (kS HO406) hb); replace BK400 := bb BK400 hb; replace BK407 := bb BK407 hb; replace HB := bs HB hb; clear hb) | (go_at_call 79; refine (impl_prog_isJz.calls gb407 Ao15 co15 t401 Ao16 co16 t404 a2 a3 t410 _ (bp BK407) (cc (Kd.V_reads' HO403.out).2.2) ((Kd.V_reads' HO403.out).2.1) (cc (Kd.S_reads' HO406.out).2.2) ((Kd.S_reads' HO406.out).2.1) A14.out).mono ?_; rintro e w18 ⟨rfl, hb⟩; replace HO403 := am (Kd.V_below (kV HO403) hb); replace HO406 := am (Kd.S_below (kS HO406) hb); replace BK400 := bb BK400 hb; replace BK407 := bb BK407 hb; replace HB := bs HB hb; clear hb))
    go_meet
    case rel => exact ⟨_, (!t410), dr, H', ⟨lk0⟩, ⟨kV HO403⟩, ⟨kS HO406⟩, ⟨bp BK400⟩, ⟨bp BK407⟩, ⟨bw HB⟩⟩
   have H' := am H
   clear H
   obtain ⟨Ao19, co19, eo19⟩ := Kd.V_slice HO403.out
   subst eo19
   obtain ⟨Ao20, co20, eo20⟩ := Kd.S_slice HO406.out
   subst eo20
   go_wp2_with (first | (go_at_call 73; refine (impl_prog_seenRight.calls k gb407 Ao19 co19 t401 Ao20 co20 t404 _ _ l1 false _ (bp BK407) (cc (Kd.V_reads' HO403.out).2.2) ((Kd.V_reads' HO403.out).2.1) (cc (Kd.S_reads' HO406.out).2.2) ((Kd.S_reads' HO406.out).2.1) (cc (Kd.C_below HR1.out HB.out)) HC1.out A12.out).mono ?_; rintro e w21 ⟨rfl, hb⟩; replace HO403 := am (Kd.V_below (kV HO403) hb); replace HO406 := am (Kd.S_below (kS HO406) hb); replace BK400 := bb BK400 hb; replace BK407 := bb BK407 hb; replace HB := bs HB hb; clear hb))
   go_meet
   case rel => exact ⟨_, (true), dr, H', ⟨lk0⟩, ⟨kV HO403⟩, ⟨kS HO406⟩, ⟨bp BK400⟩, ⟨bp BK407⟩, ⟨bw HB⟩⟩
  have H' := am H
  clear H
  go_wp2
  go_meet
  case rel => exact ⟨_, (true), dr, H', ⟨lk0⟩, ⟨kV HO403⟩, ⟨kS HO406⟩, ⟨bp BK400⟩, ⟨bp BK407⟩, ⟨bw HB⟩⟩
 clear HC6
 (try clear c1); (try clear p2); (try clear c3); (try clear c6); (try clear c10); (try clear c10b0); (try clear c10b1); (try clear c11); (try clear c13); (try clear hcz8); (try clear hfz8)
 obtain ⟨kq, x35_5, rfl, HA, HJ5, HO_408000, HO_408001, BK400, BK407, HB⟩ := hcut
 rcases kq with _ | kj5
 ·exact absurd HA.out (by simp [impl_Guess.j0])
 have H := HA.out
 clear HA
 simp only [impl_Guess.j0] at H
 refine qT H ?_ ?_ <;> clear H <;> intro c22 H <;> subst c22
 ·obtain rfl := Option.some.inj H
  go_wp2
  go_ret
  exact ⟨er, bw HB⟩
 refine be H ?_; clear H; intro t411 A23 H
 obtain rfl := Option.some.inj H
 (try clear HO_408000)
 (try clear HO_408001)
 go_wp2_with (first | ((with_reducible refine gk 80 rfl ?_); refine gB 80 (some 39) Try.func80 #[.slice A1 l1.length c1, .int .i64 a2, .int .i64 a3] (impl_guess.calls kj5 _ _ l1 a2 a3 t411 _ (cc (Kd.C_below HR1.out HB.out)) HC1.out A23.out) ?_; intro w24 hb; replace BK400 := bb BK400 hb; replace BK407 := bb BK407 hb; replace HB := bs HB hb; clear hb))
 go_ret
 exact ⟨er, bw HB⟩

def laws_FnExactGuess.f (k : Nat) (l0_0 : List (S165)) (l1 : List (S112)) (a2 : Int) (a3 : Int) : Option (Bool) := (laws_szProgram.f k l0_0 1048576).bind fun t413 => (if t413 < 0 then (some true) else ((laws_szSeenS.f l1 t413).bind fun t414 => (if t414 < 0 then (some true) else ((laws_toProgram.f k l0_0).bind fun t415 => ((laws_toSeenS.f k l1).bind fun t418 => ((spec_Guess.f k t415 t418 a2 a3).bind fun t421 => ((laws_toProgram.f k l0_0).bind fun t422 => ((laws_toSeenS.f k l1).bind fun t426 => ((impl_Guess.f k t422 t426 a2 a3).bind fun t429 => (if t429 = t421 then ((laws_toProgram.f k l0_0).bind fun t430 => ((laws_eqProgram.f k t422 t430).bind fun t433 => (if t433 = true then ((laws_toSeenS.f k l1).bind fun t434 => ((laws_eqSeenS.f k t426 t434).bind fun t437 => (if t437 = true then (some true) else (some false)))) else (some false)))) else (some false)))))))))))
theorem laws_FnExactGuess.mono : ∀ a0 a1 a2 a3 k, LeO (laws_FnExactGuess.f k a0 a1 a2 a3) (laws_FnExactGuess.f (k + 1) a0 a1 a2 a3) := by
 intro a0 a1 a2 a3 k
 unfold laws_FnExactGuess.f
 with_reducible repeat' first | exact impl_Guess.mono .. | exact laws_eqProgram.mono .. | exact laws_eqSeenS.mono .. | exact laws_szProgram.mono .. | exact laws_toProgram.mono .. | exact laws_toSeenS.mono .. | exact spec_Guess.mono .. | exact LeO.refl _ | exact LeO.none _ | refine LeO.ite ?_ ?_ | refine LeO.bind ?_ (fun _ => ?_)
theorem laws_FnExactGuess.calls (k : Nat) (A0_0 : Option Addr) (c0_0 : Nat) (l0_0 : List (S165)) (A1 : Option Addr) (c1 : Nat) (l1 : List (S112)) (a2 : Int) (a3 : Int) (r : Bool) (w : World) (hr0_0 : Kd.C k165 w A0_0 l0_0.length l0_0) (hc0_0 : l0_0.length ≤ c0_0) (hr1 : Kd.C k112 w A1 l1.length l1) (hc1 : l1.length ≤ c1) (h : laws_FnExactGuess.f k l0_0 l1 a2 a3 = some r) :
  Calls Try.prog 8 #[.agg #[.slice A0_0 l0_0.length c0_0], .slice A1 l1.length c1, .int .i64 a2, .int .i64 a3] w fun e w' => e = .returned (.bool r) ∧ Below w.heap.size w w' := by
 have hu24 := Try.underlying24
 have hu30 := Try.underlying30
 have HR0_0 := am hr0_0
 have HC0_0 := am hc0_0
 clear hr0_0 hc0_0
 have HR1 := am hr1
 have HC1 := am hc1
 clear hr1 hc1
 have HB := am (Below.refl w.heap.size w)
 have H : ((laws_szProgram.f k l0_0 1048576).bind fun t413 => (if t413 < 0 then (some true) else ((laws_szSeenS.f l1 t413).bind fun t414 => (if t414 < 0 then (some true) else ((laws_toProgram.f k l0_0).bind fun t415 => ((laws_toSeenS.f k l1).bind fun t418 => ((spec_Guess.f k t415 t418 a2 a3).bind fun t421 => ((laws_toProgram.f k l0_0).bind fun t422 => ((laws_toSeenS.f k l1).bind fun t426 => ((impl_Guess.f k t422 t426 a2 a3).bind fun t429 => (if t429 = t421 then ((laws_toProgram.f k l0_0).bind fun t430 => ((laws_eqProgram.f k t422 t430).bind fun t433 => (if t433 = true then ((laws_toSeenS.f k l1).bind fun t434 => ((laws_eqSeenS.f k t426 t434).bind fun t437 => (if t437 = true then (some true) else (some false)))) else (some false)))) else (some false)))))))))))) = some r := h
 clear h
 refine be H ?_; clear H; intro t413 A5 H
 have HC6 := am H
 clear H
 go_enter Try.func8, Try.ntmps8
 go_upto_if 18 with (first | ((with_reducible refine gd 4 rfl ?_); refine bX 4 #[.slice A0_0 l0_0.length c0_0] 24 HB ?_; clear HB; intro gb412 w7 hg hb BK412 GW412 HB; clear hb hg; have hcz8 := bK w7 BK412; have hfz8 := bF BK412) | ((with_reducible refine gk 14 rfl ?_); refine gB 14 (some 16) Try.func14 #[.agg #[.slice A0_0 l0_0.length c0_0], .int .i64 1048576] (laws_szProgram.calls k _ _ l0_0 1048576 t413 _ (cc (Kd.C_below HR0_0.out HB.out)) HC0_0.out A5.out) ?_; intro w9 hb; replace BK412 := bb BK412 hb; replace HB := bs HB hb; clear hb))
 (try simp only [Act.put, sa, sz, ss])
 have H := HC6.out
 clear HC6
 refine qI H ?_ ?_ <;> clear H <;> intro c10b0 H
 ·(first | rw [c10b0] | (simp only [i64_w, i32_w]; rw [c10b0]) | skip)
  obtain rfl := Option.some.inj H
  go_wp2
  go_ret
  exact ⟨er, bw HB⟩
 (first | rw [c10b0] | (simp only [i64_w, i32_w]; rw [c10b0]) | skip)
 refine be H ?_; clear H; intro t414 A11 H
 have HC12 := am H
 clear H
 go_upto_if 23 with (first | ((with_reducible refine gk 27 rfl ?_); refine gD 27 (some 21) Try.func27 #[.slice A1 l1.length c1, .int .i64 t413] (laws_szSeenS.calls _ _ l1 t413 t414 _ (cc (Kd.C_below HR1.out HB.out)) HC1.out A11.out) ?_; intro nd))
 (try simp only [Act.put, sa, sz, ss])
 (try simp only [World.drewN_drewN])
 generalize hq_ : World.drewN w9 _ = w13
 replace BK412 : Aside0 (w13.heap[gb412]? = some (.cells #[.slice A0_0 l0_0.length c0_0] 24 (0, 0))) := ⟨by rw [← hq_]; exact (bp BK412)⟩
 replace HB : Aside0 (Below w.heap.size w w13) := ⟨by rw [← hq_]; exact (bw HB)⟩
 clear hq_
 have H := HC12.out
 clear HC12
 refine qI H ?_ ?_ <;> clear H <;> intro c14b0 H
 ·(first | rw [c14b0] | (simp only [i64_w, i32_w]; rw [c14b0]) | skip)
  obtain rfl := Option.some.inj H
  go_wp2
  go_ret
  exact ⟨er, bw HB⟩
 (first | rw [c14b0] | (simp only [i64_w, i32_w]; rw [c14b0]) | skip)
 refine be H ?_; clear H; intro t415 A15 H
 refine be H ?_; clear H; intro t418 A16 H
 refine be H ?_; clear H; intro t421 A17 H
 refine be H ?_; clear H; intro t422 A18 H
 refine be H ?_; clear H; intro t426 A19 H
 refine be H ?_; clear H; intro t429 A20 H
 have HC21 := am H
 clear H
 have hcz22 := bK w13 BK412
 have hfz22 := bF BK412
 go_upto_if 42 with (first | ((with_reducible refine gk 16 rfl ?_); refine gC 16 (some 25) Try.func16 #[.agg #[.slice A0_0 l0_0.length c0_0]] ((laws_toProgram.calls k _ _ l0_0 t415 _ (cc (Kd.C_below HR0_0.out HB.out)) HC0_0.out A15.out).mono ?_); rintro e w23 ⟨v416, rfl, ho0, hb⟩; refine ⟨_, rfl, ?_⟩; have HO417 := am (Kd.S_lower ho0 (below_size (bw HB))); replace BK412 := bb BK412 hb; replace HB := bs HB hb; clear hb; (try clear ho0)) | ((with_reducible refine gk 29 rfl ?_); refine gC 29 (some 27) Try.func29 #[.slice A1 l1.length c1] ((laws_toSeenS.calls k _ _ l1 t418 _ (cc (Kd.C_below HR1.out HB.out)) HC1.out A16.out).mono ?_); rintro e w24 ⟨v419, rfl, ho0, hb⟩; refine ⟨_, rfl, ?_⟩; replace HO417 := am (Kd.S_below (kS HO417) hb); have HO420 := am (Kd.R_lower ho0 (below_size (bw HB))); replace BK412 := bb BK412 hb; replace HB := bs HB hb; clear hb; (try clear ho0); obtain ⟨Ao25, co25, eo25⟩ := Kd.S_slice HO417.out; subst eo25; obtain ⟨Ao26, co26, eo26⟩ := Kd.R_slice HO420.out; subst eo26) | ((with_reducible refine gk 34 rfl ?_); refine gB 34 (some 30) Try.func34 #[.agg #[.slice Ao25 t415.length co25], .slice Ao26 t418.length co26, .int .i64 a2, .int .i64 a3] (spec_Guess.calls k _ _ t415 _ _ t418 a2 a3 t421 _ (cc (Kd.S_reads' HO417.out).2.2) ((Kd.S_reads' HO417.out).2.1) (cc (Kd.R_reads' HO420.out).2.2) ((Kd.R_reads' HO420.out).2.1) A17.out) ?_; intro w27 hb; replace HO417 := am (Kd.S_below (kS HO417) hb); replace HO420 := am (Kd.R_below (kR HO420) hb); replace BK412 := bb BK412 hb; replace HB := bs HB hb; clear hb; have hcz28 := bK w27 BK412; have hfz28 := bF BK412) | ((with_reducible refine gk 16 rfl ?_); refine gC 16 (some 32) Try.func16 #[.agg #[.slice A0_0 l0_0.length c0_0]] ((laws_toProgram.calls k _ _ l0_0 t422 _ (cc (Kd.C_below HR0_0.out HB.out)) HC0_0.out A18.out).mono ?_); rintro e w29 ⟨v423, rfl, ho0, hb⟩; refine ⟨_, rfl, ?_⟩; replace HO420 := am (Kd.R_below (kR HO420) hb); have HO424 := am (Kd.S_lower (Kd.S_new' ho0 (Kd.S_lt (kS HO417))) (below_size (bw HB))); replace HO417 := am (Kd.S_elder' (kS HO417) (Kd.S_base ho0) hb); replace BK412 := bb BK412 hb; replace HB := bs HB hb; clear hb; (try clear ho0)) | ((with_reducible refine gd 11 rfl ?_); refine bX 11 #[.slice none 0 0] 30 HB ?_; clear HB; intro gb425 w30 hg hb BK425 GW425 HB; replace HO417 := am (Kd.S_below (kS HO417) hb); replace HO420 := am (Kd.R_below (kR HO420) hb); replace HO424 := am (Kd.S_below (kS HO424) hb); obtain ⟨NB412_425, NB425_412, BK412⟩ := b3 hg BK412 hb; clear hb hg; obtain ⟨Ao31, co31, eo31⟩ := Kd.S_slice HO424.out; subst eo31; have hnb32 := NB425_412.out; have hnc32 := NB412_425.out; have hcz33 := bK w30 BK425; have hfz33 := bF BK425) | ((with_reducible refine gk 29 rfl ?_); refine gC 29 (some 34) Try.func29 #[.slice A1 l1.length c1] ((laws_toSeenS.calls k _ _ l1 t426 _ (Kd.C_below HR1.out (bw HB)) HC1.out A19.out).mono ?_); rintro e w34 ⟨v427, rfl, ho0, hb⟩; refine ⟨_, rfl, ?_⟩; replace HO417 := am (Kd.S_below (by (with_reducible repeat (first | apply Kd.S_alloc | apply Kd.S_drewN | apply Kd.S_drew)); exact (Kd.S_mono (Kd.S_far (p := ⟨gb425, 0, none⟩) (Kd.S_types HO417.out BK425.out (by decide)) (fun _ hk => hk.2) (.slice Ao31 t422.length co31)) (fun _ h_ => h_.1))) hb); replace HO424 := am (Kd.S_below (by (with_reducible repeat (first | apply Kd.S_alloc | apply Kd.S_drewN | apply Kd.S_drew)); exact (Kd.S_mono (Kd.S_far (p := ⟨gb425, 0, none⟩) (Kd.S_types HO424.out BK425.out (by decide)) (fun _ hk => hk.2) (.slice Ao31 t422.length co31)) (fun _ h_ => h_.1))) hb); have HO428 := am (Kd.R_lower (Kd.R_new' ho0 (Kd.R_lt (by (with_reducible repeat (first | apply Kd.R_alloc | apply Kd.R_drewN | apply Kd.R_drew)); exact (Kd.R_mono (Kd.R_far (p := ⟨gb425, 0, none⟩) (Kd.R_types HO420.out BK425.out (by decide)) (fun _ hk => hk.2) (.slice Ao31 t422.length co31)) (fun _ h_ => h_.1))))) (below_size (bw HB))); replace HO420 := am (Kd.R_elder' (by (with_reducible repeat (first | apply Kd.R_alloc | apply Kd.R_drewN | apply Kd.R_drew)); exact (Kd.R_mono (Kd.R_far (p := ⟨gb425, 0, none⟩) (Kd.R_types HO420.out BK425.out (by decide)) (fun _ hk => hk.2) (.slice Ao31 t422.length co31)) (fun _ h_ => h_.1))) (Kd.R_base ho0) hb); replace BK412 := bb2 BK412 hb; replace BK425 := bo #[.slice Ao31 t422.length co31] BK425 hb; replace HB := bs HB hb; clear hb; (try clear ho0); have hcz35 := bK w34 BK425; have hfz35 := bF BK425; obtain ⟨Ao36, co36, eo36⟩ := Kd.R_slice HO428.out; subst eo36) | ((with_reducible refine gk 35 rfl ?_); refine gB 35 (some 39) Try.func35 #[.agg #[.slice Ao31 t422.length co31], .slice Ao36 t426.length co36, .int .i64 a2, .int .i64 a3] (impl_Guess.calls k _ _ t422 _ _ t426 a2 a3 t429 _ (cc (Kd.S_reads' HO424.out).2.2) ((Kd.S_reads' HO424.out).2.1) (cc (Kd.R_reads' HO428.out).2.2) ((Kd.R_reads' HO428.out).2.1) A20.out) ?_; intro w37 hb; replace HO417 := am (Kd.S_below (kS HO417) hb); replace HO420 := am (Kd.R_below (kR HO420) hb); replace HO424 := am (Kd.S_below (kS HO424) hb); replace HO428 := am (Kd.R_below (kR HO428) hb); replace BK412 := bb BK412 hb; replace BK425 := bb BK425 hb; replace HB := bs HB hb; clear hb))
 (try simp only [Act.put, sa, sz, ss])
 have H := HC21.out
 clear HC21
 refine qE H ?_ ?_ <;> clear H
 ·intro c38b0 c38b1 H
  (first | rw [c38b0] | (simp only [i64_w, i32_w]; rw [c38b0]) | skip)
  refine be H ?_; clear H; intro t430 A39 H
  refine be H ?_; clear H; intro t433 A40 H
  have HC41 := am H
  clear H
  try go_wp2
  replace HO417 := am (Kd.S_drew HO417.out)
  replace HO420 := am (Kd.R_drew HO420.out)
  replace HO424 := am (Kd.S_drew HO424.out)
  replace HO428 := am (Kd.R_drew HO428.out)
  replace BK412 := am (blk_drew BK412.out)
  replace BK425 := am (blk_drew BK425.out)
  replace HB := am (below_drew1 HB.out)
  refine start_ (n := 5) (S := fun w' => w'.cell? ⟨gb425, 0, none⟩ = some (.slice Ao31 t422.length co31) ∧ w'.cell? ⟨gb412, 0, none⟩ = some (.slice A0_0 l0_0.length c0_0)) (ds := []) (bv 5 0) (by kernel_rfl) rfl (by kernel_rfl) ⟨bc BK425 0, bc BK412 0⟩ (fun hHeld => ?_)
  generalize w37.drew = w42 at HO417 HO420 HO424 HO428 BK412 BK425 HB hHeld ⊢
  refine take_ (i := 0) (N := some 43) (v := ?_) (a' := ?_) (bv 5 1) rfl rfl (by kernel_rfl) (fun _ _ _ h => h) (Or.inl ⟨by rfl, ?_⟩) hHeld ?_ ?_
  rotate_left
  ·rintro w' ⟨s0, s1⟩
   go_simp
   with_reducible rfl
  rotate_left
  ·simp only [Act.put, sa, sz, ss, i64_w, i32_w]
   rfl
  refine take_ (i := 1) (N := some 44) (v := ?_) (a' := ?_) (bv 5 3) rfl rfl (by kernel_rfl) (fun _ _ _ h => h) (Or.inl ⟨by rfl, ?_⟩) hHeld ?_ ?_
  rotate_left
  ·rintro w' ⟨s0, s1⟩
   go_simp
   with_reducible rfl
  rotate_left
  ·simp only [Act.put, sa, sz, ss, i64_w, i32_w]
   rfl
  refine one_ (i := 2) (N := some 45) (bv 5 7) rfl rfl (by kernel_rfl) (by decide) (fun K hK => ?_)
  refine goes_ Try.func16 (by kernel_rfl) rfl #[.agg #[.slice A0_0 l0_0.length c0_0]] (by rfl) rfl rfl gl ?_
  with_reducible refine (laws_toProgram.calls k _ _ l0_0 t430 _ ?side1 ?side2 A39.out).mono ?_
  (case side1 => exact cc (Kd.C_below HR0_0.out HB.out))
  (case side2 => exact HC0_0.out)
  rintro e w43 ⟨v431, rfl, ho0, hb⟩
  refine ⟨_, rfl, ?_⟩
  have n0_ := am (Kd.S_elder' (kS HO417) (Kd.S_base ho0) hb)
  have n1_ := am (Kd.R_below (kR HO420) hb)
  have n2_ := am (Kd.S_elder' (kS HO424) (Kd.S_base ho0) hb)
  have n3_ := am (Kd.R_below (kR HO428) hb)
  have n4_ := am (Kd.S_lower (Kd.S_new' (Kd.S_new' ho0 (Kd.S_lt (kS HO417))) (Kd.S_lt (kS HO424))) (below_size (bw HB)))
  have n5_ := bb BK412 hb
  have n6_ := bb BK425 hb
  have n7_ := am (below_step (bw HB) hb)
  clear HO417
  clear HO420
  clear HO424
  clear HO428
  clear BK412
  clear BK425
  clear HB
  have HO417 := n0_
  have HO420 := n1_
  have HO424 := n2_
  have HO428 := n3_
  have HO432 := n4_
  have BK412 := n5_
  have BK425 := n6_
  have HB := n7_
  clear n0_ n1_ n2_ n3_ n4_ n5_ n6_ n7_
  clear hb
  (try clear ho0)
  obtain ⟨Ao44, co44, eo44⟩ := Kd.S_slice HO432.out
  (first | subst eo44 | (injection eo44 with f1_ f2_ f3_; have f4_ := f1_.symm; have f5_ := f3_.symm; clear f1_ f2_ f3_; subst f4_; subst f5_))
  refine hK.out _ _ ⟨bc BK425 0, bc BK412 0⟩ (fun hHeld => ?_)
  clear hK K
  refine nm (some 45) ?_
  refine one_ (i := 3) (N := some 46) (bv 5 15) rfl rfl (by kernel_rfl) (by decide) (fun K hK => ?_)
  refine goes_ Try.func19 (by kernel_rfl) rfl #[.agg #[.slice Ao31 t422.length co31], .agg #[.slice Ao44 t430.length co44]] (by rfl) rfl rfl gl ?_
  with_reducible refine (laws_eqProgram.calls k _ _ t422 _ _ t430 t433 _ ?side1 ?side2 ?side3 ?side4 A40.out).mono ?_
  (case side1 => exact cc (Kd.S_reads' HO424.out).2.2)
  (case side2 => exact (Kd.S_reads' HO424.out).2.1)
  (case side3 => exact cc (Kd.S_reads' HO432.out).2.2)
  (case side4 => exact (Kd.S_reads' HO432.out).2.1)
  rintro e w45 ⟨rfl, hb⟩
  refine ⟨_, rfl, ?_⟩
  replace HO417 := am (Kd.S_below (kS HO417) hb)
  replace HO420 := am (Kd.R_below (kR HO420) hb)
  replace HO424 := am (Kd.S_below (kS HO424) hb)
  replace HO428 := am (Kd.R_below (kR HO428) hb)
  replace HO432 := am (Kd.S_below (kS HO432) hb)
  replace BK412 := bb BK412 hb
  replace BK425 := bb BK425 hb
  replace HB := am (below_step (bw HB) hb)
  clear hb
  refine hK.out _ _ ⟨bc BK425 0, bc BK412 0⟩ (fun hHeld => ?_)
  clear hK K
  refine nm (some 46) ?_
  refine pure_ (i := 4) (N := some 47) (v := ?_) (a' := ?_) (bv 5 31) rfl rfl (by kernel_rfl) (fun _ _ _ h => h) (Or.inl ⟨by rfl, ?_⟩) ?_ ?_
  rotate_left
  ·intro w'
   go_simp
   with_reducible rfl
  rotate_left
  ·simp only [Act.put, sa, sz, ss, i64_w, i32_w]
   rfl
  refine done_ (by kernel_rfl) ?_
  go_upto_if 47 with (fail)
  (try simp only [Act.put, sa, sz, ss])
  have H := HC41.out
  clear HC41
  refine qT H ?_ ?_ <;> clear H <;> intro c46 H <;> subst c46
  ·refine be H ?_; clear H; intro t434 A47 H
   refine be H ?_; clear H; intro t437 A48 H
   have HC49 := am H
   clear H
   have nd0_ := am (Kd.R_mono (ok' := (fun _ => True)) (HO428.out) (fun k_ hk_ => trivial))
   (try clear HO417)
   (try clear HO420)
   (try clear HO424)
   (try clear HO432)
   (try clear HO428)
   have HO428 := nd0_
   clear nd0_
   go_upto_if 52 with (first | ((with_reducible refine gk 29 rfl ?_); refine gC 29 (some 50) Try.func29 #[.slice A1 l1.length c1] ((laws_toSeenS.calls k _ _ l1 t434 _ (cc (Kd.C_below HR1.out HB.out)) HC1.out A47.out).mono ?_); rintro e w50 ⟨v435, rfl, ho0, hb⟩; refine ⟨_, rfl, ?_⟩; have HO436 := am (Kd.R_lower (Kd.R_new' ho0 (Kd.R_lt (kR HO428))) (below_size (bw HB))); replace HO428 := am (Kd.R_elder' (kR HO428) (Kd.R_base ho0) hb); replace BK412 := bb BK412 hb; replace BK425 := bb BK425 hb; replace HB := bs HB hb; clear hb; (try clear ho0); obtain ⟨Ao51, co51, eo51⟩ := Kd.R_slice HO436.out; subst eo51) | ((with_reducible refine gk 31 rfl ?_); refine gB 31 (some 51) Try.func31 #[.slice Ao36 t426.length co36, .slice Ao51 t434.length co51] (laws_eqSeenS.calls k _ _ t426 _ _ t434 t437 _ (cc (Kd.R_reads' HO428.out).2.2) ((Kd.R_reads' HO428.out).2.1) (cc (Kd.R_reads' HO436.out).2.2) ((Kd.R_reads' HO436.out).2.1) A48.out) ?_; intro w52 hb; replace HO428 := am (Kd.R_below (kR HO428) hb); replace HO436 := am (Kd.R_below (kR HO436) hb); replace BK412 := bb BK412 hb; replace BK425 := bb BK425 hb; replace HB := bs HB hb; clear hb))
   (try simp only [Act.put, sa, sz, ss])
   have H := HC49.out
   clear HC49
   refine qT H ?_ ?_ <;> clear H <;> intro c53 H <;> subst c53
   ·obtain rfl := Option.some.inj H
    go_wp2
    go_ret
    exact ⟨er, bw HB⟩
   obtain rfl := Option.some.inj H
   go_wp2
   go_ret
   exact ⟨er, bw HB⟩
  obtain rfl := Option.some.inj H
  go_wp2
  go_ret
  exact ⟨er, bw HB⟩
 intro c38 c38b0 c38b1 H
 (first | rw [c38b0] | (simp only [i64_w, i32_w]; rw [c38b0]) | skip)
 obtain rfl := Option.some.inj H
 go_wp2
 go_ret
 exact ⟨er, bw HB⟩

end Go.Proofs.Ytbmjmaahcaoajaa.QFnExactGuess
