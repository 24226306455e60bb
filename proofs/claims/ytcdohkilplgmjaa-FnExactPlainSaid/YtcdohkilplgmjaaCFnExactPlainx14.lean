import Derived.Test.YtcdohkilplgmjaaCFnExactPlainx0
import Derived.Test.YtcdohkilplgmjaaCFnExactPlainx11
import Derived.Test.YtcdohkilplgmjaaCFnExactPlainx13
namespace Go.Proofs.Ytcdohkilplgmjaa.QFnExactPlain
open Go.RowKit Go.Proofs.YtcdohkilplgmjaaW
open PrintWords PrintLast PrintMore PrintShort PrintIsh
attribute [local go_sem] max2_int min2_int max_two min_two max_three min_three max_four min_four   -- for this text's walks alone
set_option linter.unusedVariables false
set_option maxHeartbeats 8000000
set_option maxRecDepth 100000
set_option linter.unusedSimpArgs false

def impl_Plain.f (k : Nat) (l0_0 : List (S53)) (a1 : Int) : Option (Int × (List (S50)) × (List (List (S55)))) := (impl_knownFunc.f k l0_0 a1).bind fun bt518 => (if bt518.2.2 = true then ((impl_prog_plain.f k bt518.1 bt518.2.1 a1).bind fun bt526 => (some (bt526.1, bt526.2.1, bt526.2.2))) else (some (0, ([] : List (S50)), ([] : List (List (S55))))))
theorem impl_Plain.mono : ∀ a0 a1 k, LeO (impl_Plain.f k a0 a1) (impl_Plain.f (k + 1) a0 a1) := by
 intro a0 a1 k
 unfold impl_Plain.f
 with_reducible repeat' first | exact impl_knownFunc.mono .. | exact impl_prog_plain.mono .. | exact LeO.refl _ | exact LeO.none _ | refine LeO.ite ?_ ?_ | refine LeO.bind ?_ (fun _ => ?_)
theorem impl_Plain.calls (k : Nat) (A0_0 : Option Addr) (c0_0 : Nat) (l0_0 : List (S53)) (a1 : Int) (r1 : Int) (r2 : List (S50)) (r3 : List (List (S55))) (w : World) (hr0_0 : Kd.C k53 w A0_0 l0_0.length l0_0) (hc0_0 : l0_0.length ≤ c0_0) (h : impl_Plain.f k l0_0 a1 = some (r1, r2, r3)) :
  Calls Try.prog 7 #[.agg #[.slice A0_0 l0_0.length c0_0], .int .i64 a1] w fun e w' => ∃ (D : Nat → Prop) (v1_ v2_ : Value), e = .returned (.agg #[.int .i64 r1, v1_, v2_]) ∧ Kd.S (rk D k50) 50 w' w.heap.size (fun _ => True) v1_ r2 ∧ Kd.S (rk (nD D) (Kd.slice 55 k55)) 47 w' w.heap.size (fun _ => True) v2_ r3 ∧ Below w.heap.size w w' := by
 have hu33 := Try.underlying33
 have hu29 := Try.underlying29
 have HR0_0 := am hr0_0
 have HC0_0 := am hc0_0
 clear hr0_0 hc0_0
 have HB := am (Below.refl w.heap.size w)
 have H : ((impl_knownFunc.f k l0_0 a1).bind fun bt518 => (if bt518.2.2 = true then ((impl_prog_plain.f k bt518.1 bt518.2.1 a1).bind fun bt526 => (some (bt526.1, bt526.2.1, bt526.2.2))) else (some (0, ([] : List (S50)), ([] : List (List (S55))))))) = some (r1, r2, r3) := h
 clear h
 replace H := Option.bind_eq_some_iff.mp H
 obtain ⟨⟨t518, t521, t525⟩, A30, H⟩ := H
 replace H : (if t525 = true then ((impl_prog_plain.f k t518 t521 a1).bind fun bt526 => (some (bt526.1, bt526.2.1, bt526.2.2))) else (some (0, ([] : List (S50)), ([] : List (List (S55)))))) = some (r1, r2, r3) := H
 have A3 := am A30
 clear A30
 have HC4 := am H
 clear H
 go_enter Try.func7, Try.ntmps7
 go_upto_if 14 with (first | ((with_reducible refine gd 2 rfl ?_); refine bX 2 #[.slice A0_0 l0_0.length c0_0] 33 HB ?_; clear HB; intro gb516 w5 hg hb BK516 GW516 HB; clear hb hg) | ((with_reducible refine gd 4 rfl ?_); refine bX 4 #[.int .i64 0, .slice none 0 0, .slice none 0 0] 29 HB ?_; clear HB; intro gb517 w6 hg hb BK517 GW517 HB; obtain ⟨NB516_517, NB517_516, BK516⟩ := b3 hg BK516 hb; clear hb hg; have hnb7 := NB516_517.out; have hnc7 := NB517_516.out; have hcz8 := bK w6 BK516; have hfz8 := bF BK516) | ((with_reducible refine gk 19 rfl ?_); refine gC 19 (some 10) Try.func19 #[.agg #[.slice A0_0 l0_0.length c0_0], .int .i64 a1] ((impl_knownFunc.calls k (fun k_ => k_ < w.heap.size) _ _ l0_0 a1 t518 t521 t525 _ (Kd.V_mk HC0_0.out (Kd.F_below (Kd.C_F k53_heap HR0_0.out) (bw HB))) A3.out).mono ?_); rintro e w9 ⟨v519, v522, gb524, rfl, ho0, ho1, hbx, hgx, hb⟩; refine ⟨_, rfl, ?_⟩; have HO520 := am (Kd.V_lower (Kd.V_mono (ok' := fun k_ => some k_ ≠ (v522 : Value).ownBlock ∧ k_ ≠ gb516 ∧ k_ ≠ gb517) ho0 (fun k_ hk_ => ⟨hk_.2, Or.elim hk_.1 (fun hs_ => fun e_ => Nat.not_le.2 hs_ (by rw [e_]; exact GW516.out)) (fun hn_ => (Kd.freshB (g := gb516) (o := .cells #[.slice A0_0 l0_0.length c0_0] 33 (0, 0)) (bp BK516) k_ hn_)), Or.elim hk_.1 (fun hs_ => fun e_ => Nat.not_le.2 hs_ (by rw [e_]; exact GW517.out)) (fun hn_ => (Kd.freshB (g := gb517) (o := .cells #[.int .i64 0, .slice none 0 0, .slice none 0 0] 29 (0, 0)) (bp BK517) k_ hn_))⟩)) (below_size (bw HB))); have HO523 := am (Kd.S_lower (Kd.S_mono (ok' := fun k_ => True) ho1 (fun _ hk_ => trivial)) (below_size (bw HB))); have BK524 := am (hbx); have GW524 := am ((Nat.le_trans (below_size (bw HB)) hgx)); have GE524 := am ((Nat.le_trans (below_size (bw HB)) hgx)); have NB516_524 := am ((Nat.ne_of_lt (Nat.lt_of_lt_of_le (blk_lt (g := gb516) (o := .cells #[.slice A0_0 l0_0.length c0_0] 33 (0, 0)) (bp BK516)) hgx) : gb516 ≠ gb524)); have NB524_516 := am ((Nat.ne_of_gt (Nat.lt_of_lt_of_le (blk_lt (g := gb516) (o := .cells #[.slice A0_0 l0_0.length c0_0] 33 (0, 0)) (bp BK516)) hgx) : gb524 ≠ gb516)); replace BK516 := bb BK516 hb; have NB517_524 := am ((Nat.ne_of_lt (Nat.lt_of_lt_of_le (blk_lt (g := gb517) (o := .cells #[.int .i64 0, .slice none 0 0, .slice none 0 0] 29 (0, 0)) (bp BK517)) hgx) : gb517 ≠ gb524)); have NB524_517 := am ((Nat.ne_of_gt (Nat.lt_of_lt_of_le (blk_lt (g := gb517) (o := .cells #[.int .i64 0, .slice none 0 0, .slice none 0 0] 29 (0, 0)) (bp BK517)) hgx) : gb524 ≠ gb517)); replace BK517 := bb BK517 hb; replace HB := bs HB hb; clear hb; (try clear ho0); (try clear ho1); (try clear hbx); (try clear hgx)))
 (try simp only [Act.put, sa, sz, ss])
 have H := HC4.out
 clear HC4
 refine qT H ?_ ?_ <;> clear H <;> intro c10 H <;> subst c10
 ·replace H := Option.bind_eq_some_iff.mp H
  obtain ⟨⟨t526, t527, t530⟩, A110, H⟩ := H
  replace H : (some (t526, t527, t530)) = some (r1, r2, r3) := H
  have A11 := am A110
  clear A110
  simp only [Option.some.injEq, Prod.mk.injEq] at H
  obtain ⟨rfl, rfl, rfl⟩ := H
  obtain ⟨Ao12, co12, eo12⟩ := Kd.V_slice HO520.out
  subst eo12
  obtain ⟨Ao13, co13, eo13⟩ := Kd.S_slice HO523.out
  subst eo13
  go_wp2_with (first | ((with_reducible refine gk 20 rfl ?_); refine gC 20 (some 18) Try.func20 #[.pointer (some ⟨gb524, 0, none⟩), .int .i64 a1] ((impl_prog_plain.calls k gb524 Ao12 co12 t518 Ao13 co13 t521 a1 t526 t527 t530 _ (bp BK524) (cc (Kd.V_reads' HO520.out).2.2) ((Kd.V_reads' HO520.out).2.1) (cc (Kd.S_reads' HO523.out).2.2) ((Kd.S_reads' HO523.out).2.1) A11.out).mono ?_); rintro e w14 ⟨D, v528, v531, rfl, ho0, ho1, hb⟩; refine ⟨_, rfl, ?_⟩; replace HO520 := am (Kd.V_mono (Kd.V_told (Kd.V_told (Kd.V_old (kV HO520) hb) (Kd.S_base ho0)) (Kd.S_base ho1)) (fun _ h_ => h_.1)); replace HO523 := am (Kd.S_below (kS HO523) hb); have HO529 := am (Kd.S_lower ho0 (below_size (bw HB))); have HO532 := am (Kd.S_lower ho1 (below_size (bw HB))); replace BK516 := bb BK516 hb; replace BK517 := bb BK517 hb; replace BK524 := bb BK524 hb; replace HB := bs HB hb; clear hb; (try clear ho0); (try clear ho1); have hnb15 := NB517_516.out; have hnc15 := NB516_517.out; have hnb16 := NB517_524.out; have hnc16 := NB524_517.out; have hcz17 := bK w14 BK517; have hfz17 := bF BK517; obtain ⟨Ao18, co18, eo18⟩ := Kd.S_slice HO529.out; subst eo18; obtain ⟨Ao19, co19, eo19⟩ := Kd.S_slice HO532.out; subst eo19))
  refine bodyPost_ret (results_cell_row rfl _ _ gb517 29 #[.int .i64 t526, .slice Ao18 t527.length co18, .slice Ao19 t530.length co19] (0, 0) _ rfl (bt BK517) Try.underlying29 rfl (by kernel_rfl)) rfl ?_
  exact ⟨D, _, _, er, by (with_reducible repeat (first | apply Kd.S_alloc | apply Kd.S_drewN | apply Kd.S_drew)); exact Kd.S_mono (Kd.S_far (p := ⟨gb517, 2, none⟩) (Kd.S_far (p := ⟨gb517, 1, none⟩) (Kd.S_far (p := ⟨gb517, 0, none⟩) (Kd.S_types HO529.out BK517.out (rkE (by decide))) (fun _ hk => hk.2) (.int .i64 t526)) (fun _ hk => hk.2) (.slice Ao18 t527.length co18)) (fun _ hk => hk.2) (.slice Ao19 t530.length co19)) (fun _ hk => trivial), by (with_reducible repeat (first | apply Kd.S_alloc | apply Kd.S_drewN | apply Kd.S_drew)); exact Kd.S_mono (Kd.S_far (p := ⟨gb517, 2, none⟩) (Kd.S_far (p := ⟨gb517, 1, none⟩) (Kd.S_far (p := ⟨gb517, 0, none⟩) (Kd.S_types HO532.out BK517.out (rkE (by decide))) (fun _ hk => hk.2) (.int .i64 t526)) (fun _ hk => hk.2) (.slice Ao18 t527.length co18)) (fun _ hk => hk.2) (.slice Ao19 t530.length co19)) (fun _ hk => trivial), bw HB⟩
 simp only [Option.some.injEq, Prod.mk.injEq] at H
 obtain ⟨rfl, rfl, rfl⟩ := H
 have hnb20 := NB517_516.out
 have hnc20 := NB516_517.out
 have hnb21 := NB517_524.out
 have hnc21 := NB524_517.out
 have hcz22 := bK w9 BK517
 have hfz22 := bF BK517
 go_wp2
 refine bodyPost_ret (results_cell_row rfl _ _ gb517 29 #[.int .i64 0, .slice none 0 0, .slice none 0 0] (0, 0) _ rfl (bt BK517) Try.underlying29 rfl (by kernel_rfl)) rfl ?_
 exact ⟨fun _ => True, _, _, er, by first | exact Kd.S_nil _ _ _ _ _ | exact Kd.N_nil _ _ _ _ _ | exact Kd.V_nil _ _ _ _ _ | exact Kd.Q_nil _ _ _ _ _ | exact Kd.R_nil _ _ _ _ _, by first | exact Kd.S_nil _ _ _ _ _ | exact Kd.N_nil _ _ _ _ _ | exact Kd.V_nil _ _ _ _ _ | exact Kd.Q_nil _ _ _ _ _ | exact Kd.R_nil _ _ _ _ _, bw HB⟩

def laws_eqVal.f (a0_0 : Int) (a0_1 : Int) (a1_0 : Int) (a1_1 : Int) : Option (Bool) := if a0_0 = a1_0 then (if a0_1 = a1_1 then (some true) else (some false)) else (some false)
theorem laws_eqVal.calls (a0_0 : Int) (a0_1 : Int) (a1_0 : Int) (a1_1 : Int) (r : Bool) (w : World) (h : laws_eqVal.f a0_0 a0_1 a1_0 a1_1 = some r) :
  Calls Try.prog 66 #[.agg #[.int .i64 a0_0, .int .i64 a0_1], .agg #[.int .i64 a1_0, .int .i64 a1_1]] w fun e w' => e = .returned (.bool r) ∧ Below w.heap.size w w' := by
 have hu55 := Try.underlying55
 have HB := am (Below.refl w.heap.size w)
 have H : (if a0_0 = a1_0 then (if a0_1 = a1_1 then (some true) else (some false)) else (some false)) = some r := h
 clear h
 have HC3 := am H
 clear H
 go_enter Try.func66, Try.ntmps66
 go_upto_if 9 with (first | ((with_reducible refine gd 2 rfl ?_); refine bX 2 #[.int .i64 a0_0, .int .i64 a0_1] 55 HB ?_; clear HB; intro gb533 w4 hg hb BK533 GW533 HB; clear hb hg) | ((with_reducible refine gd 3 rfl ?_); refine bX 3 #[.int .i64 a1_0, .int .i64 a1_1] 55 HB ?_; clear HB; intro gb534 w5 hg hb BK534 GW534 HB; obtain ⟨NB533_534, NB534_533, BK533⟩ := b3 hg BK533 hb; clear hb hg; have hnb6 := NB533_534.out; have hnc6 := NB534_533.out; have hcz7 := bK w5 BK533; have hfz7 := bF BK533; have hcz8 := bK w5 BK534; have hfz8 := bF BK534))
 (try simp only [Act.put, sa, sz, ss])
 have H := HC3.out
 clear HC3
 refine qE H ?_ ?_ <;> clear H
 ·intro c9b0 c9b1 H
  (first | rw [c9b0] | (simp only [i64_w, i32_w]; rw [c9b0]) | skip)
  refine qE H ?_ ?_ <;> clear H
  ·intro c10b0 c10b1 H
   obtain rfl := Option.some.inj H
   have hnb11 := NB533_534.out
   have hnc11 := NB534_533.out
   have hcz12 := bK w5 BK533
   have hfz12 := bF BK533
   have hcz13 := bK w5 BK534
   have hfz13 := bF BK534
   go_wp2
   go_ret
   exact ⟨er, bw HB⟩
  intro c10 c10b0 c10b1 H
  obtain rfl := Option.some.inj H
  have hnb14 := NB533_534.out
  have hnc14 := NB534_533.out
  have hcz15 := bK w5 BK533
  have hfz15 := bF BK533
  have hcz16 := bK w5 BK534
  have hfz16 := bF BK534
  go_wp2
  go_ret
  exact ⟨er, bw HB⟩
 intro c9 c9b0 c9b1 H
 (first | rw [c9b0] | (simp only [i64_w, i32_w]; rw [c9b0]) | skip)
 obtain rfl := Option.some.inj H
 go_wp2
 go_ret
 exact ⟨er, bw HB⟩

def laws_eqValS.l0 : Nat → List (S55) → List (S55) → Int → Option (Bool)
 | 0, _, _, _ => none
 | k + 1, x0, x1, x5 => if x5 < (x0.length : Int) then (if 0 ≤ x5 then (if x5 < (x1.length : Int) then ((laws_eqVal.f ((rd_T55 x0 x5).f0) ((rd_T55 x0 x5).f1) ((rd_T55 x1 x5).f0) ((rd_T55 x1 x5).f1)).bind fun t537 => (if t537 = true then (laws_eqValS.l0 k x0 x1 (wrap64 (x5 + 1))) else (some false))) else (none)) else (none)) else (some true)
def laws_eqValS.f (k : Nat) (l0 : List (S55)) (l1 : List (S55)) : Option (Bool) := if (l0.length : Int) = (l1.length : Int) then (laws_eqValS.l0 k l0 l1 0) else (some false)
theorem laws_eqValS.mono_l : ∀ k, (∀ y0 y1 y2, LeO (laws_eqValS.l0 k y0 y1 y2) (laws_eqValS.l0 (k + 1) y0 y1 y2))
 | 0 => fun _ _ _ r h => by simp [laws_eqValS.l0] at h
 | k + 1 => by
  have ih0 := laws_eqValS.mono_l k
  ·intro y0 y1 y2
   unfold laws_eqValS.l0
   with_reducible repeat' first | exact ih0 .. | exact LeO.refl _ | exact LeO.none _ | refine LeO.ite ?_ ?_ | refine LeO.bind ?_ (fun _ => ?_)
theorem laws_eqValS.mono : ∀ a0 a1 k, LeO (laws_eqValS.f k a0 a1) (laws_eqValS.f (k + 1) a0 a1) := by
 intro a0 a1 k
 have ih0 := laws_eqValS.mono_l k
 unfold laws_eqValS.f
 with_reducible repeat' first | exact ih0 .. | exact LeO.refl _ | exact LeO.none _ | refine LeO.ite ?_ ?_ | refine LeO.bind ?_ (fun _ => ?_)
def laws_eqValS.T6 : Bool × List (List Nat × List Nat) := (true, [([], []), ([], []), ([0, 1], [0, 1]), ([2], [2]), ([], []), ([], []), ([4, 5], [4, 5]), ([6], [6]), ([3, 7], [3, 7]), ([8], [8])])
def laws_eqValS.B6 : List Nat := [0, 0, 3, 7, 0, 0, 48, 112, 255, 511]
theorem laws_eqValS.tab6 : rtab .any (opsOf Try.f49 6) = laws_eqValS.T6 := by kernel_rfl
theorem laws_eqValS.bits6 : waitsOk laws_eqValS.T6.2 laws_eqValS.B6 = true := by kernel_rfl
theorem laws_eqValS.calls (k : Nat) (A0 : Option Addr) (c0 : Nat) (l0 : List (S55)) (A1 : Option Addr) (c1 : Nat) (l1 : List (S55)) (r : Bool) (w : World) (hr0 : Kd.C k55 w A0 l0.length l0) (hc0 : l0.length ≤ c0) (hr1 : Kd.C k55 w A1 l1.length l1) (hc1 : l1.length ≤ c1) (h : laws_eqValS.f k l0 l1 = some r) :
  Calls Try.prog 49 #[.slice A0 l0.length c0, .slice A1 l1.length c1] w fun e w' => e = .returned (.bool r) ∧ Below w.heap.size w w' := by
 have hu55 := Try.underlying55
 have HR0 := am hr0
 have HC0 := am hc0
 clear hr0 hc0
 have HR1 := am hr1
 have HC1 := am hc1
 clear hr1 hc1
 have HB := am (Below.refl w.heap.size w)
 have H : (if (l0.length : Int) = (l1.length : Int) then (laws_eqValS.l0 k l0 l1 0) else (some false)) = some r := h
 clear h
 by_cases c3 : (l0.length : Int) = (l1.length : Int)
 ·rw [if_pos c3] at H
  have c3b0 : ((l0.length : Int) == (l1.length : Int)) = true := beq_iff_eq.mpr c3
  have c3b1 : ((l0.length : Int) != (l1.length : Int)) = false := bne_eq_false_iff_eq.mpr c3
  have c3b2 : (l0.length == l1.length) = true := by first | simpa using c3 | (simp at c3 ⊢; omega)
  clear c3
  have H' := am H
  clear H
  go_enter Try.func49, Try.ntmps49
  go_wp2
  go_loopg [5] k (fun kq v5 w' => ∃ (x5_1 : Int), v5 = .int .i64 x5_1 ∧ Aside0 (laws_eqValS.l0 kq l0 l1 x5_1 = some r) ∧ Aside0 (kq ≤ k) ∧ Aside0 (Below w.heap.size w w'))
  case atStart => exact ⟨(0), dr, H', ⟨Nat.le_refl _⟩, ⟨bw HB⟩⟩
  clear H'
  (try clear c1); (try clear p2); (try clear c3); (try clear c3b0); (try clear c3b1); (try clear c3b2)
  obtain ⟨x5_1, rfl, HA, HK1, HB⟩ := hrel
  rcases gk with _ | k1
  ·exact absurd HA.out (by simp [laws_eqValS.l0])
  have H := HA.out
  clear HA
  simp only [laws_eqValS.l0] at H
  refine qI H ?_ ?_ <;> clear H <;> intro c4b0 H
  ·refine iM H ?_; clear H; intro c5b0 H
   refine iM H ?_; clear H; intro c6b0 H
   refine be H ?_; clear H; intro t537 A7 H
   have HC8 := am H
   clear H
   try go_wp2
   replace HB := am (below_drew1 HB.out)
   have p535 : 0 ≤ (x5_1 : Int) := of_decide_eq_true as1
   have q535 : x5_1 < (l0.length : Int) := of_decide_eq_true as1
   obtain ⟨ad535, e535, hx535_0, hx535_1⟩ := at_T55 HR0.out x5_1 p535 q535
   have hw535_1 := hx535_1
   have hw535_0 := hx535_0
   cases e535
   replace hx535_0 := cl HB hx535_0
   replace hx535_1 := cl HB hx535_1
   replace p535 := eq_true p535
   replace q535 := eq_true q535
   have p536 : 0 ≤ (x5_1 : Int) := of_decide_eq_true as1
   have q536 : x5_1 < (l1.length : Int) := of_decide_eq_true as1
   obtain ⟨ad536, e536, hx536_0, hx536_1⟩ := at_T55 HR1.out x5_1 p536 q536
   have hw536_1 := hx536_1
   have hw536_0 := hx536_0
   cases e536
   replace hx536_0 := cl HB hx536_0
   replace hx536_1 := cl HB hx536_1
   replace p536 := eq_true p536
   replace q536 := eq_true q536
   refine start_ (n := 10) (S := fun w' => w'.cell? (ad535.add ((x5_1).toNat * 2)) = some (.int .i64 ((rd_T55 l0 x5_1).f0)) ∧ w'.cell? ⟨(ad535.add ((x5_1).toNat * 2)).block, (ad535.add ((x5_1).toNat * 2)).off + 1, none⟩ = some (.int .i64 ((rd_T55 l0 x5_1).f1)) ∧ w'.cell? (ad536.add ((x5_1).toNat * 2)) = some (.int .i64 ((rd_T55 l1 x5_1).f0)) ∧ w'.cell? ⟨(ad536.add ((x5_1).toNat * 2)).block, (ad536.add ((x5_1).toNat * 2)).off + 1, none⟩ = some (.int .i64 ((rd_T55 l1 x5_1).f1))) (ds := []) (bv 10 0) (by kernel_rfl) rfl (by kernel_rfl) ⟨(cq HB hw535_0), (cq HB hw535_1), (cq HB hw536_0), (cq HB hw536_1)⟩ (fun hHeld => ?_); refine with_tabW laws_eqValS.tab6 laws_eqValS.bits6 (fun HT_ HW_ => ?_)
   generalize wr.drew = w9 at HB hx535_0 hx535_1 hx536_0 hx536_1 hHeld ⊢
   refine pu 0 17 10 1 HT_ ?_
   refine pu 1 18 10 3 HT_ ?_
   refine pu 2 19 10 7 HT_ ?_
   refine pu 4 21 10 23 HT_ ?_
   refine pu 5 22 10 55 HT_ ?_
   refine pu 6 23 10 119 HT_ ?_
   refine tk 3 20 10 127 HT_ HW_ hHeld ?_
   refine tk 7 24 10 255 HT_ HW_ hHeld ?_
   refine on 8 (some 25) 10 511 HT_ fun K hK => ?_
   refine goes_ Try.func66 (by kernel_rfl) rfl #[.agg #[.int .i64 ((rd_T55 l0 x5_1).f0), .int .i64 ((rd_T55 l0 x5_1).f1)], .agg #[.int .i64 ((rd_T55 l1 x5_1).f0), .int .i64 ((rd_T55 l1 x5_1).f1)]] (by rfl) rfl rfl gl ?_
   with_reducible refine (laws_eqVal.calls ((rd_T55 l0 x5_1).f0) ((rd_T55 l0 x5_1).f1) ((rd_T55 l1 x5_1).f0) ((rd_T55 l1 x5_1).f1) t537 _ A7.out).mono ?_
   rintro e w10 ⟨rfl, hb⟩
   refine ⟨_, rfl, ?_⟩
   replace HB := am (below_step (bw HB) hb)
   clear hb
   refine hK.out _ _ ⟨(cq HB hw535_0), (cq HB hw535_1), (cq HB hw536_0), (cq HB hw536_1)⟩ (fun hHeld => ?_)
   clear hK K
   refine nm (some 25) ?_
   refine pu 9 26 10 1023 HT_ ?_
   refine done_ (done_of HT_.out (by kernel_rfl)) ?_
   go_upto_if 26 with (fail)
   (try simp only [Act.put, sa, sz, ss])
   have H := HC8.out
   clear HC8
   refine qT H ?_ ?_ <;> clear H <;> intro c11 H <;> subst c11
   ·have H' := am H
    clear H
    go_wp2
    go_roundg k1
    case measure => have := HK1.out; omega
    case rel => exact ⟨(wrap64 (x5_1 + 1)), dr, H', ⟨by have := HK1.out; omega⟩, ⟨bw HB⟩⟩
   obtain rfl := Option.some.inj H
   go_wp2
   go_ret
   exact ⟨er, bw HB⟩
  obtain rfl := Option.some.inj H
  go_wp2
  go_ret
  exact ⟨er, bw HB⟩
 rw [if_neg c3] at H
 have c3b0 : ((l0.length : Int) == (l1.length : Int)) = false := beq_eq_false_iff_ne.mpr c3
 have c3b1 : ((l0.length : Int) != (l1.length : Int)) = true := bne_iff_ne.mpr c3
 have c3b2 : (l0.length == l1.length) = false := by first | simpa using c3 | (simp at c3 ⊢; omega)
 obtain rfl := Option.some.inj H
 go_enter Try.func49, Try.ntmps49
 go_wp2
 go_ret
 exact ⟨er, bw HB⟩

def laws_eqMov.f (a0_0 : Int) (a0_1 : Int) (a0_2 : Int) (a1_0 : Int) (a1_1 : Int) (a1_2 : Int) : Option (Bool) := if a0_0 = a1_0 then ((laws_eqVal.f a0_1 a0_2 a1_1 a1_2).bind fun t540 => (if t540 = true then (some true) else (some false))) else (some false)
theorem laws_eqMov.calls (a0_0 : Int) (a0_1 : Int) (a0_2 : Int) (a1_0 : Int) (a1_1 : Int) (a1_2 : Int) (r : Bool) (w : World) (h : laws_eqMov.f a0_0 a0_1 a0_2 a1_0 a1_1 a1_2 = some r) :
  Calls Try.prog 73 #[.agg #[.int .i64 a0_0, .int .i64 a0_1, .int .i64 a0_2], .agg #[.int .i64 a1_0, .int .i64 a1_1, .int .i64 a1_2]] w fun e w' => e = .returned (.bool r) ∧ Below w.heap.size w w' := by
 have hu108 := Try.underlying108
 have hu55 := Try.underlying55
 have HB := am (Below.refl w.heap.size w)
 have H : (if a0_0 = a1_0 then ((laws_eqVal.f a0_1 a0_2 a1_1 a1_2).bind fun t540 => (if t540 = true then (some true) else (some false))) else (some false)) = some r := h
 clear h
 have HC3 := am H
 clear H
 go_enter Try.func73, Try.ntmps73
 go_upto_if 9 with (first | ((with_reducible refine gd 2 rfl ?_); refine bX 2 #[.int .i64 a0_0, .int .i64 a0_1, .int .i64 a0_2] 108 HB ?_; clear HB; intro gb538 w4 hg hb BK538 GW538 HB; clear hb hg) | ((with_reducible refine gd 3 rfl ?_); refine bX 3 #[.int .i64 a1_0, .int .i64 a1_1, .int .i64 a1_2] 108 HB ?_; clear HB; intro gb539 w5 hg hb BK539 GW539 HB; obtain ⟨NB538_539, NB539_538, BK538⟩ := b3 hg BK538 hb; clear hb hg; have hnb6 := NB538_539.out; have hnc6 := NB539_538.out; have hcz7 := bK w5 BK538; have hfz7 := bF BK538; have hcz8 := bK w5 BK539; have hfz8 := bF BK539))
 (try simp only [Act.put, sa, sz, ss])
 have H := HC3.out
 clear HC3
 refine qE H ?_ ?_ <;> clear H
 ·intro c9b0 c9b1 H
  (first | rw [c9b0] | (simp only [i64_w, i32_w]; rw [c9b0]) | skip)
  refine be H ?_; clear H; intro t540 A10 H
  have HC11 := am H
  clear H
  have hnb12 := NB538_539.out
  have hnc12 := NB539_538.out
  have hcz13 := bK w5 BK538
  have hfz13 := bF BK538
  have hcz14 := bK w5 BK539
  have hfz14 := bF BK539
  go_upto_if 15 with (first | ((with_reducible refine gate_callee (f := 66) rfl ?_); refine goesL_ (some 14) rfl rfl Try.func66 (by kernel_rfl) rfl #[.agg #[.int .i64 a0_1, .int .i64 a0_2], .agg #[.int .i64 a1_1, .int .i64 a1_2]] rfl gl ?_; (with_reducible refine (laws_eqVal.calls a0_1 a0_2 a1_1 a1_2 t540 _ A10.out).mono ?_); rintro e w15 ⟨rfl, hb⟩; refine ⟨_, rfl, ?_⟩; replace BK538 := bb BK538 hb; replace BK539 := bb BK539 hb; replace HB := bs HB hb; clear hb))
  (try simp only [Act.put, sa, sz, ss])
  have H := HC11.out
  clear HC11
  refine qT H ?_ ?_ <;> clear H <;> intro c16 H <;> subst c16
  ·obtain rfl := Option.some.inj H
   go_wp2
   go_ret
   exact ⟨er, bw HB⟩
  obtain rfl := Option.some.inj H
  go_wp2
  go_ret
  exact ⟨er, bw HB⟩
 intro c9 c9b0 c9b1 H
 (first | rw [c9b0] | (simp only [i64_w, i32_w]; rw [c9b0]) | skip)
 obtain rfl := Option.some.inj H
 go_wp2
 go_ret
 exact ⟨er, bw HB⟩

def laws_eqMovS.l0 : Nat → List (S108) → List (S108) → Int → Option (Bool)
 | 0, _, _, _ => none
 | k + 1, x0, x1, x5 => if x5 < (x0.length : Int) then (if 0 ≤ x5 then (if x5 < (x1.length : Int) then ((laws_eqMov.f ((rd_T108 x0 x5).f0) ((rd_T108 x0 x5).f1.f0) ((rd_T108 x0 x5).f1.f1) ((rd_T108 x1 x5).f0) ((rd_T108 x1 x5).f1.f0) ((rd_T108 x1 x5).f1.f1)).bind fun t543 => (if t543 = true then (laws_eqMovS.l0 k x0 x1 (wrap64 (x5 + 1))) else (some false))) else (none)) else (none)) else (some true)
def laws_eqMovS.f (k : Nat) (l0 : List (S108)) (l1 : List (S108)) : Option (Bool) := if (l0.length : Int) = (l1.length : Int) then (laws_eqMovS.l0 k l0 l1 0) else (some false)
theorem laws_eqMovS.mono_l : ∀ k, (∀ y0 y1 y2, LeO (laws_eqMovS.l0 k y0 y1 y2) (laws_eqMovS.l0 (k + 1) y0 y1 y2))
 | 0 => fun _ _ _ r h => by simp [laws_eqMovS.l0] at h
 | k + 1 => by
  have ih0 := laws_eqMovS.mono_l k
  ·intro y0 y1 y2
   unfold laws_eqMovS.l0
   with_reducible repeat' first | exact ih0 .. | exact LeO.refl _ | exact LeO.none _ | refine LeO.ite ?_ ?_ | refine LeO.bind ?_ (fun _ => ?_)
theorem laws_eqMovS.mono : ∀ a0 a1 k, LeO (laws_eqMovS.f k a0 a1) (laws_eqMovS.f (k + 1) a0 a1) := by
 intro a0 a1 k
 have ih0 := laws_eqMovS.mono_l k
 unfold laws_eqMovS.f
 with_reducible repeat' first | exact ih0 .. | exact LeO.refl _ | exact LeO.none _ | refine LeO.ite ?_ ?_ | refine LeO.bind ?_ (fun _ => ?_)
def laws_eqMovS.T6 : Bool × List (List Nat × List Nat) := (true, [([], []), ([], []), ([0, 1], [0, 1]), ([2], [2]), ([], []), ([], []), ([4, 5], [4, 5]), ([6], [6]), ([3, 7], [3, 7]), ([8], [8])])
def laws_eqMovS.B6 : List Nat := [0, 0, 3, 7, 0, 0, 48, 112, 255, 511]
theorem laws_eqMovS.tab6 : rtab .any (opsOf Try.f65 6) = laws_eqMovS.T6 := by kernel_rfl
theorem laws_eqMovS.bits6 : waitsOk laws_eqMovS.T6.2 laws_eqMovS.B6 = true := by kernel_rfl
theorem laws_eqMovS.calls (k : Nat) (A0 : Option Addr) (c0 : Nat) (l0 : List (S108)) (A1 : Option Addr) (c1 : Nat) (l1 : List (S108)) (r : Bool) (w : World) (hr0 : Kd.C k108 w A0 l0.length l0) (hc0 : l0.length ≤ c0) (hr1 : Kd.C k108 w A1 l1.length l1) (hc1 : l1.length ≤ c1) (h : laws_eqMovS.f k l0 l1 = some r) :
  Calls Try.prog 65 #[.slice A0 l0.length c0, .slice A1 l1.length c1] w fun e w' => e = .returned (.bool r) ∧ Below w.heap.size w w' := by
 have hu108 := Try.underlying108
 have HR0 := am hr0
 have HC0 := am hc0
 clear hr0 hc0
 have HR1 := am hr1
 have HC1 := am hc1
 clear hr1 hc1
 have HB := am (Below.refl w.heap.size w)
 have H : (if (l0.length : Int) = (l1.length : Int) then (laws_eqMovS.l0 k l0 l1 0) else (some false)) = some r := h
 clear h
 by_cases c3 : (l0.length : Int) = (l1.length : Int)
 ·rw [if_pos c3] at H
  have c3b0 : ((l0.length : Int) == (l1.length : Int)) = true := beq_iff_eq.mpr c3
  have c3b1 : ((l0.length : Int) != (l1.length : Int)) = false := bne_eq_false_iff_eq.mpr c3
  have c3b2 : (l0.length == l1.length) = true := by first | simpa using c3 | (simp at c3 ⊢; omega)
  clear c3
  have H' := am H
  clear H
  go_enter Try.func65, Try.ntmps65
  go_wp2
  go_loopg [5] k (fun kq v5 w' => ∃ (x5_1 : Int), v5 = .int .i64 x5_1 ∧ Aside0 (laws_eqMovS.l0 kq l0 l1 x5_1 = some r) ∧ Aside0 (kq ≤ k) ∧ Aside0 (Below w.heap.size w w'))
  case atStart => exact ⟨(0), dr, H', ⟨Nat.le_refl _⟩, ⟨bw HB⟩⟩
  clear H'
  (try clear c1); (try clear p2); (try clear c3); (try clear c3b0); (try clear c3b1); (try clear c3b2)
  obtain ⟨x5_1, rfl, HA, HK1, HB⟩ := hrel
  rcases gk with _ | k1
  ·exact absurd HA.out (by simp [laws_eqMovS.l0])
  have H := HA.out
  clear HA
  simp only [laws_eqMovS.l0] at H
  refine qI H ?_ ?_ <;> clear H <;> intro c4b0 H
  ·refine iM H ?_; clear H; intro c5b0 H
   refine iM H ?_; clear H; intro c6b0 H
   refine be H ?_; clear H; intro t543 A7 H
   have HC8 := am H
   clear H
   try go_wp2
   replace HB := am (below_drew1 HB.out)
   have p541 : 0 ≤ (x5_1 : Int) := of_decide_eq_true as1
   have q541 : x5_1 < (l0.length : Int) := of_decide_eq_true as1
   obtain ⟨ad541, e541, hx541_0, hx541_1, hx541_2⟩ := at_T108 HR0.out x5_1 p541 q541
   have hw541_2 := hx541_2
   have hw541_1 := hx541_1
   have hw541_0 := hx541_0
   cases e541
   replace hx541_0 := cl HB hx541_0
   replace hx541_1 := cl HB hx541_1
   replace hx541_2 := cl HB hx541_2
   replace p541 := eq_true p541
   replace q541 := eq_true q541
   have p542 : 0 ≤ (x5_1 : Int) := of_decide_eq_true as1
   have q542 : x5_1 < (l1.length : Int) := of_decide_eq_true as1
   obtain ⟨ad542, e542, hx542_0, hx542_1, hx542_2⟩ := at_T108 HR1.out x5_1 p542 q542
   have hw542_2 := hx542_2
   have hw542_1 := hx542_1
   have hw542_0 := hx542_0
   cases e542
   replace hx542_0 := cl HB hx542_0
   replace hx542_1 := cl HB hx542_1
   replace hx542_2 := cl HB hx542_2
   replace p542 := eq_true p542
   replace q542 := eq_true q542
   refine start_ (n := 10) (S := fun w' => w'.cell? (ad541.add ((x5_1).toNat * 3)) = some (.int .i64 ((rd_T108 l0 x5_1).f0)) ∧ w'.cell? ⟨(ad541.add ((x5_1).toNat * 3)).block, (ad541.add ((x5_1).toNat * 3)).off + 1, none⟩ = some (.int .i64 ((rd_T108 l0 x5_1).f1.f0)) ∧ w'.cell? ⟨(ad541.add ((x5_1).toNat * 3)).block, (ad541.add ((x5_1).toNat * 3)).off + 2, none⟩ = some (.int .i64 ((rd_T108 l0 x5_1).f1.f1)) ∧ w'.cell? (ad542.add ((x5_1).toNat * 3)) = some (.int .i64 ((rd_T108 l1 x5_1).f0)) ∧ w'.cell? ⟨(ad542.add ((x5_1).toNat * 3)).block, (ad542.add ((x5_1).toNat * 3)).off + 1, none⟩ = some (.int .i64 ((rd_T108 l1 x5_1).f1.f0)) ∧ w'.cell? ⟨(ad542.add ((x5_1).toNat * 3)).block, (ad542.add ((x5_1).toNat * 3)).off + 2, none⟩ = some (.int .i64 ((rd_T108 l1 x5_1).f1.f1))) (ds := []) (bv 10 0) (by kernel_rfl) rfl (by kernel_rfl) ⟨(cq HB hw541_0), (cq HB hw541_1), (cq HB hw541_2), (cq HB hw542_0), (cq HB hw542_1), (cq HB hw542_2)⟩ (fun hHeld => ?_); refine with_tabW laws_eqMovS.tab6 laws_eqMovS.bits6 (fun HT_ HW_ => ?_)
   generalize wr.drew = w9 at HB hx541_0 hx541_1 hx541_2 hx542_0 hx542_1 hx542_2 hHeld ⊢
   refine pu 0 17 10 1 HT_ ?_
   refine pu 1 18 10 3 HT_ ?_
   refine pu 2 19 10 7 HT_ ?_
   refine pu 4 21 10 23 HT_ ?_
   refine pu 5 22 10 55 HT_ ?_
   refine pu 6 23 10 119 HT_ ?_
   refine tk 3 20 10 127 HT_ HW_ hHeld ?_
   refine tk 7 24 10 255 HT_ HW_ hHeld ?_
   refine on 8 (some 25) 10 511 HT_ fun K hK => ?_
   refine goes_ Try.func73 (by kernel_rfl) rfl #[.agg #[.int .i64 ((rd_T108 l0 x5_1).f0), .int .i64 ((rd_T108 l0 x5_1).f1.f0), .int .i64 ((rd_T108 l0 x5_1).f1.f1)], .agg #[.int .i64 ((rd_T108 l1 x5_1).f0), .int .i64 ((rd_T108 l1 x5_1).f1.f0), .int .i64 ((rd_T108 l1 x5_1).f1.f1)]] (by rfl) rfl rfl gl ?_
   with_reducible refine (laws_eqMov.calls ((rd_T108 l0 x5_1).f0) ((rd_T108 l0 x5_1).f1.f0) ((rd_T108 l0 x5_1).f1.f1) ((rd_T108 l1 x5_1).f0) ((rd_T108 l1 x5_1).f1.f0) ((rd_T108 l1 x5_1).f1.f1) t543 _ A7.out).mono ?_
   rintro e w10 ⟨rfl, hb⟩
   refine ⟨_, rfl, ?_⟩
   replace HB := am (below_step (bw HB) hb)
   clear hb
   refine hK.out _ _ ⟨(cq HB hw541_0), (cq HB hw541_1), (cq HB hw541_2), (cq HB hw542_0), (cq HB hw542_1), (cq HB hw542_2)⟩ (fun hHeld => ?_)
   clear hK K
   refine nm (some 25) ?_
   refine pu 9 26 10 1023 HT_ ?_
   refine done_ (done_of HT_.out (by kernel_rfl)) ?_
   go_upto_if 26 with (fail)
   (try simp only [Act.put, sa, sz, ss])
   have H := HC8.out
   clear HC8
   refine qT H ?_ ?_ <;> clear H <;> intro c11 H <;> subst c11
   ·have H' := am H
    clear H
    go_wp2
    go_roundg k1
    case measure => have := HK1.out; omega
    case rel => exact ⟨(wrap64 (x5_1 + 1)), dr, H', ⟨by have := HK1.out; omega⟩, ⟨bw HB⟩⟩
   obtain rfl := Option.some.inj H
   go_wp2
   go_ret
   exact ⟨er, bw HB⟩
  obtain rfl := Option.some.inj H
  go_wp2
  go_ret
  exact ⟨er, bw HB⟩
 rw [if_neg c3] at H
 have c3b0 : ((l0.length : Int) == (l1.length : Int)) = false := beq_eq_false_iff_ne.mpr c3
 have c3b1 : ((l0.length : Int) != (l1.length : Int)) = true := bne_iff_ne.mpr c3
 have c3b2 : (l0.length == l1.length) = false := by first | simpa using c3 | (simp at c3 ⊢; omega)
 obtain rfl := Option.some.inj H
 go_enter Try.func65, Try.ntmps65
 go_wp2
 go_ret
 exact ⟨er, bw HB⟩

end Go.Proofs.Ytcdohkilplgmjaa.QFnExactPlain
