import Derived.Test.YtcdohkilplgmjaaCFnExactPlainx0
import Derived.Test.YtcdohkilplgmjaaCFnExactPlainx8
namespace Go.Proofs.Ytcdohkilplgmjaa.QFnExactPlain
open Go.RowKit Go.Proofs.YtcdohkilplgmjaaW
open PrintWords PrintLast PrintMore PrintShort PrintIsh
attribute [local go_sem] max2_int min2_int max_two min_two max_three min_three max_four min_four   -- for this text's walks alone
set_option linter.unusedVariables false
set_option maxHeartbeats 8000000
set_option maxRecDepth 100000
set_option linter.unusedSimpArgs false

def impl_prog_reached.f (l0_0 : List (S53)) (l0_1 : List (List Int)) (a1 : Int) (a2 : Int) : Option (Bool) := (impl_hasFunc.f l0_0 a1).bind fun t408 => (if t408 = true then (if a2 ≥ 0 then (if 0 ≤ a1 then (if a1 < (l0_1.length : Int) then (if a2 < ((rd_L14 l0_1 a1).length : Int) then (if 0 ≤ a2 then (some (decide ((rd (rd_L14 l0_1 a1) a2) ≥ 0))) else (none)) else (some false)) else (none)) else (none)) else (some false)) else (some false))
theorem impl_prog_reached.calls (g0_ : Nat) (A0_0 : Option Addr) (c0_0 : Nat) (l0_0 : List (S53)) (A0_1 : Option Addr) (c0_1 : Nat) (l0_1 : List (List Int)) (a1 : Int) (a2 : Int) (r : Bool) (w : World) (hp0 : w.heap[g0_]? = some (.cells #[.slice A0_0 l0_0.length c0_0, .slice A0_1 l0_1.length c0_1] 88 (0, 0))) (hr0_0 : Kd.C k53 w A0_0 l0_0.length l0_0) (hc0_0 : l0_0.length ≤ c0_0) (hr0_1 : Kd.C (Kd.slice 2 (Kd.int .i64)) w A0_1 l0_1.length l0_1) (hc0_1 : l0_1.length ≤ c0_1) (h : impl_prog_reached.f l0_0 l0_1 a1 a2 = some r) :
  Calls Try.prog 39 #[.pointer (some ⟨g0_, 0, none⟩), .int .i64 a1, .int .i64 a2] w fun e w' => e = .returned (.bool r) ∧ Below w.heap.size w w' := by
 have hu33 := Try.underlying33
 have HP0_ := am hp0
 clear hp0
 have HR0_0 := am hr0_0
 have HC0_0 := am hc0_0
 clear hr0_0 hc0_0
 have HR0_1 := am hr0_1
 have HC0_1 := am hc0_1
 clear hr0_1 hc0_1
 have HB := am (Below.refl w.heap.size w)
 have H : ((impl_hasFunc.f l0_0 a1).bind fun t408 => (if t408 = true then (if a2 ≥ 0 then (if 0 ≤ a1 then (if a1 < (l0_1.length : Int) then (if a2 < ((rd_L14 l0_1 a1).length : Int) then (if 0 ≤ a2 then (some (decide ((rd (rd_L14 l0_1 a1) a2) ≥ 0))) else (none)) else (some false)) else (none)) else (none)) else (some false)) else (some false))) = some r := h
 clear h
 refine be H ?_; clear H; intro t408 A4 H
 refine qT H ?_ ?_ <;> clear H <;> intro c5 H <;> subst c5
 ·refine qL H ?_ ?_ <;> clear H <;> intro c6b0 H
  ·refine iM H ?_; clear H; intro c7b0 H
   refine iM H ?_; clear H; intro c8b0 H
   refine qI H ?_ ?_ <;> clear H <;> intro c9b0 H
   ·refine iM H ?_; clear H; intro c10b0 H
    obtain rfl := Option.some.inj H
    have hcz11 := bK w HP0_
    have hfz11 := bF HP0_
    go_enter Try.func39, Try.ntmps39
    go_wp2_with (first | ((with_reducible refine gk 36 rfl ?_); refine gB 36 (some 12) Try.func36 #[.agg #[.slice A0_0 l0_0.length c0_0], .int .i64 a1] (impl_hasFunc.calls _ _ l0_0 a1 true _ (by repeat (first | exact HR0_0.out | (with_reducible refine Kd.C_alloc ?_ _) | (with_reducible refine Kd.C_drewN ?_ _) | (with_reducible refine Kd.C_drew ?_))) HC0_0.out A4.out) ?_; intro w12 hb; replace HP0_ := bb HP0_ hb; replace HB := bs HB hb; clear hb; have hcz13 := bK w12 HP0_; have hfz13 := bF HP0_; have p409 : 0 ≤ (a1 : Int) := of_decide_eq_true as1; have q409 : a1 < (l0_1.length : Int) := of_decide_eq_true as1; obtain ⟨ad409, A409_0, c409_0, e409, hx409_0, hl409_0, hi409_0⟩ := at_L14 HR0_1.out a1 p409 q409; cases e409; replace hx409_0 := cl HB hx409_0; have HR409_0 := am hi409_0; have HC409_0 := am hl409_0; clear hi409_0 hl409_0; replace p409 := eq_true p409; replace q409 := eq_true q409; have p410 : 0 ≤ (a1 : Int) := of_decide_eq_true as1; have q410 : a1 < (l0_1.length : Int) := of_decide_eq_true as1; obtain ⟨ad410, A410_0, c410_0, e410, hx410_0, hl410_0, hi410_0⟩ := at_L14 HR0_1.out a1 p410 q410; obtain rfl : ad409 = ad410 := (by injection e410); replace hx410_0 := cl HB hx410_0; have HR410_0 := am hi410_0; have HC410_0 := am hl410_0; clear hi410_0 hl410_0; replace p410 := eq_true p410; replace q410 := eq_true q410; have ea_ := Option.some.inj (hx409_0.symm.trans hx410_0); injection ea_ with ea_ en_ ec_; subst ea_; subst ec_; clear en_; have p411 : 0 ≤ (a2 : Int) := of_decide_eq_true as1; have q411 : a2 < ((rd_L14 l0_1 a1).length : Int) := of_decide_eq_true as1; obtain ⟨ad411, e411, hx411_0⟩ := Kd.at_int HR410_0.out a2 p411 q411; cases e411; replace hx411_0 := cl HB hx411_0; replace p411 := eq_true p411; replace q411 := eq_true q411))
    go_ret
    exact ⟨er, bw HB⟩
   obtain rfl := Option.some.inj H
   have hcz14 := bK w HP0_
   have hfz14 := bF HP0_
   go_enter Try.func39, Try.ntmps39
   go_wp2_with (first | ((with_reducible refine gk 36 rfl ?_); refine gB 36 (some 12) Try.func36 #[.agg #[.slice A0_0 l0_0.length c0_0], .int .i64 a1] (impl_hasFunc.calls _ _ l0_0 a1 true _ (by repeat (first | exact HR0_0.out | (with_reducible refine Kd.C_alloc ?_ _) | (with_reducible refine Kd.C_drewN ?_ _) | (with_reducible refine Kd.C_drew ?_))) HC0_0.out A4.out) ?_; intro w15 hb; replace HP0_ := bb HP0_ hb; replace HB := bs HB hb; clear hb; have hcz16 := bK w15 HP0_; have hfz16 := bF HP0_; have p409 : 0 ≤ (a1 : Int) := of_decide_eq_true as1; have q409 : a1 < (l0_1.length : Int) := of_decide_eq_true as1; obtain ⟨ad409, A409_0, c409_0, e409, hx409_0, hl409_0, hi409_0⟩ := at_L14 HR0_1.out a1 p409 q409; cases e409; replace hx409_0 := cl HB hx409_0; have HR409_0 := am hi409_0; have HC409_0 := am hl409_0; clear hi409_0 hl409_0; replace p409 := eq_true p409; replace q409 := eq_true q409))
   go_ret
   exact ⟨er, bw HB⟩
  obtain rfl := Option.some.inj H
  have hcz17 := bK w HP0_
  have hfz17 := bF HP0_
  go_enter Try.func39, Try.ntmps39
  go_wp2_with (first | ((with_reducible refine gk 36 rfl ?_); refine gB 36 (some 12) Try.func36 #[.agg #[.slice A0_0 l0_0.length c0_0], .int .i64 a1] (impl_hasFunc.calls _ _ l0_0 a1 true _ (by repeat (first | exact HR0_0.out | (with_reducible refine Kd.C_alloc ?_ _) | (with_reducible refine Kd.C_drewN ?_ _) | (with_reducible refine Kd.C_drew ?_))) HC0_0.out A4.out) ?_; intro w18 hb; replace HP0_ := bb HP0_ hb; replace HB := bs HB hb; clear hb))
  go_ret
  exact ⟨er, bw HB⟩
 obtain rfl := Option.some.inj H
 have hcz19 := bK w HP0_
 have hfz19 := bF HP0_
 go_enter Try.func39, Try.ntmps39
 go_wp2_with (first | ((with_reducible refine gk 36 rfl ?_); refine gB 36 (some 12) Try.func36 #[.agg #[.slice A0_0 l0_0.length c0_0], .int .i64 a1] (impl_hasFunc.calls _ _ l0_0 a1 false _ (by repeat (first | exact HR0_0.out | (with_reducible refine Kd.C_alloc ?_ _) | (with_reducible refine Kd.C_drewN ?_ _) | (with_reducible refine Kd.C_drew ?_))) HC0_0.out A4.out) ?_; intro w20 hb; replace HP0_ := bb HP0_ hb; replace HB := bs HB hb; clear hb))
 go_ret
 exact ⟨er, bw HB⟩

def impl_prog_slots.f (l0_0 : List (S53)) (l0_1 : List (List Int)) (a1 : Int) (a2 : Int) : Option (Int) := if 0 ≤ a1 then (if a1 < (l0_0.length : Int) then (if a1 < (l0_1.length : Int) then (if 0 ≤ a2 then (if a2 < ((rd_L14 l0_1 a1).length : Int) then (some (wrap64 (((rd_T53 l0_0 a1).f1) + (rd (rd_L14 l0_1 a1) a2)))) else (none)) else (none)) else (none)) else (none)) else (none)
theorem impl_prog_slots.calls (g0_ : Nat) (A0_0 : Option Addr) (c0_0 : Nat) (l0_0 : List (S53)) (A0_1 : Option Addr) (c0_1 : Nat) (l0_1 : List (List Int)) (a1 : Int) (a2 : Int) (r : Int) (w : World) (hp0 : w.heap[g0_]? = some (.cells #[.slice A0_0 l0_0.length c0_0, .slice A0_1 l0_1.length c0_1] 88 (0, 0))) (hr0_0 : Kd.C k53 w A0_0 l0_0.length l0_0) (hc0_0 : l0_0.length ≤ c0_0) (hr0_1 : Kd.C (Kd.slice 2 (Kd.int .i64)) w A0_1 l0_1.length l0_1) (hc0_1 : l0_1.length ≤ c0_1) (h : impl_prog_slots.f l0_0 l0_1 a1 a2 = some r) :
  Calls Try.prog 40 #[.pointer (some ⟨g0_, 0, none⟩), .int .i64 a1, .int .i64 a2] w fun e w' => e = .returned (.int .i64 r) ∧ Below w.heap.size w w' := by
 have HP0_ := am hp0
 clear hp0
 have HR0_0 := am hr0_0
 have HC0_0 := am hc0_0
 clear hr0_0 hc0_0
 have HR0_1 := am hr0_1
 have HC0_1 := am hc0_1
 clear hr0_1 hc0_1
 have HB := am (Below.refl w.heap.size w)
 have H : (if 0 ≤ a1 then (if a1 < (l0_0.length : Int) then (if a1 < (l0_1.length : Int) then (if 0 ≤ a2 then (if a2 < ((rd_L14 l0_1 a1).length : Int) then (some (wrap64 (((rd_T53 l0_0 a1).f1) + (rd (rd_L14 l0_1 a1) a2)))) else (none)) else (none)) else (none)) else (none)) else (none)) = some r := h
 clear h
 refine iM H ?_; clear H; intro c4b0 H
 refine iM H ?_; clear H; intro c5b0 H
 refine iM H ?_; clear H; intro c6b0 H
 refine iM H ?_; clear H; intro c7b0 H
 refine iM H ?_; clear H; intro c8b0 H
 obtain rfl := Option.some.inj H
 have hcz9 := bK w HP0_
 have hfz9 := bF HP0_
 have p412 : 0 ≤ (a1 : Int) := of_decide_eq_true as1
 have q412 : a1 < (l0_0.length : Int) := of_decide_eq_true as1
 obtain ⟨ad412, A412_2, c412_2, e412, hx412_0, hx412_1, hx412_2, hl412_2, hi412_2⟩ := at_T53 HR0_0.out a1 p412 q412
 cases e412
 have HR412_2 := am hi412_2
 have HC412_2 := am hl412_2
 clear hi412_2 hl412_2
 replace p412 := eq_true p412
 replace q412 := eq_true q412
 have p413 : 0 ≤ (a1 : Int) := of_decide_eq_true as1
 have q413 : a1 < (l0_1.length : Int) := of_decide_eq_true as1
 obtain ⟨ad413, A413_0, c413_0, e413, hx413_0, hl413_0, hi413_0⟩ := at_L14 HR0_1.out a1 p413 q413
 cases e413
 have HR413_0 := am hi413_0
 have HC413_0 := am hl413_0
 clear hi413_0 hl413_0
 replace p413 := eq_true p413
 replace q413 := eq_true q413
 have p414 : 0 ≤ (a2 : Int) := of_decide_eq_true as1
 have q414 : a2 < ((rd_L14 l0_1 a1).length : Int) := of_decide_eq_true as1
 obtain ⟨ad414, e414, hx414_0⟩ := Kd.at_int HR413_0.out a2 p414 q414
 cases e414
 replace p414 := eq_true p414
 replace q414 := eq_true q414
 go_enter Try.func40, Try.ntmps40
 go_wp2
 repeat (go_quiet (fail); try go_wp2)
 go_ret
 exact ⟨er, bw HB⟩

def impl_memory.f (a0 : Int) : Option (Int) := some (wrap64 (6 + a0))
theorem impl_memory.calls (a0 : Int) (r : Int) (w : World) (h : impl_memory.f a0 = some r) :
  Calls Try.prog 43 #[.int .i64 a0] w fun e w' => e = .returned (.int .i64 r) ∧ Drawn0 w w' := by
 have H : (some (wrap64 (6 + a0))) = some r := h
 clear h
 obtain rfl := Option.some.inj H
 go_enter Try.func43, Try.ntmps43
 go_wp2
 go_ret
 exact ⟨by first | rfl | (simp; done) | (simp [*]; done), by repeat (first | exact Drawn0.refl _ | apply Drawn0.step)⟩

def impl_prog_plain_1.f (a0 : Int) (a1_0 : Int) (a1_1 : Int) : Option ((List (S108)) × Int × Int × (List (S55)) × Int) := (impl_memory.f a0).bind fun t417 => (some (([] : List (S108)), 1, t417, (([(⟨a1_0, a1_1⟩ : S55)] : List (S55))), 0))
theorem impl_prog_plain_1.clo (a0 : Int) (a1_0 : Int) (a1_1 : Int) (r1 : List (S108)) (r2 : Int) (r3 : Int) (r4 : List (S55)) (r5 : Int) {gb415 : Nat} {c0_ c1_ c2_ c3_ c4_ : Value} (w : World) (h : impl_prog_plain_1.f a0 a1_0 a1_1 = some (r1, r2, r3, r4, r5)) (hbox_ : w.heap[gb415]? = some (.cells #[c0_, c1_, c2_, c3_, c4_] 50 (0, 0))) :
  Calls Try.prog 42 #[.int .i64 a0, .agg #[.int .i64 a1_0, .int .i64 a1_1], .pointer (some ⟨gb415, 0, none⟩)] w fun e w' => ∃ v0_ v3_ : Value, ∃ w2_ : World, e = .returned (.tuple #[]) ∧ Kd.R k108 108 w2_ w.heap.size (fun _ => True) v0_ r1 ∧ Kd.R k55 55 w2_ w.heap.size (fun _ => True) v3_ r4 ∧ Below w.heap.size w w2_ ∧ w' = (((((w2_.setCell ⟨gb415, 0, none⟩ (v0_)).setCell ⟨gb415, 1, none⟩ (.int .i64 r2)).setCell ⟨gb415, 2, none⟩ (.int .i64 r3)).setCell ⟨gb415, 3, none⟩ (v3_)).setCell ⟨gb415, 4, none⟩ (.int .i64 r5)) := by
 have BK415 := am hbox_
 clear hbox_
 have hu50 := Try.underlying50
 have hu55 := Try.underlying55
 have HB := am (Below.refl w.heap.size w)
 have H : ((impl_memory.f a0).bind fun t417 => (some (([] : List (S108)), 1, t417, (([(⟨a1_0, a1_1⟩ : S55)] : List (S55))), 0))) = some (r1, r2, r3, r4, r5) := h
 clear h
 refine be H ?_; clear H; intro t417 A3 H
 obtain ⟨y418, hy418⟩ : ∃ y_ : List (S55), y_ = (([(⟨a1_0, a1_1⟩ : S55)] : List (S55))) := ⟨_, rfl⟩
 replace H : (some (([] : List (S108)), 1, t417, y418, 0)) = some (r1, r2, r3, r4, r5) := by first | (rw [hy418]; with_reducible exact H) | (have H2_ := (Option.bind_some _ _).symm.trans H; rw [hy418]; with_reducible exact H2_) | (have H2_ := (Option.bind_some _ _).symm.trans H; with_reducible exact H2_) | with_reducible exact H | (rw [hy418]; exact H) | exact H
 have Ny418 := am hy418
 clear hy418
 simp only [Option.some.injEq, Prod.mk.injEq] at H
 obtain ⟨rfl, rfl, rfl, rfl, rfl⟩ := H
 go_enter Try.func42, Try.ntmps42
 try go_wp2_with (first | ((with_reducible refine gd 4 rfl ?_); refine bX 4 #[.int .i64 a1_0, .int .i64 a1_1] 55 HB ?_; clear HB; intro gb416 w5 hg hb BK416 GW416 HB; obtain ⟨NB415_416, NB416_415, BK415⟩ := b3 hg BK415 hb; clear hb hg))
 replace BK415 := am (blk_drew BK415.out)
 replace BK416 := am (blk_drew BK416.out)
 replace HB := am (below_drew1 HB.out)
 refine start_ (n := 6) (S := fun w' => w'.cell? ⟨gb416, 0, none⟩ = some (.int .i64 a1_0) ∧ w'.cell? ⟨gb416, 1, none⟩ = some (.int .i64 a1_1)) (ds := []) (bv 6 0) (by kernel_rfl) rfl (by kernel_rfl) ⟨bc BK416 0, bc BK416 1⟩ (fun hHeld => ?_)
 generalize w5.drew = w6 at BK415 BK416 HB hHeld ⊢
 refine pure_ (i := 0) (N := some 5) (v := ?_) (a' := ?_) (bv 6 1) rfl rfl (by kernel_rfl) (fun _ _ _ h => h) (Or.inl ⟨by rfl, ?_⟩) ?_ ?_
 rotate_left
 ·intro w'
  go_simp
  with_reducible rfl
 rotate_left
 ·simp only [Act.put, sa, sz, ss, i64_w, i32_w]
  rfl
 refine take_ (i := 2) (N := some 7) (v := ?_) (a' := ?_) (bv 6 5) rfl rfl (by kernel_rfl) (fun _ _ _ h => h) (Or.inl ⟨by rfl, ?_⟩) hHeld ?_ ?_
 rotate_left
 ·rintro w' ⟨s0, s1⟩
  go_simp
  with_reducible rfl
 rotate_left
 ·simp only [Act.put, sa, sz, ss, i64_w, i32_w]
  rfl
 refine join_ (σ := Value) 2 (bv 6 15) (fun s_ => [(6, .int .i64 t417), (8, s_)]) (fun s_ w' => (w'.cell? ⟨gb416, 0, none⟩ = some (.int .i64 a1_0) ∧ w'.cell? ⟨gb416, 1, none⟩ = some (.int .i64 a1_1)) ∧ (Kd.R k55 55 w' w.heap.size (fun k_ => k_ ≠ gb416) s_ y418) ∧ (w'.heap[gb415]? = some (.cells #[c0_, c1_, c2_, c3_, c4_] 50 (0, 0))) ∧ (w'.heap[gb416]? = some (.cells #[.int .i64 a1_0, .int .i64 a1_1] 55 (0, 0))) ∧ (Below w.heap.size w w')) ?_ ?_
 rotate_left
 ·intro hCont
  refine two_ (i := 1) (j := 3) (Ni := some 6) (Nj := some 8) (bv 6 7) (bv 6 13) rfl rfl rfl rfl (by kernel_rfl) (by decide) (by decide) (fun K hK => ?_) (fun K hK => ?_)
  ·skip
   refine goes_ Try.func43 (by kernel_rfl) rfl #[.int .i64 a0] (by rfl) rfl rfl gl ?_
   with_reducible refine (impl_memory.calls a0 t417 _ A3.out).mono ?_
   rintro e w' ⟨rfl, ⟨nd, rfl⟩⟩
   refine ⟨_, rfl, ?_⟩
   refine hK.out _ _ ⟨bc BK416 0, bc BK416 1⟩ (fun hHeld => ?_)
   clear hK K
   refine nm (some 6) ?_
   refine one_ (i := 3) (N := some 8) (bv 6 15) rfl rfl (by kernel_rfl) (by decide) (fun K hK => ?_)
   refine Kd.R_lit_step k55 _ 55 ?hg (N := 8) ?hd (xs := ([(⟨a1_0, a1_1⟩ : S55)] : List (S55))) (inner := [.int .i64 a1_0, .int .i64 a1_1]) (ok := fun _ => True) (okp := fun _ => True) ?hr ?hp (fun _ hk => hk) trivial (Below.refl _ _) (Nat.le_refl _) (by simp) ?_; (case hd => rfl); (case hg => rfl); (case hr => exact gs); (case hp => exact (Reps.c2 (show Kd.M k55 _ _ _ (⟨a1_0, a1_1⟩ : S55) [.int .i64 a1_0, .int .i64 a1_1] from (k55_mkM _ _ _ (⟨a1_0, a1_1⟩ : S55) )) (Reps.none _ _)))
   intro v419 w7 ho8 hb hg_ hnew_
   clear hg_ hnew_
   (first | rw [← Ny418.out] at ho8 | (simp only [Int.reduceToNat] at ho8; rw [← Ny418.out] at ho8))
   have n0_ := am (Kd.R_lower (Kd.R_newB ho8 (g := gb416) (o := .cells #[.int .i64 a1_0, .int .i64 a1_1] 55 (0, 0)) (bp BK416)) (below_size (bw HB)))
   have n1_ := bb BK415 hb
   have n2_ := bb BK416 hb
   have n3_ := am (below_step (bw HB) hb)
   clear BK415
   clear BK416
   clear HB
   have HO420 := n0_
   have BK415 := n1_
   have BK416 := n2_
   have HB := n3_
   clear n0_ n1_ n2_ n3_
   clear hb ho8
   obtain ⟨Ao9, co9, eo9⟩ := Kd.R_slice HO420.out
   (first | subst eo9 | (injection eo9 with f1_ f2_ f3_; have f4_ := f1_.symm; have f5_ := f3_.symm; clear f1_ f2_ f3_; subst f4_; subst f5_))
   refine hK.out _ _ ⟨bc BK416 0, bc BK416 1⟩ (fun hHeld => ?_)
   clear hK K
   refine nm (some 8) ?_
   exact norm_ (by simp only [putAll, Act.put, sa, sz, ss]) (hCont (.slice Ao9 y418.length co9) _ ⟨hHeld, (by (with_reducible repeat (first | apply Kd.R_alloc | apply Kd.R_drewN | apply Kd.R_drew)); exact Kd.R_mono HO420.out (fun _ hk => hk.2)), (bp BK415), (bp BK416), (bw HB)⟩)
  skip
  refine Kd.R_lit_step k55 _ 55 ?hg (N := 8) ?hd (xs := ([(⟨a1_0, a1_1⟩ : S55)] : List (S55))) (inner := [.int .i64 a1_0, .int .i64 a1_1]) (ok := fun _ => True) (okp := fun _ => True) ?hr ?hp (fun _ hk => hk) trivial (Below.refl _ _) (Nat.le_refl _) (by simp) ?_; (case hd => rfl); (case hg => rfl); (case hr => exact gs); (case hp => exact (Reps.c2 (show Kd.M k55 _ _ _ (⟨a1_0, a1_1⟩ : S55) [.int .i64 a1_0, .int .i64 a1_1] from (k55_mkM _ _ _ (⟨a1_0, a1_1⟩ : S55) )) (Reps.none _ _)))
  intro v419 w7 ho8 hb hg_ hnew_
  clear hg_ hnew_
  (first | rw [← Ny418.out] at ho8 | (simp only [Int.reduceToNat] at ho8; rw [← Ny418.out] at ho8))
  have n0_ := am (Kd.R_lower (Kd.R_newB ho8 (g := gb416) (o := .cells #[.int .i64 a1_0, .int .i64 a1_1] 55 (0, 0)) (bp BK416)) (below_size (bw HB)))
  have n1_ := bb BK415 hb
  have n2_ := bb BK416 hb
  have n3_ := am (below_step (bw HB) hb)
  clear BK415
  clear BK416
  clear HB
  have HO420 := n0_
  have BK415 := n1_
  have BK416 := n2_
  have HB := n3_
  clear n0_ n1_ n2_ n3_
  clear hb ho8
  refine hK.out _ _ ⟨bc BK416 0, bc BK416 1⟩ (fun hHeld => ?_)
  clear hK K
  refine nm (some 8) ?_
  refine one_ (i := 1) (N := some 6) (bv 6 15) rfl rfl (by kernel_rfl) (by decide) (fun K hK => ?_)
  refine goes_ Try.func43 (by kernel_rfl) rfl #[.int .i64 a0] (by rfl) rfl rfl gl ?_
  with_reducible refine (impl_memory.calls a0 t417 _ A3.out).mono ?_
  rintro e w' ⟨rfl, ⟨nd, rfl⟩⟩
  refine ⟨_, rfl, ?_⟩
  obtain ⟨Ao9, co9, eo9⟩ := Kd.R_slice HO420.out
  (first | subst eo9 | (injection eo9 with f1_ f2_ f3_; have f4_ := f1_.symm; have f5_ := f3_.symm; clear f1_ f2_ f3_; subst f4_; subst f5_))
  refine hK.out _ _ ⟨bc BK416 0, bc BK416 1⟩ (fun hHeld => ?_)
  clear hK K
  refine nm (some 6) ?_
  exact norm_ (by simp only [putAll, Act.put, sa, sz, ss]) (hCont (.slice Ao9 y418.length co9) _ ⟨hHeld, (by (with_reducible repeat (first | apply Kd.R_alloc | apply Kd.R_drewN | apply Kd.R_drew)); exact Kd.R_mono HO420.out (fun _ hk => hk.2)), (bp BK415), (bp BK416), (bw HB)⟩)
 rintro v419 w10 ⟨hS_, h0_, h1_, h2_, h3_⟩
 have n0_ : Aside0 (Kd.R k55 55 w10 w.heap.size (fun k_ => k_ ≠ gb416) v419 y418) := ⟨h0_⟩
 have n1_ : Aside0 (w10.heap[gb415]? = some (.cells #[c0_, c1_, c2_, c3_, c4_] 50 (0, 0))) := ⟨h1_⟩
 have n2_ : Aside0 (w10.heap[gb416]? = some (.cells #[.int .i64 a1_0, .int .i64 a1_1] 55 (0, 0))) := ⟨h2_⟩
 have n3_ : Aside0 (Below w.heap.size w w10) := ⟨h3_⟩
 clear BK415
 clear BK416
 clear HB
 clear h0_ h1_ h2_ h3_
 have HO420 := n0_
 have BK415 := n1_
 have BK416 := n2_
 have HB := n3_
 clear n0_ n1_ n2_ n3_
 have hHeld : w10.cell? ⟨gb416, 0, none⟩ = some (.int .i64 a1_0) ∧ w10.cell? ⟨gb416, 1, none⟩ = some (.int .i64 a1_1) := hS_
 obtain ⟨Ao11, co11, eo11⟩ := Kd.R_slice HO420.out
 (first | subst eo11 | (injection eo11 with f1_ f2_ f3_; have f4_ := f1_.symm; have f5_ := f3_.symm; clear f1_ f2_ f3_; subst f4_; subst f5_))
 refine norm_ (a' := ?_) ?_ ?_
 rotate_left
 ·simp only [putAll, Act.put, sa, sz, ss]
  rfl
 refine pure_ (i := 4) (N := some 9) (v := ?_) (a' := ?_) (bv 6 31) rfl rfl (by kernel_rfl) (fun _ _ _ h => h) (Or.inl ⟨by rfl, ?_⟩) ?_ ?_
 rotate_left
 ·intro w'
  go_simp
  with_reducible rfl
 rotate_left
 ·simp only [Act.put, sa, sz, ss, i64_w, i32_w]
  rfl
 refine one_ (i := 5) (N := none) (bv 6 63) rfl rfl (by kernel_rfl) (by decide) (fun K hK => ?_)
 have hs12 := bk w10 BK415 0
 have hfs12 := bf BK415 0
 have hns12_1 := NB416_415.out
 have hms12_1 := NB415_416.out
 have hs13 := bk w10 BK415 1
 have hfs13 := bf BK415 1
 have hns13_1 := NB416_415.out
 have hms13_1 := NB415_416.out
 have hs14 := bk w10 BK415 2
 have hfs14 := bf BK415 2
 have hns14_1 := NB416_415.out
 have hms14_1 := NB415_416.out
 have hs15 := bk w10 BK415 3
 have hfs15 := bf BK415 3
 have hns15_1 := NB416_415.out
 have hms15_1 := NB415_416.out
 have hs16 := bk w10 BK415 4
 have hfs16 := bf BK415 4
 have hns16_1 := NB416_415.out
 have hms16_1 := NB415_416.out
 refine skip_ (w1 := ?_) (by rfl) rfl ?_ ?_
 rotate_left
 ·go_simp
  rfl
 refine hK.out _ _ ⟨((cell_far (p := ⟨gb415, _, none⟩) NB416_415.out _).trans (((cell_far (p := ⟨gb415, _, none⟩) NB416_415.out _).trans (((cell_far (p := ⟨gb415, _, none⟩) NB416_415.out _).trans (((cell_far (p := ⟨gb415, _, none⟩) NB416_415.out _).trans (((cell_far (p := ⟨gb415, _, none⟩) NB416_415.out _).trans (hHeld.1)))))))))), ((cell_far (p := ⟨gb415, _, none⟩) NB416_415.out _).trans (((cell_far (p := ⟨gb415, _, none⟩) NB416_415.out _).trans (((cell_far (p := ⟨gb415, _, none⟩) NB416_415.out _).trans (((cell_far (p := ⟨gb415, _, none⟩) NB416_415.out _).trans (((cell_far (p := ⟨gb415, _, none⟩) NB416_415.out _).trans (hHeld.2))))))))))⟩ (fun hHeld => ?_)
 clear hK K
 refine done_ (by kernel_rfl) ?_
 try go_wp2
 go_end0
 exact ⟨_, _, _, rfl, (by first | exact Kd.R_nil _ _ _ _ _ | exact Kd.R_mono HO420.out (fun _ _ => trivial)), (by first | exact Kd.R_nil _ _ _ _ _ | exact Kd.R_mono HO420.out (fun _ _ => trivial)), HB.out, rfl⟩

def impl_constant.f (a0 : Int) : Option (Int × Int) := some (2, a0)
theorem impl_constant.calls (a0 : Int) (r1 : Int) (r2 : Int) (w : World) (h : impl_constant.f a0 = some (r1, r2)) :
  Calls Try.prog 44 #[.int .i64 a0] w fun e w' => e = .returned (.agg #[.int .i64 r1, .int .i64 r2]) ∧ Below w.heap.size w w' := by
 have hu55 := Try.underlying55
 have HB := am (Below.refl w.heap.size w)
 have H : (some (2, a0)) = some (r1, r2) := h
 clear h
 simp only [Option.some.injEq, Prod.mk.injEq] at H
 obtain ⟨rfl, rfl⟩ := H
 go_enter Try.func44, Try.ntmps44
 go_wp2_with (first | ((with_reducible refine gd 2 rfl ?_); refine bX 2 #[.int .i64 0, .int .i64 0] 55 HB ?_; clear HB; intro gb421 w2 hg hb BK421 GW421 HB; clear hb hg; have hcz3 := bK w2 BK421; have hfz3 := bF BK421))
 refine bodyPost_ret (results_cell_row rfl _ _ gb421 55 #[.int .i64 2, .int .i64 a0] (0, 0) _ rfl (bt BK421) Try.underlying55 rfl (by kernel_rfl)) rfl ?_
 exact ⟨er, bw HB⟩

def impl_loc.f (a0 : Int) : Option (Int × Int) := some (1, a0)
theorem impl_loc.calls (a0 : Int) (r1 : Int) (r2 : Int) (w : World) (h : impl_loc.f a0 = some (r1, r2)) :
  Calls Try.prog 45 #[.int .i64 a0] w fun e w' => e = .returned (.agg #[.int .i64 r1, .int .i64 r2]) ∧ Below w.heap.size w w' := by
 have hu55 := Try.underlying55
 have HB := am (Below.refl w.heap.size w)
 have H : (some (1, a0)) = some (r1, r2) := h
 clear h
 simp only [Option.some.injEq, Prod.mk.injEq] at H
 obtain ⟨rfl, rfl⟩ := H
 go_enter Try.func45, Try.ntmps45
 go_wp2_with (first | ((with_reducible refine gd 2 rfl ?_); refine bX 2 #[.int .i64 0, .int .i64 0] 55 HB ?_; clear HB; intro gb422 w2 hg hb BK422 GW422 HB; clear hb hg; have hcz3 := bK w2 BK422; have hfz3 := bF BK422))
 refine bodyPost_ret (results_cell_row rfl _ _ gb422 55 #[.int .i64 1, .int .i64 a0] (0, 0) _ rfl (bt BK422) Try.underlying55 rfl (by kernel_rfl)) rfl ?_
 exact ⟨er, bw HB⟩

def impl_memories.l0 : Nat → Int → Int → List (S55) → Int → Option ((List (S55)))
 | 0, _, _, _, _ => none
 | k + 1, x0, x1, x5, x6 => if x6 < (wrap64 (x0 + x1)) then ((impl_memory.f x6).bind fun t423 => ((impl_loc.f t423).bind fun bt424 => (if x5.length < 8796093022208 then (impl_memories.l0 k x0 x1 (x5 ++ [(⟨bt424.1, bt424.2⟩ : S55)]) (wrap64 (x6 + 1))) else (none)))) else (some x5)
def impl_memories.f (k : Nat) (a0 : Int) (a1 : Int) : Option ((List (S55))) := impl_memories.l0 k a0 a1 ([] : List (S55)) a0
theorem impl_memories.mono_l : ∀ k, (∀ y0 y1 y2 y3, LeO (impl_memories.l0 k y0 y1 y2 y3) (impl_memories.l0 (k + 1) y0 y1 y2 y3))
 | 0 => fun _ _ _ _ r h => by simp [impl_memories.l0] at h
 | k + 1 => by
  have ih0 := impl_memories.mono_l k
  ·intro y0 y1 y2 y3
   unfold impl_memories.l0
   with_reducible repeat' first | exact ih0 .. | exact LeO.refl _ | exact LeO.none _ | refine LeO.ite ?_ ?_ | refine LeO.bind ?_ (fun _ => ?_)
theorem impl_memories.mono : ∀ a0 a1 k, LeO (impl_memories.f k a0 a1) (impl_memories.f (k + 1) a0 a1) := by
 intro a0 a1 k
 have ih0 := impl_memories.mono_l k
 unfold impl_memories.f
 with_reducible repeat' first | exact ih0 .. | exact LeO.refl _ | exact LeO.none _ | refine LeO.ite ?_ ?_ | refine LeO.bind ?_ (fun _ => ?_)
theorem impl_memories.calls (k : Nat) (a0 : Int) (a1 : Int) (r : List (S55)) (w : World) (h : impl_memories.f k a0 a1 = some r) :
  Calls Try.prog 46 #[.int .i64 a0, .int .i64 a1] w fun e w' => ∃ v0_ : Value, e = .returned (v0_) ∧ Kd.R k55 55 w' w.heap.size (fun _ => True) v0_ r ∧ Below w.heap.size w w' := by
 have HB := am (Below.refl w.heap.size w)
 have H : (impl_memories.l0 k a0 a1 ([] : List (S55)) a0) = some r := h
 clear h
 have H' := am H
 clear H
 go_enter Try.func46, Try.ntmps46
 go_wp2
 go_loopg [5, 6] k (fun kq v5 v6 w' => ∃ (x5_1 : List (S55)) (x6_1 : Int), v6 = .int .i64 x6_1 ∧ Aside0 (impl_memories.l0 kq a0 a1 x5_1 x6_1 = some r) ∧ Aside0 (kq ≤ k) ∧ Aside0 (Kd.R k55 55 w' w.heap.size (fun _ => True) v5 x5_1) ∧ Aside0 (Below w.heap.size w w'))
 case atStart => exact ⟨(([] : List (S55))), (a0), dr, H', ⟨Nat.le_refl _⟩, ⟨by first | exact Kd.R_nil _ _ _ _ _ | exact Kd.N_nil _ _ _ _ _ | exact Kd.V_nil _ _ _ _ _ | exact Kd.Q_nil _ _ _ _ _ | exact Kd.S_nil _ _ _ _ _⟩, ⟨bw HB⟩⟩
 clear H'
 try clear p2
 obtain ⟨x5_1, x6_1, rfl, HA, HK1, HO_5, HB⟩ := hrel
 rcases gk with _ | k1
 ·exact absurd HA.out (by simp [impl_memories.l0])
 have H := HA.out
 clear HA
 simp only [impl_memories.l0] at H
 refine qI H ?_ ?_ <;> clear H <;> intro c3b0 H
 ·refine be H ?_; clear H; intro t423 A4 H
  replace H := Option.bind_eq_some_iff.mp H
  obtain ⟨⟨t424, t425⟩, A50, H⟩ := H
  replace H : (if x5_1.length < 8796093022208 then (impl_memories.l0 k1 a0 a1 (x5_1 ++ [(⟨t424, t425⟩ : S55)]) (wrap64 (x6_1 + 1))) else (none)) = some r := H
  have A5 := am A50
  clear A50
  refine iN H ?_; clear H; intro c6 H
  have LMc6 := am c6
  clear c6
  obtain ⟨y426, hy426⟩ : ∃ y_ : List (S55), y_ = (x5_1 ++ [(⟨t424, t425⟩ : S55)]) := ⟨_, rfl⟩
  replace H : (impl_memories.l0 k1 a0 a1 y426 (wrap64 (x6_1 + 1))) = some r := by first | (rw [hy426]; with_reducible exact H) | (have H2_ := (Option.bind_some _ _).symm.trans H; rw [hy426]; with_reducible exact H2_) | (have H2_ := (Option.bind_some _ _).symm.trans H; with_reducible exact H2_) | with_reducible exact H | (rw [hy426]; exact H) | exact H
  have Ny426 := am hy426
  clear hy426
  have H' := am H
  clear H
  go_wp2_with (first | ((with_reducible refine gate_callee (f := 43) rfl ?_); refine goesL_ (some 17) rfl rfl Try.func43 (by kernel_rfl) rfl #[.int .i64 x6_1] rfl gl ?_; (with_reducible refine (impl_memory.calls x6_1 t423 _ A4.out).mono ?_); rintro e w' ⟨rfl, ⟨nd, rfl⟩⟩; refine ⟨_, rfl, ?_⟩) | ((with_reducible refine gate_callee (f := 45) rfl ?_); refine goesL_ (some 18) rfl rfl Try.func45 (by kernel_rfl) rfl #[.int .i64 t423] rfl gl ?_; (with_reducible refine (impl_loc.calls t423 t424 t425 _ A5.out).mono ?_); rintro e w7 ⟨rfl, hb⟩; refine ⟨_, rfl, ?_⟩; replace HO_5 := am (Kd.R_below (kR HO_5) hb); replace HB := bs HB hb; clear hb) | ((with_reducible refine gate_builtin (b := .append) (xs := #[.tmp 15, .tmp 19]) rfl ?_); at_builtin; refine Kd.R_append k55 (w0 := w) w.heap.size rfl (.tmp 15) (.tmp 19) 47 55 (.agg #[(.int .i64 0), (.int .i64 0)]) 16 rfl Try.underlying47 info55 rfl (by decide) (by omega) u5 x5_1 (⟨t424, t425⟩ : S55) [.int .i64 t424, .int .i64 t425] (fun _ => True) (fun _ => False) rfl rfl ?aP (fun _ hk => hk.elim) ?aF ?aO ?aB ?aS ?aL ?_; (case aP => exact k55_mkM _ _ _ (⟨t424, t425⟩ : S55)); (case aB => exact (bw HB)); (case aF => exact (fun _ _ => trivial)); (case aO => exact (kR HO_5)); (case aS => exact (below_size (bw HB))); (case aL => have := LMc6.out; omega); intro v427 w8 ho hb hg hat; rw [← Ny426.out] at ho; replace HB := am (hb); have HO428 := am (ho); clear HO_5; clear ho hb hg hat))
  go_roundg k1
  case measure => have := HK1.out; omega
  case rel => exact ⟨(y426), (wrap64 (x6_1 + 1)), dr, H', ⟨by have := HK1.out; omega⟩, ⟨kR HO428⟩, ⟨bw HB⟩⟩
 obtain rfl := Option.some.inj H
 go_wp2
 go_ret
 exact ⟨_, er, kR HO_5, bw HB⟩

end Go.Proofs.Ytcdohkilplgmjaa.QFnExactPlain
