import Derived.Test.YtoegdbeajgddiaaCFnExactBeginx0
import Derived.Test.YtoegdbeajgddiaaCFnExactBeginx5
namespace Go.Proofs.Ytoegdbeajgddiaa.QFnExactBegin
open Go.RowKit Go.Proofs.YtoegdbeajgddiaaW
open PrintWords PrintLast PrintMore PrintShort PrintIsh
attribute [local go_sem] max2_int min2_int max_two min_two max_three min_three max_four min_four   -- for this text's walks alone
set_option linter.unusedVariables false
set_option maxHeartbeats 8000000
set_option maxRecDepth 100000
set_option linter.unusedSimpArgs false

def spec_l06Ok.f (k : Nat) (l0_0 : List (S55)) (a1 : Int) (l2 : List Int) (a3 : Int) : Option (Bool) := (spec_l04Is.f k l0_0 a1).bind fun t196 => (if t196 = true then (if 0 ≤ a1 then (if a1 < (l0_0.length : Int) then (if (l2.length : Int) = ((rd_T55 l0_0 a1).f0) then (if a3 ≥ 0 then (some (decide (a3 ≤ 3000))) else (some false)) else (some false)) else (none)) else (none)) else (some false))
theorem spec_l06Ok.mono : ∀ a0 a1 a2 a3 k, LeO (spec_l06Ok.f k a0 a1 a2 a3) (spec_l06Ok.f (k + 1) a0 a1 a2 a3) := by
 intro a0 a1 a2 a3 k
 unfold spec_l06Ok.f
 with_reducible repeat' first | exact spec_l04Is.mono .. | exact LeO.refl _ | exact LeO.none _ | refine LeO.ite ?_ ?_ | refine LeO.bind ?_ (fun _ => ?_)
theorem spec_l06Ok.calls (k : Nat) (A0_0 : Option Addr) (c0_0 : Nat) (l0_0 : List (S55)) (a1 : Int) (A2 : Option Addr) (c2 : Nat) (l2 : List Int) (a3 : Int) (r : Bool) (w : World) (hr0_0 : Kd.C k55 w A0_0 l0_0.length l0_0) (hc0_0 : l0_0.length ≤ c0_0) (hr2 : Kd.C (Kd.int .i64) w A2 l2.length l2) (hc2 : l2.length ≤ c2) (h : spec_l06Ok.f k l0_0 a1 l2 a3 = some r) :
  Calls Try.prog 17 #[.agg #[.slice A0_0 l0_0.length c0_0], .int .i64 a1, .slice A2 l2.length c2, .int .i64 a3] w fun e w' => e = .returned (.bool r) ∧ Below w.heap.size w w' := by
 have hu34 := Try.underlying34
 have HR0_0 := am hr0_0
 have HC0_0 := am hc0_0
 clear hr0_0 hc0_0
 have HR2 := am hr2
 have HC2 := am hc2
 clear hr2 hc2
 have HB := am (Below.refl w.heap.size w)
 have H : ((spec_l04Is.f k l0_0 a1).bind fun t196 => (if t196 = true then (if 0 ≤ a1 then (if a1 < (l0_0.length : Int) then (if (l2.length : Int) = ((rd_T55 l0_0 a1).f0) then (if a3 ≥ 0 then (some (decide (a3 ≤ 3000))) else (some false)) else (some false)) else (none)) else (none)) else (some false))) = some r := h
 clear h
 refine be H ?_; clear H; intro t196 A5 H
 refine qT H ?_ ?_ <;> clear H <;> intro c6 H <;> subst c6
 ·refine iM H ?_; clear H; intro c7b0 H
  refine iM H ?_; clear H; intro c8b0 H
  by_cases c9 : (l2.length : Int) = ((rd_T55 l0_0 a1).f0)
  ·rw [if_pos c9] at H
   have c9b0 : ((l2.length : Int) == ((rd_T55 l0_0 a1).f0)) = true := beq_iff_eq.mpr c9
   have c9b1 : ((l2.length : Int) != ((rd_T55 l0_0 a1).f0)) = false := bne_eq_false_iff_eq.mpr c9
   clear c9
   refine qL H ?_ ?_ <;> clear H <;> intro c10b0 H
   ·obtain rfl := Option.some.inj H
    go_enter Try.func17, Try.ntmps17
    go_wp2_with (first | ((with_reducible refine gate_dst (N := 4) rfl ?_); (try (refine gate_guard (by rfl) ?_; dsimp only)); refine box_event ?hg (N := 4) ?hd (cs := #[.slice A0_0 l0_0.length c0_0]) (t := 34) ?hr ?_; (case hd => rfl); (case hg => rfl); (case hr => exact gs); intro gb195 hg w11 hbox hb; have BK195 := am (hbox); have GW195 := gw hg HB; replace HB := bs HB hb; clear hb hbox hg; have hcz12 := bK w11 BK195; have hfz12 := bF BK195) | ((with_reducible refine gk 33 rfl ?_); refine gB 33 (some 11) Try.func33 #[.agg #[.slice A0_0 l0_0.length c0_0], .int .i64 a1] (spec_l04Is.calls k _ _ l0_0 a1 true _ (cc (Kd.C_below HR0_0.out HB.out)) HC0_0.out A5.out) ?_; intro w13 hb; replace BK195 := bb BK195 hb; replace HB := bs HB hb; clear hb; have hcz14 := bK w13 BK195; have hfz14 := bF BK195; have p197 : 0 ≤ (a1 : Int) := of_decide_eq_true as1; have q197 : a1 < (l0_0.length : Int) := of_decide_eq_true as1; obtain ⟨ad197, A197_2, c197_2, e197, hx197_0, hx197_1, hx197_2, hl197_2, hi197_2⟩ := at_T55 HR0_0.out a1 p197 q197; cases e197; replace hx197_0 := cl HB hx197_0; replace hx197_1 := cl HB hx197_1; replace hx197_2 := cl HB hx197_2; have HR197_2 := am hi197_2; have HC197_2 := am hl197_2; clear hi197_2 hl197_2; replace p197 := eq_true p197; replace q197 := eq_true q197))
    go_ret
    exact ⟨er, bw HB⟩
   obtain rfl := Option.some.inj H
   go_enter Try.func17, Try.ntmps17
   go_wp2_with (first | ((with_reducible refine gate_dst (N := 4) rfl ?_); (try (refine gate_guard (by rfl) ?_; dsimp only)); refine box_event ?hg (N := 4) ?hd (cs := #[.slice A0_0 l0_0.length c0_0]) (t := 34) ?hr ?_; (case hd => rfl); (case hg => rfl); (case hr => exact gs); intro gb195 hg w15 hbox hb; have BK195 := am (hbox); have GW195 := gw hg HB; replace HB := bs HB hb; clear hb hbox hg; have hcz16 := bK w15 BK195; have hfz16 := bF BK195) | ((with_reducible refine gk 33 rfl ?_); refine gB 33 (some 11) Try.func33 #[.agg #[.slice A0_0 l0_0.length c0_0], .int .i64 a1] (spec_l04Is.calls k _ _ l0_0 a1 true _ (cc (Kd.C_below HR0_0.out HB.out)) HC0_0.out A5.out) ?_; intro w17 hb; replace BK195 := bb BK195 hb; replace HB := bs HB hb; clear hb; have hcz18 := bK w17 BK195; have hfz18 := bF BK195; have p197 : 0 ≤ (a1 : Int) := of_decide_eq_true as1; have q197 : a1 < (l0_0.length : Int) := of_decide_eq_true as1; obtain ⟨ad197, A197_2, c197_2, e197, hx197_0, hx197_1, hx197_2, hl197_2, hi197_2⟩ := at_T55 HR0_0.out a1 p197 q197; cases e197; replace hx197_0 := cl HB hx197_0; replace hx197_1 := cl HB hx197_1; replace hx197_2 := cl HB hx197_2; have HR197_2 := am hi197_2; have HC197_2 := am hl197_2; clear hi197_2 hl197_2; replace p197 := eq_true p197; replace q197 := eq_true q197))
   go_ret
   exact ⟨er, bw HB⟩
  rw [if_neg c9] at H
  have c9b0 : ((l2.length : Int) == ((rd_T55 l0_0 a1).f0)) = false := beq_eq_false_iff_ne.mpr c9
  have c9b1 : ((l2.length : Int) != ((rd_T55 l0_0 a1).f0)) = true := bne_iff_ne.mpr c9
  obtain rfl := Option.some.inj H
  go_enter Try.func17, Try.ntmps17
  go_wp2_with (first | ((with_reducible refine gate_dst (N := 4) rfl ?_); (try (refine gate_guard (by rfl) ?_; dsimp only)); refine box_event ?hg (N := 4) ?hd (cs := #[.slice A0_0 l0_0.length c0_0]) (t := 34) ?hr ?_; (case hd => rfl); (case hg => rfl); (case hr => exact gs); intro gb195 hg w19 hbox hb; have BK195 := am (hbox); have GW195 := gw hg HB; replace HB := bs HB hb; clear hb hbox hg; have hcz20 := bK w19 BK195; have hfz20 := bF BK195) | ((with_reducible refine gk 33 rfl ?_); refine gB 33 (some 11) Try.func33 #[.agg #[.slice A0_0 l0_0.length c0_0], .int .i64 a1] (spec_l04Is.calls k _ _ l0_0 a1 true _ (cc (Kd.C_below HR0_0.out HB.out)) HC0_0.out A5.out) ?_; intro w21 hb; replace BK195 := bb BK195 hb; replace HB := bs HB hb; clear hb; have hcz22 := bK w21 BK195; have hfz22 := bF BK195; have p197 : 0 ≤ (a1 : Int) := of_decide_eq_true as1; have q197 : a1 < (l0_0.length : Int) := of_decide_eq_true as1; obtain ⟨ad197, A197_2, c197_2, e197, hx197_0, hx197_1, hx197_2, hl197_2, hi197_2⟩ := at_T55 HR0_0.out a1 p197 q197; cases e197; replace hx197_0 := cl HB hx197_0; replace hx197_1 := cl HB hx197_1; replace hx197_2 := cl HB hx197_2; have HR197_2 := am hi197_2; have HC197_2 := am hl197_2; clear hi197_2 hl197_2; replace p197 := eq_true p197; replace q197 := eq_true q197))
  go_ret
  exact ⟨er, bw HB⟩
 obtain rfl := Option.some.inj H
 go_enter Try.func17, Try.ntmps17
 go_wp2_with (first | ((with_reducible refine gate_dst (N := 4) rfl ?_); (try (refine gate_guard (by rfl) ?_; dsimp only)); refine box_event ?hg (N := 4) ?hd (cs := #[.slice A0_0 l0_0.length c0_0]) (t := 34) ?hr ?_; (case hd => rfl); (case hg => rfl); (case hr => exact gs); intro gb195 hg w23 hbox hb; have BK195 := am (hbox); have GW195 := gw hg HB; replace HB := bs HB hb; clear hb hbox hg; have hcz24 := bK w23 BK195; have hfz24 := bF BK195) | ((with_reducible refine gk 33 rfl ?_); refine gB 33 (some 11) Try.func33 #[.agg #[.slice A0_0 l0_0.length c0_0], .int .i64 a1] (spec_l04Is.calls k _ _ l0_0 a1 false _ (cc (Kd.C_below HR0_0.out HB.out)) HC0_0.out A5.out) ?_; intro w25 hb; replace BK195 := bb BK195 hb; replace HB := bs HB hb; clear hb))
 go_ret
 exact ⟨er, bw HB⟩

def spec_l06Frame.f (l0_0 : List (S55)) (a1 : Int) (l2 : List Int) : Option (Int × Int × List Int × List Int) := if 0 ≤ a1 then (if a1 < (l0_0.length : Int) then (if 0 ≤ ((rd_T55 l0_0 a1).f1) then (if ((rd_T55 l0_0 a1).f1 : Int).toNat ≤ 35184372088832 then (some (a1, 0, (cpy (List.replicate ((rd_T55 l0_0 a1).f1 : Int).toNat 0) l2), ([] : List Int))) else (none)) else (none)) else (none)) else (none)
theorem spec_l06Frame.calls (A0_0 : Option Addr) (c0_0 : Nat) (l0_0 : List (S55)) (a1 : Int) (A2 : Option Addr) (c2 : Nat) (l2 : List Int) (r1 : Int) (r2 : Int) (r3 : List Int) (r4 : List Int) (w : World) (hr0_0 : Kd.C k55 w A0_0 l0_0.length l0_0) (hc0_0 : l0_0.length ≤ c0_0) (hr2 : Kd.C (Kd.int .i64) w A2 l2.length l2) (hc2 : l2.length ≤ c2) (h : spec_l06Frame.f l0_0 a1 l2 = some (r1, r2, r3, r4)) :
  Calls Try.prog 18 #[.agg #[.slice A0_0 l0_0.length c0_0], .int .i64 a1, .slice A2 l2.length c2] w fun e w' => ∃ v2_ v3_ : Value, e = .returned (.agg #[.int .i64 r1, .int .i64 r2, v2_, v3_]) ∧ Kd.R (Kd.int .i64) 2 w' w.heap.size (fun k_ => some k_ ≠ (v3_ : Value).ownBlock) v2_ r3 ∧ Kd.R (Kd.int .i64) 2 w' w.heap.size (fun k_ => some k_ ≠ (v2_ : Value).ownBlock) v3_ r4 ∧ Below w.heap.size w w' := by
 have hu34 := Try.underlying34
 have hu47 := Try.underlying47
 have HR0_0 := am hr0_0
 have HC0_0 := am hc0_0
 clear hr0_0 hc0_0
 have HR2 := am hr2
 have HC2 := am hc2
 clear hr2 hc2
 have HB := am (Below.refl w.heap.size w)
 have H : (if 0 ≤ a1 then (if a1 < (l0_0.length : Int) then (if 0 ≤ ((rd_T55 l0_0 a1).f1) then (if ((rd_T55 l0_0 a1).f1 : Int).toNat ≤ 35184372088832 then (some (a1, 0, (cpy (List.replicate ((rd_T55 l0_0 a1).f1 : Int).toNat 0) l2), ([] : List Int))) else (none)) else (none)) else (none)) else (none)) = some (r1, r2, r3, r4) := h
 clear h
 refine iM H ?_; clear H; intro c4b0 H
 refine iM H ?_; clear H; intro c5b0 H
 refine iN H ?_; clear H; intro c6 H
 have c6b0 := eq_true c6
 have c6b1 := decide_eq_true c6
 clear c6
 refine iN H ?_; clear H; intro c7 H
 have c7b0 := eq_true c7
 have c7b1 := decide_eq_true c7
 clear c7
 obtain ⟨y201, hy201⟩ : ∃ y_ : List Int, y_ = (List.replicate ((rd_T55 l0_0 a1).f1 : Int).toNat 0) := ⟨_, rfl⟩
 replace H : (some (a1, 0, (cpy y201 l2), ([] : List Int))) = some (r1, r2, r3, r4) := by first | (rw [hy201]; with_reducible exact H) | (have H2_ := (Option.bind_some _ _).symm.trans H; rw [hy201]; with_reducible exact H2_) | (have H2_ := (Option.bind_some _ _).symm.trans H; with_reducible exact H2_) | with_reducible exact H | (rw [hy201]; exact H) | exact H
 have Ny201 := am hy201
 clear hy201
 obtain ⟨y204, hy204⟩ : ∃ y_ : List Int, y_ = (cpy y201 l2) := ⟨_, rfl⟩
 replace H : (some (a1, 0, y204, ([] : List Int))) = some (r1, r2, r3, r4) := by first | (rw [hy204]; with_reducible exact H) | (have H2_ := (Option.bind_some _ _).symm.trans H; rw [hy204]; with_reducible exact H2_) | (have H2_ := (Option.bind_some _ _).symm.trans H; with_reducible exact H2_) | with_reducible exact H | (rw [hy204]; exact H) | exact H
 have Ny204 := am hy204
 clear hy204
 simp only [Option.some.injEq, Prod.mk.injEq] at H
 obtain ⟨rfl, rfl, rfl, rfl⟩ := H
 go_enter Try.func18, Try.ntmps18
 go_wp2_with (first | ((with_reducible refine gd 3 rfl ?_); refine bX 3 #[.slice A0_0 l0_0.length c0_0] 34 HB ?_; clear HB; intro gb198 w8 hg hb BK198 GW198 HB; clear hb hg) | ((with_reducible refine gd 6 rfl ?_); refine bX 6 #[.int .i64 0, .int .i64 0, .slice none 0 0, .slice none 0 0] 47 HB ?_; clear HB; intro gb199 w9 hg hb BK199 GW199 HB; obtain ⟨NB198_199, NB199_198, BK198⟩ := b3 hg BK198 hb; clear hb hg; have hnb10 := NB198_199.out; have hnc10 := NB199_198.out; have hcz11 := bK w9 BK198; have hfz11 := bF BK198; have p200 : 0 ≤ (a1 : Int) := of_decide_eq_true as1; have q200 : a1 < (l0_0.length : Int) := of_decide_eq_true as1; obtain ⟨ad200, A200_2, c200_2, e200, hx200_0, hx200_1, hx200_2, hl200_2, hi200_2⟩ := at_T55 HR0_0.out a1 p200 q200; cases e200; replace hx200_0 := cl HB hx200_0; replace hx200_1 := cl HB hx200_1; replace hx200_2 := cl HB hx200_2; have HR200_2 := am hi200_2; have HC200_2 := am hl200_2; clear hi200_2 hl200_2; replace p200 := eq_true p200; replace q200 := eq_true q200) | ((with_reducible refine gate_dst (N := 14) rfl ?_); refine Kd.R_make (Kd.int .i64) _ 2 rfl (N := 14) rfl 25 _ _ rfl ((rd_T55 l0_0 a1).f1) rfl rfl Try.underlying25 (.int .i64 0) 8 info2 rfl (by decide) (by omega) 0 (ok := fun _ => True) (okp := fun _ => True) rfl (fun _ hk => hk) trivial (of_decide_eq_true as1) (Nat.le_trans (Nat.mul_le_mul_right _ (of_decide_eq_true as1 : ((rd_T55 l0_0 a1).f1).toNat ≤ 35184372088832)) (by omega)) (Below.refl _ _) (Nat.le_refl _) ?_; intro v202 w12 ho13 hb hg_ hnew_; clear hg_ hnew_; (first | rw [← Ny201.out] at ho13 | (simp only [Int.reduceToNat] at ho13; rw [← Ny201.out] at ho13)); have HO203 := am (Kd.R_lower ho13 (below_size (bw HB))); replace BK198 := bb BK198 hb; replace BK199 := bb BK199 hb; replace HB := bs HB hb; clear hb ho13) | ((with_reducible refine gate_builtin (b := .copy) (xs := #[.tmp 15, .tmp 16]) rfl ?_); have hinf_ : (Try.prog.info? 2).map (·.size) = some 1 := (by kernel_rfl); refine R_copy_rows (α := Int) (enc := Value.int .i64) (h1 := fun _ => rfl) (Rr := fun x cs => cs = [Value.int .i64 x]) (w0 := w) w.heap.size rfl (.tmp 15) (.tmp 16) 25 2 rfl Try.underlying25 hinf_ v202 y201 l2 _ _ _ (fun _ => True) rfl rfl HO203.out (Kd.C_below HR2.out HB.out) (fun _ _ h => h) HB.out ?_; intro w14 hp_ hb hg; rw [← Ny204.out] at hp_; replace BK198 := bg BK198 hg (Kd.R_ne HO203.out BK198.out (by decide)); replace BK199 := bg BK199 hg (Kd.R_ne HO203.out BK199.out (by decide)); replace HO203 := am (hp_); replace HB := am (hb); clear hg hb hp_; obtain ⟨Ao15, co15, eo15⟩ := Kd.R_slice HO203.out; subst eo15; have hcz16 := bK w14 BK199; have hfz16 := bF BK199))
 refine bodyPost_ret (results_cell_row rfl _ _ gb199 47 #[.int .i64 a1, .int .i64 0, .slice Ao15 y204.length co15, .slice none 0 0] (0, 0) _ rfl (bt BK199) Try.underlying47 rfl (by kernel_rfl)) rfl ?_
 exact ⟨_, _, er, by (with_reducible repeat (first | apply Kd.R_alloc | apply Kd.R_drewN | apply Kd.R_drew)); exact Kd.R_mono (Kd.R_far (p := ⟨gb199, 3, none⟩) (Kd.R_far (p := ⟨gb199, 2, none⟩) (Kd.R_far (p := ⟨gb199, 1, none⟩) (Kd.R_far (p := ⟨gb199, 0, none⟩) (Kd.R_types HO203.out BK199.out (by decide)) (fun _ hk => hk.2) (.int .i64 a1)) (fun _ hk => hk.2) (.int .i64 0)) (fun _ hk => hk.2) (.slice Ao15 y204.length co15)) (fun _ hk => hk.2) (.slice none 0 0)) (fun _ hk => (by simp [Value.ownBlock])), by first | exact Kd.R_nil _ _ _ _ _ | exact Kd.N_nil _ _ _ _ _ | exact Kd.V_nil _ _ _ _ _ | exact Kd.Q_nil _ _ _ _ _ | exact Kd.S_nil _ _ _ _ _, bw HB⟩

def spec_Begin.f (k : Nat) (l0_0 : List (S55)) (a1 : Int) (l2 : List Int) (a3 : Int) : Option ((List (S47)) × (List (List Int)) × List Int × Int × Bool × Int × Int) := if (l2.length : Int) > 400 then (some (([] : List (S47)), ([] : List (List Int)), ([] : List Int), 0, false, 0, 0)) else ((spec_l06Ok.f k l0_0 a1 l2 a3).bind fun t207 => (if t207 = true then ((spec_l06Frame.f l0_0 a1 l2).bind fun bt208 => (some ((([(⟨bt208.1, bt208.2.1, bt208.2.2.1, bt208.2.2.2⟩ : S47)] : List (S47))), ([] : List (List Int)), ([] : List Int), a3, false, 0, 0))) else (some (([] : List (S47)), ([] : List (List Int)), ([] : List Int), 0, false, 0, 0))))
theorem spec_Begin.mono : ∀ a0 a1 a2 a3 k, LeO (spec_Begin.f k a0 a1 a2 a3) (spec_Begin.f (k + 1) a0 a1 a2 a3) := by
 intro a0 a1 a2 a3 k
 unfold spec_Begin.f
 with_reducible repeat' first | exact spec_l06Ok.mono .. | exact LeO.refl _ | exact LeO.none _ | refine LeO.ite ?_ ?_ | refine LeO.bind ?_ (fun _ => ?_)
theorem spec_Begin.calls (k : Nat) (A0_0 : Option Addr) (c0_0 : Nat) (l0_0 : List (S55)) (a1 : Int) (A2 : Option Addr) (c2 : Nat) (l2 : List Int) (a3 : Int) (r1 : List (S47)) (r2 : List (List Int)) (r3 : List Int) (r4 : Int) (r5 : Bool) (r6 : Int) (r7 : Int) (w : World) (hr0_0 : Kd.C k55 w A0_0 l0_0.length l0_0) (hc0_0 : l0_0.length ≤ c0_0) (hr2 : Kd.C (Kd.int .i64) w A2 l2.length l2) (hc2 : l2.length ≤ c2) (h : spec_Begin.f k l0_0 a1 l2 a3 = some (r1, r2, r3, r4, r5, r6, r7)) :
  Calls Try.prog 5 #[.agg #[.slice A0_0 l0_0.length c0_0], .int .i64 a1, .slice A2 l2.length c2, .int .i64 a3] w fun e w' => ∃ v0_ v1_ v2_ : Value, e = .returned (.agg #[v0_, v1_, v2_, .int .i64 r4, .bool r5, .int .i64 r6, .int .i64 r7]) ∧ Kd.N k47 47 w' w.heap.size (fun k_ => (w.heap.size ≤ k_) ∧ some k_ ≠ (v1_ : Value).ownBlock ∧ some k_ ≠ (v2_ : Value).ownBlock) v0_ r1 ∧ Kd.N (Kd.slice 2 (Kd.int .i64)) 25 w' w.heap.size (fun k_ => (w.heap.size ≤ k_) ∧ some k_ ≠ (v0_ : Value).ownBlock ∧ some k_ ≠ (v2_ : Value).ownBlock) v1_ r2 ∧ Kd.R (Kd.int .i64) 2 w' w.heap.size (fun k_ => (w.heap.size ≤ k_)) v2_ r3 ∧ Below w.heap.size w w' := by
 have hu34 := Try.underlying34
 have hu30 := Try.underlying30
 have HR0_0 := am hr0_0
 have HC0_0 := am hc0_0
 clear hr0_0 hc0_0
 have HR2 := am hr2
 have HC2 := am hc2
 clear hr2 hc2
 have HB := am (Below.refl w.heap.size w)
 have H : (if (l2.length : Int) > 400 then (some (([] : List (S47)), ([] : List (List Int)), ([] : List Int), 0, false, 0, 0)) else ((spec_l06Ok.f k l0_0 a1 l2 a3).bind fun t207 => (if t207 = true then ((spec_l06Frame.f l0_0 a1 l2).bind fun bt208 => (some ((([(⟨bt208.1, bt208.2.1, bt208.2.2.1, bt208.2.2.2⟩ : S47)] : List (S47))), ([] : List (List Int)), ([] : List Int), a3, false, 0, 0))) else (some (([] : List (S47)), ([] : List (List Int)), ([] : List Int), 0, false, 0, 0))))) = some (r1, r2, r3, r4, r5, r6, r7) := h
 clear h
 refine qG H ?_ ?_ <;> clear H <;> intro c5b0 H
 ·have c5 := of_decide_eq_true c5b0
  have c5b1 : decide (400 < l2.length) = true := decide_eq_true (by omega)
  clear c5
  simp only [Option.some.injEq, Prod.mk.injEq] at H
  obtain ⟨rfl, rfl, rfl, rfl, rfl, rfl, rfl⟩ := H
  go_enter Try.func5, Try.ntmps5
  go_wp2_with (first | ((with_reducible refine gd 4 rfl ?_); refine bX 4 #[.slice A0_0 l0_0.length c0_0] 34 HB ?_; clear HB; intro gb205 w6 hg hb BK205 GW205 HB; clear hb hg) | ((with_reducible refine gd 8 rfl ?_); refine bX 8 #[.slice none 0 0, .slice none 0 0, .slice none 0 0, .int .i64 0, .bool false, .int .i64 0, .int .i64 0] 30 HB ?_; clear HB; intro gb206 w7 hg hb BK206 GW206 HB; obtain ⟨NB205_206, NB206_205, BK205⟩ := b3 hg BK205 hb; clear hb hg; have hnb8 := NB206_205.out; have hnc8 := NB205_206.out; have hcz9_0 := bk w7 BK206 0; have hcz9_1 := bk w7 BK206 1; have hcz9_2 := bk w7 BK206 2; have hcz9_3 := bk w7 BK206 3; have hcz9_4 := bk w7 BK206 4; have hcz9_5 := bk w7 BK206 5; have hcz9_6 := bk w7 BK206 6; have hfz9_0 := bf BK206 0; have hfz9_1 := bf BK206 1; have hfz9_2 := bf BK206 2; have hfz9_3 := bf BK206 3; have hfz9_4 := bf BK206 4; have hfz9_5 := bf BK206 5; have hfz9_6 := bf BK206 6))
  refine bodyPost_ret (results_cell_row rfl _ _ gb206 30 #[.slice none 0 0, .slice none 0 0, .slice none 0 0, .int .i64 0, .bool false, .int .i64 0, .int .i64 0] (0, 0) _ rfl (bt BK206) Try.underlying30 rfl (by kernel_rfl)) rfl ?_
  exact ⟨_, _, _, er, by first | exact Kd.S_nil _ _ _ _ _ | exact Kd.N_nil _ _ _ _ _ | exact Kd.V_nil _ _ _ _ _ | exact Kd.Q_nil _ _ _ _ _ | exact Kd.R_nil _ _ _ _ _, by first | exact Kd.S_nil _ _ _ _ _ | exact Kd.N_nil _ _ _ _ _ | exact Kd.V_nil _ _ _ _ _ | exact Kd.Q_nil _ _ _ _ _ | exact Kd.R_nil _ _ _ _ _, by first | exact Kd.R_nil _ _ _ _ _ | exact Kd.N_nil _ _ _ _ _ | exact Kd.V_nil _ _ _ _ _ | exact Kd.Q_nil _ _ _ _ _ | exact Kd.S_nil _ _ _ _ _, bw HB⟩
 have c5 := of_decide_eq_false c5b0
 have c5b1 : decide (400 < l2.length) = false := decide_eq_false (by omega)
 clear c5
 refine be H ?_; clear H; intro t207 A10 H
 have HC11 := am H
 clear H
 go_enter Try.func5, Try.ntmps5
 go_upto_if 19 with (first | ((with_reducible refine gd 4 rfl ?_); refine bX 4 #[.slice A0_0 l0_0.length c0_0] 34 HB ?_; clear HB; intro gb205 w12 hg hb BK205 GW205 HB; clear hb hg) | ((with_reducible refine gd 8 rfl ?_); refine bX 8 #[.slice none 0 0, .slice none 0 0, .slice none 0 0, .int .i64 0, .bool false, .int .i64 0, .int .i64 0] 30 HB ?_; clear HB; intro gb206 w13 hg hb BK206 GW206 HB; obtain ⟨NB205_206, NB206_205, BK205⟩ := b3 hg BK205 hb; clear hb hg; have hnb14 := NB205_206.out; have hnc14 := NB206_205.out; have hcz15 := bK w13 BK205; have hfz15 := bF BK205) | (go_at_call 17; refine (spec_l06Ok.calls k _ _ l0_0 a1 _ _ l2 a3 t207 _ (cc (Kd.C_below HR0_0.out HB.out)) HC0_0.out (cc (Kd.C_below HR2.out HB.out)) HC2.out A10.out).mono ?_; rintro e w16 ⟨rfl, hb⟩; replace BK205 := bb BK205 hb; replace BK206 := bb BK206 hb; replace HB := bs HB hb; clear hb))
 (try simp only [Act.put, sa, sz, ss])
 have H := HC11.out
 clear HC11
 refine qT H ?_ ?_ <;> clear H <;> intro c17 H <;> subst c17
 ·replace H := Option.bind_eq_some_iff.mp H
  obtain ⟨⟨t208, t209, t210, t213⟩, A180, H⟩ := H
  replace H : (some ((([(⟨t208, t209, t210, t213⟩ : S47)] : List (S47))), ([] : List (List Int)), ([] : List Int), a3, false, 0, 0)) = some (r1, r2, r3, r4, r5, r6, r7) := H
  have A18 := am A180
  clear A180
  obtain ⟨y216, hy216⟩ : ∃ y_ : List (S47), y_ = (([(⟨t208, t209, t210, t213⟩ : S47)] : List (S47))) := ⟨_, rfl⟩
  replace H : (some (y216, ([] : List (List Int)), ([] : List Int), a3, false, 0, 0)) = some (r1, r2, r3, r4, r5, r6, r7) := by first | (rw [hy216]; with_reducible exact H) | (have H2_ := (Option.bind_some _ _).symm.trans H; rw [hy216]; with_reducible exact H2_) | (have H2_ := (Option.bind_some _ _).symm.trans H; with_reducible exact H2_) | with_reducible exact H | (rw [hy216]; exact H) | exact H
  have Ny216 := am hy216
  clear hy216
  simp only [Option.some.injEq, Prod.mk.injEq] at H
  obtain ⟨rfl, rfl, rfl, rfl, rfl, rfl, rfl⟩ := H
  have hnb19 := NB205_206.out
  have hnc19 := NB206_205.out
  have hcz20 := bK w16 BK205
  have hfz20 := bF BK205
  go_wp2_with (first | ((with_reducible refine gk 18 rfl ?_); refine gC 18 (some 24) Try.func18 #[.agg #[.slice A0_0 l0_0.length c0_0], .int .i64 a1, .slice A2 l2.length c2] ((spec_l06Frame.calls _ _ l0_0 a1 _ _ l2 t208 t209 t210 t213 _ (cc (Kd.C_below HR0_0.out HB.out)) HC0_0.out (cc (Kd.C_below HR2.out HB.out)) HC2.out A18.out).mono ?_); rintro e w21 ⟨v211, v214, rfl, ho0, ho1, hb⟩; refine ⟨_, rfl, ?_⟩; have HO212 := am (Kd.R_lower (Kd.R_newM (M := fun k_ => (w.heap.size ≤ k_)) ho0 (below_size (bw HB)) (fun k_ h_ => h_)) (below_size (bw HB))); have HO215 := am (Kd.R_lower (Kd.R_newM (M := fun k_ => (w.heap.size ≤ k_)) ho1 (below_size (bw HB)) (fun k_ h_ => h_)) (below_size (bw HB))); replace BK205 := bb BK205 hb; replace BK206 := bb BK206 hb; replace HB := bs HB hb; clear hb; (try clear ho0); (try clear ho1); obtain ⟨Ao22, co22, eo22⟩ := Kd.R_slice HO212.out; subst eo22; obtain ⟨Ao23, co23, eo23⟩ := Kd.R_slice HO215.out; subst eo23) | ((with_reducible refine gate_dst (N := 25) rfl ?_); refine Kd.N_lit k47 _ 47 ?hg (N' := 25) ?hd (xs := ([(⟨t208, t209, t210, t213⟩ : S47)] : List (S47))) (inner := [.int .i64 t208, .int .i64 t209, .slice Ao22 t210.length co22, .slice Ao23 t213.length co23]) (ok := (fun k_ => (w.heap.size ≤ k_) ∧ k_ ≠ gb205 ∧ k_ ≠ gb206)) (okp := (fun k_ => (w.heap.size ≤ k_) ∧ k_ ≠ gb205 ∧ k_ ≠ gb206)) ?hr ?hp (fun _ hk => hk) ((show ∀ k_, w21.heap.size ≤ k_ → (fun k_ => (w.heap.size ≤ k_) ∧ k_ ≠ gb205 ∧ k_ ≠ gb206) k_ from fun k_ hk => ⟨(Nat.le_trans (below_size (bw HB)) hk), Kd.freshB (g := gb205) (o := .cells #[.slice A0_0 l0_0.length c0_0] 34 (0, 0)) (bp BK205) k_ hk, Kd.freshB (g := gb206) (o := .cells #[.slice none 0 0, .slice none 0 0, .slice none 0 0, .int .i64 0, .bool false, .int .i64 0, .int .i64 0] 30 (0, 0)) (bp BK206) k_ hk⟩) _ (Nat.le_refl _)) (Below.refl _ _) (Nat.le_refl _) (by simp) ?_; (case hd => rfl); (case hg => rfl); (case hr => exact gs); (case hp => exact (Reps.c4 (show Kd.FK k47 _ _ (⟨t208, t209, t210, t213⟩ : S47) [.int .i64 t208, .int .i64 t209, .slice Ao22 t210.length co22, .slice Ao23 t213.length co23] from (k47_mkF _ _ (⟨t208, t209, t210, t213⟩ : S47) (Kd.R_reads' (Kd.R_mono (ok' := (fun k_ => (w.heap.size ≤ k_) ∧ k_ ≠ gb205 ∧ k_ ≠ gb206)) (Kd.R_types (Kd.R_types (HO212.out) BK205.out (by decide)) BK206.out (by decide)) (fun k_ hk => ⟨hk.1.1.1, ⟨hk.1.2, hk.2⟩⟩))).2.1 (Kd.R_F (Kd.R_mono (ok' := (fun k_ => (w.heap.size ≤ k_) ∧ k_ ≠ gb205 ∧ k_ ≠ gb206)) (Kd.R_types (Kd.R_types (HO212.out) BK205.out (by decide)) BK206.out (by decide)) (fun k_ hk => ⟨hk.1.1.1, ⟨hk.1.2, hk.2⟩⟩))) (Kd.R_reads' (Kd.R_mono (ok' := (fun k_ => (w.heap.size ≤ k_) ∧ k_ ≠ gb205 ∧ k_ ≠ gb206)) (Kd.R_types (Kd.R_types (HO215.out) BK205.out (by decide)) BK206.out (by decide)) (fun k_ hk => ⟨hk.1.1.1, ⟨hk.1.2, hk.2⟩⟩))).2.1 (Kd.R_F (Kd.R_mono (ok' := (fun k_ => (w.heap.size ≤ k_) ∧ k_ ≠ gb205 ∧ k_ ≠ gb206)) (Kd.R_types (Kd.R_types (HO215.out) BK205.out (by decide)) BK206.out (by decide)) (fun k_ hk => ⟨hk.1.1.1, ⟨hk.1.2, hk.2⟩⟩))))) (Reps.none _ _))); intro v217 w24 ho25 hb hg_ hnew_; clear hg_ hnew_; (first | rw [← Ny216.out] at ho25 | (simp only [Int.reduceToNat] at ho25; rw [← Ny216.out] at ho25)); have HO218 := am (Kd.N_lower ho25 (below_size (bw HB))); replace BK205 := bb BK205 hb; replace BK206 := bb BK206 hb; replace HB := bs HB hb; clear HO212; clear HO215; clear hb ho25; obtain ⟨Ao26, co26, eo26⟩ := Kd.N_slice HO218.out; subst eo26; have hcz27_0 := bk w24 BK206 0; have hcz27_1 := bk w24 BK206 1; have hcz27_2 := bk w24 BK206 2; have hcz27_3 := bk w24 BK206 3; have hcz27_4 := bk w24 BK206 4; have hcz27_5 := bk w24 BK206 5; have hcz27_6 := bk w24 BK206 6; have hfz27_0 := bf BK206 0; have hfz27_1 := bf BK206 1; have hfz27_2 := bf BK206 2; have hfz27_3 := bf BK206 3; have hfz27_4 := bf BK206 4; have hfz27_5 := bf BK206 5; have hfz27_6 := bf BK206 6))
  refine bodyPost_ret (results_cell_row rfl _ _ gb206 30 #[.slice Ao26 y216.length co26, .slice none 0 0, .slice none 0 0, .int .i64 a3, .bool false, .int .i64 0, .int .i64 0] (0, 0) _ rfl (bt BK206) Try.underlying30 rfl (by kernel_rfl)) rfl ?_
  exact ⟨_, _, _, er, by (with_reducible repeat (first | apply Kd.N_alloc | apply Kd.N_drewN | apply Kd.N_drew)); exact Kd.N_mono (Kd.N_far (p := ⟨gb206, 6, none⟩) (Kd.N_far (p := ⟨gb206, 5, none⟩) (Kd.N_far (p := ⟨gb206, 4, none⟩) (Kd.N_far (p := ⟨gb206, 3, none⟩) (Kd.N_far (p := ⟨gb206, 2, none⟩) (Kd.N_far (p := ⟨gb206, 1, none⟩) (Kd.N_far (p := ⟨gb206, 0, none⟩) (Kd.N_mono HO218.out (fun k_ hk => (⟨hk, hk.2.2⟩ : _ ∧ k_ ≠ gb206))) (fun _ hk => hk.2) (.slice Ao26 y216.length co26)) (fun _ hk => hk.2) (.slice none 0 0)) (fun _ hk => hk.2) (.slice none 0 0)) (fun _ hk => hk.2) (.int .i64 a3)) (fun _ hk => hk.2) (.bool false)) (fun _ hk => hk.2) (.int .i64 0)) (fun _ hk => hk.2) (.int .i64 0)) (fun _ hk => ⟨hk.1.1, ⟨(by simp [Value.ownBlock]), (by simp [Value.ownBlock])⟩⟩), by first | exact Kd.S_nil _ _ _ _ _ | exact Kd.N_nil _ _ _ _ _ | exact Kd.V_nil _ _ _ _ _ | exact Kd.Q_nil _ _ _ _ _ | exact Kd.R_nil _ _ _ _ _, by first | exact Kd.R_nil _ _ _ _ _ | exact Kd.N_nil _ _ _ _ _ | exact Kd.V_nil _ _ _ _ _ | exact Kd.Q_nil _ _ _ _ _ | exact Kd.S_nil _ _ _ _ _, bw HB⟩
 simp only [Option.some.injEq, Prod.mk.injEq] at H
 obtain ⟨rfl, rfl, rfl, rfl, rfl, rfl, rfl⟩ := H
 have hnb28 := NB206_205.out
 have hnc28 := NB205_206.out
 have hcz29_0 := bk w16 BK206 0
 have hcz29_1 := bk w16 BK206 1
 have hcz29_2 := bk w16 BK206 2
 have hcz29_3 := bk w16 BK206 3
 have hcz29_4 := bk w16 BK206 4
 have hcz29_5 := bk w16 BK206 5
 have hcz29_6 := bk w16 BK206 6
 have hfz29_0 := bf BK206 0
 have hfz29_1 := bf BK206 1
 have hfz29_2 := bf BK206 2
 have hfz29_3 := bf BK206 3
 have hfz29_4 := bf BK206 4
 have hfz29_5 := bf BK206 5
 have hfz29_6 := bf BK206 6
 go_wp2
 refine bodyPost_ret (results_cell_row rfl _ _ gb206 30 #[.slice none 0 0, .slice none 0 0, .slice none 0 0, .int .i64 0, .bool false, .int .i64 0, .int .i64 0] (0, 0) _ rfl (bt BK206) Try.underlying30 rfl (by kernel_rfl)) rfl ?_
 exact ⟨_, _, _, er, by first | exact Kd.S_nil _ _ _ _ _ | exact Kd.N_nil _ _ _ _ _ | exact Kd.V_nil _ _ _ _ _ | exact Kd.Q_nil _ _ _ _ _ | exact Kd.R_nil _ _ _ _ _, by first | exact Kd.S_nil _ _ _ _ _ | exact Kd.N_nil _ _ _ _ _ | exact Kd.V_nil _ _ _ _ _ | exact Kd.Q_nil _ _ _ _ _ | exact Kd.R_nil _ _ _ _ _, by first | exact Kd.R_nil _ _ _ _ _ | exact Kd.N_nil _ _ _ _ _ | exact Kd.V_nil _ _ _ _ _ | exact Kd.Q_nil _ _ _ _ _ | exact Kd.S_nil _ _ _ _ _, bw HB⟩

def laws_toIns.f (a0_0 : Int) (a0_1 : Int) : Option (Int × Int) := some (a0_0, a0_1)
theorem laws_toIns.calls (a0_0 : Int) (a0_1 : Int) (r1 : Int) (r2 : Int) (w : World) (h : laws_toIns.f a0_0 a0_1 = some (r1, r2)) :
  Calls Try.prog 46 #[.agg #[.int .i64 a0_0, .int .i64 a0_1]] w fun e w' => e = .returned (.agg #[.int .i64 r1, .int .i64 r2]) ∧ Below w.heap.size w w' := by
 have hu88 := Try.underlying88
 have hu85 := Try.underlying85
 have HB := am (Below.refl w.heap.size w)
 have H : (some (a0_0, a0_1)) = some (r1, r2) := h
 clear h
 simp only [Option.some.injEq, Prod.mk.injEq] at H
 obtain ⟨rfl, rfl⟩ := H
 go_enter Try.func46, Try.ntmps46
 go_wp2_with (first | ((with_reducible refine gd 1 rfl ?_); refine bX 1 #[.int .i64 a0_0, .int .i64 a0_1] 88 HB ?_; clear HB; intro gb219 w2 hg hb BK219 GW219 HB; clear hb hg) | ((with_reducible refine gd 2 rfl ?_); refine bX 2 #[.int .i64 0, .int .i64 0] 85 HB ?_; clear HB; intro gb220 w3 hg hb BK220 GW220 HB; obtain ⟨NB219_220, NB220_219, BK219⟩ := b3 hg BK219 hb; clear hb hg) | ((with_reducible refine gd 3 rfl ?_); refine bX 3 #[.int .i64 0, .int .i64 0] 85 HB ?_; clear HB; intro gb221 w4 hg hb BK221 GW221 HB; obtain ⟨NB219_221, NB221_219, BK219⟩ := b3 hg BK219 hb; obtain ⟨NB220_221, NB221_220, BK220⟩ := b3 hg BK220 hb; clear hb hg; have hnb5 := NB219_220.out; have hnc5 := NB220_219.out; have hnb6 := NB219_221.out; have hnc6 := NB221_219.out; have hcz7 := bK w4 BK219; have hfz7 := bF BK219; have hnb8 := NB221_220.out; have hnc8 := NB220_221.out; have hcz9 := bK w4 BK221; have hfz9 := bF BK221; have hcz10 := bK w4 BK220; have hfz10 := bF BK220))
 refine bodyPost_ret (results_cell_row rfl _ _ gb220 85 #[.int .i64 a0_0, .int .i64 a0_1] (0, 0) _ rfl (bt BK220) Try.underlying85 rfl (by kernel_rfl)) rfl ?_
 exact ⟨er, bw HB⟩

def laws_toInsS.l0 : Nat → List (S88) → List (S85) → Int → Option ((List (S85)))
 | 0, _, _, _ => none
 | k + 1, x0, x3, x4 => if x4 < (x0.length : Int) then (if 0 ≤ x4 then ((laws_toIns.f ((rd_T88 x0 x4).f0) ((rd_T88 x0 x4).f1)).bind fun bt226 => (if x4 < (x3.length : Int) then (laws_toInsS.l0 k x0 (x3.set (x4 : Int).toNat (⟨bt226.1, bt226.2⟩ : S85)) (wrap64 (x4 + 1))) else (none))) else (none)) else (some x3)
def laws_toInsS.f (k : Nat) (l0 : List (S88)) : Option ((List (S85))) := if 0 ≤ (l0.length : Int) then (if ((l0.length : Int) : Int).toNat ≤ 17592186044416 then (laws_toInsS.l0 k l0 (List.replicate ((l0.length : Int) : Int).toNat z85) 0) else (none)) else (none)
theorem laws_toInsS.mono_l : ∀ k, (∀ y0 y1 y2, LeO (laws_toInsS.l0 k y0 y1 y2) (laws_toInsS.l0 (k + 1) y0 y1 y2))
 | 0 => fun _ _ _ r h => by simp [laws_toInsS.l0] at h
 | k + 1 => by
  have ih0 := laws_toInsS.mono_l k
  ·intro y0 y1 y2
   unfold laws_toInsS.l0
   with_reducible repeat' first | exact ih0 .. | exact LeO.refl _ | exact LeO.none _ | refine LeO.ite ?_ ?_ | refine LeO.bind ?_ (fun _ => ?_)
theorem laws_toInsS.mono : ∀ a0 k, LeO (laws_toInsS.f k a0) (laws_toInsS.f (k + 1) a0) := by
 intro a0 k
 have ih0 := laws_toInsS.mono_l k
 unfold laws_toInsS.f
 with_reducible repeat' first | exact ih0 .. | exact LeO.refl _ | exact LeO.none _ | refine LeO.ite ?_ ?_ | refine LeO.bind ?_ (fun _ => ?_)
theorem laws_toInsS.calls (k : Nat) (A0 : Option Addr) (c0 : Nat) (l0 : List (S88)) (r : List (S85)) (w : World) (hr0 : Kd.C k88 w A0 l0.length l0) (hc0 : l0.length ≤ c0) (h : laws_toInsS.f k l0 = some r) :
  Calls Try.prog 42 #[.slice A0 l0.length c0] w fun e w' => ∃ v0_ : Value, e = .returned (v0_) ∧ Kd.R k85 85 w' w.heap.size (fun _ => True) v0_ r ∧ Below w.heap.size w w' := by
 have hu88 := Try.underlying88
 have hu85 := Try.underlying85
 have HR0 := am hr0
 have HC0 := am hc0
 clear hr0 hc0
 have HB := am (Below.refl w.heap.size w)
 have H : (if 0 ≤ (l0.length : Int) then (if ((l0.length : Int) : Int).toNat ≤ 17592186044416 then (laws_toInsS.l0 k l0 (List.replicate ((l0.length : Int) : Int).toNat z85) 0) else (none)) else (none)) = some r := h
 clear h
 refine iN H ?_; clear H; intro c2 H
 have c2b0 := eq_true c2
 have c2b1 := decide_eq_true c2
 clear c2
 refine iN H ?_; clear H; intro c3 H
 have c3b0 := eq_true c3
 have c3b1 := decide_eq_true c3
 clear c3
 obtain ⟨y222, hy222⟩ : ∃ y_ : List (S85), y_ = (List.replicate ((l0.length : Int) : Int).toNat z85) := ⟨_, rfl⟩
 replace H : (laws_toInsS.l0 k l0 y222 0) = some r := by first | (rw [hy222]; with_reducible exact H) | (have H2_ := (Option.bind_some _ _).symm.trans H; rw [hy222]; with_reducible exact H2_) | (have H2_ := (Option.bind_some _ _).symm.trans H; with_reducible exact H2_) | with_reducible exact H | (rw [hy222]; exact H) | exact H
 have Ny222 := am hy222
 clear hy222
 have H' := am H
 clear H
 go_enter Try.func42, Try.ntmps42
 go_wp2_with (first | ((with_reducible refine gate_dst (N := 7) rfl ?_); refine Kd.R_make k85 _ 85 rfl (N := 7) rfl 53 _ _ rfl (l0.length : Int) rfl rfl Try.underlying53 (.agg #[(.int .i64 0), (.int .i64 0)]) 16 info85 rfl (by decide) (by omega) z85 (ok := fun _ => True) (okp := fun _ => True) (k85_mkM _ _ _ z85 ) (fun _ hk => hk) trivial (of_decide_eq_true as1) (Nat.le_trans (Nat.mul_le_mul_right _ (of_decide_eq_true as1 : (l0.length : Int).toNat ≤ 17592186044416)) (by omega)) (Below.refl _ _) (Nat.le_refl _) ?_; intro v223 w4 ho5 hb hg_ hnew_; clear hg_ hnew_; (first | rw [← Ny222.out] at ho5 | (simp only [Int.reduceToNat] at ho5; rw [← Ny222.out] at ho5)); have HO224 := am (Kd.R_lower ho5 (below_size (bw HB))); replace HB := bs HB hb; clear hb ho5))
 go_loopg [4] k (fun kq v4 w' => ∃ (x3_1 : List (S85)) (x4_1 : Int), v4 = .int .i64 x4_1 ∧ Aside0 (laws_toInsS.l0 kq l0 x3_1 x4_1 = some r) ∧ Aside0 (kq ≤ k) ∧ Aside0 (Kd.R k85 85 w' w.heap.size (fun _ => True) v223 x3_1) ∧ Aside0 (Below w.heap.size w w'))
 case atStart => exact ⟨(y222), (0), dr, H', ⟨Nat.le_refl _⟩, ⟨kR HO224⟩, ⟨bw HB⟩⟩
 clear H'
 (try clear c2); (try clear c2b0); (try clear c2b1); (try clear p2); (try clear c3); (try clear c3b0); (try clear c3b1); (try clear c4)
 obtain ⟨x3_1, x4_1, rfl, HA, HK1, HO_3, HB⟩ := hrel
 rcases gk with _ | k1
 ·exact absurd HA.out (by simp [laws_toInsS.l0])
 have H := HA.out
 clear HA
 simp only [laws_toInsS.l0] at H
 refine qI H ?_ ?_ <;> clear H <;> intro c6b0 H
 ·refine iM H ?_; clear H; intro c7b0 H
  replace H := Option.bind_eq_some_iff.mp H
  obtain ⟨⟨t226, t227⟩, A80, H⟩ := H
  replace H : (if x4_1 < (x3_1.length : Int) then (laws_toInsS.l0 k1 l0 (x3_1.set (x4_1 : Int).toNat (⟨t226, t227⟩ : S85)) (wrap64 (x4_1 + 1))) else (none)) = some r := H
  have A8 := am A80
  clear A80
  refine iM H ?_; clear H; intro c9b0 H
  obtain ⟨y228, hy228⟩ : ∃ y_ : List (S85), y_ = (x3_1.set (x4_1 : Int).toNat (⟨t226, t227⟩ : S85)) := ⟨_, rfl⟩
  replace H : (laws_toInsS.l0 k1 l0 y228 (wrap64 (x4_1 + 1))) = some r := by first | (rw [hy228]; with_reducible exact H) | (have H2_ := (Option.bind_some _ _).symm.trans H; rw [hy228]; with_reducible exact H2_) | (have H2_ := (Option.bind_some _ _).symm.trans H; with_reducible exact H2_) | with_reducible exact H | (rw [hy228]; exact H) | exact H
  have Ny228 := am hy228
  clear hy228
  have H' := am H
  clear H
  have p225 : 0 ≤ (x4_1 : Int) := of_decide_eq_true as1
  have q225 : x4_1 < (l0.length : Int) := of_decide_eq_true as1
  obtain ⟨ad225, e225, hx225_0, hx225_1⟩ := at_T88 HR0.out x4_1 p225 q225
  cases e225
  replace hx225_0 := cl HB hx225_0
  replace hx225_1 := cl HB hx225_1
  replace p225 := eq_true p225
  replace q225 := eq_true q225
  go_wp2_with (first | ((with_reducible refine gate_callee (f := 46) rfl ?_); refine goesL_ (some 20) rfl rfl Try.func46 (by kernel_rfl) rfl #[.agg #[.int .i64 ((rd_T88 l0 x4_1).f0), .int .i64 ((rd_T88 l0 x4_1).f1)]] rfl gl ?_; (with_reducible refine (laws_toIns.calls ((rd_T88 l0 x4_1).f0) ((rd_T88 l0 x4_1).f1) t226 t227 _ A8.out).mono ?_); rintro e w11 ⟨rfl, hb⟩; refine ⟨_, rfl, ?_⟩; replace HO_3 := am (Kd.R_below (kR HO_3) hb); replace HB := bs HB hb; clear hb; have p10 : 0 ≤ (x4_1 : Int) := of_decide_eq_true as1; have q10 : (x4_1 : Int) < ((x3_1.length : Int) : Int) := of_decide_eq_true as1; obtain ⟨go10, co10, eo10, gb10, gl10, cl10, HG10⟩ := Kd.R_form HO_3.out (by omega); (first | cases eo10 | (injection eo10 with ea_ en_ ec_; (first | subst ea_ | (injection ea_ with ea_; subst ea_)); subst ec_; clear en_)); have GB10 := am gb10; have GG10 := am HG10; clear gb10 gl10 HG10; obtain ⟨ce10, hcl10, hM10, hcc10, hfr10⟩ := Kd.R_elem HO_3.out z85 (x4_1 : Int) p10 q10; obtain rfl := k85_openM hM10; have hx10_0 : w11.cell? ⟨go10, (x4_1 : Int).toNat * 2, none⟩ = some (.int .i64 ((rd_T85 x3_1 x4_1).f0)) := hcc10 0 _ rfl; have hx10_1 : w11.cell? ⟨go10, (x4_1 : Int).toNat * 2 + 1, none⟩ = some (.int .i64 ((rd_T85 x3_1 x4_1).f1)) := hcc10 1 _ rfl; have hf10_0 : w11.frozen? ⟨go10, (x4_1 : Int).toNat * 2, none⟩ = false := hfr10 0; have hf10_1 : w11.frozen? ⟨go10, (x4_1 : Int).toNat * 2 + 1, none⟩ = false := hfr10 1; (try clear hM10); (try clear hfr10); (try clear hcc10); (try clear hcl10); replace p10 := eq_true p10; replace q10 := eq_true q10; have HX12 := am (show Kd.R k85 85 w11 w.heap.size (fun _ => True) (.slice (some ⟨go10, 0, none⟩) x3_1.length co10) x3_1 from (kR HO_3)); obtain ⟨ce12, hcl12, hM12, hcc12, hfr12⟩ := Kd.R_elem HX12.out z85 (x4_1 : Int) (of_decide_eq_true as1) (by have h_ : (x4_1 : Int) < ((x3_1.length : Int) : Int) := of_decide_eq_true as1; first | exact h_ | (have e_ := (Kd.R_reads' HO_3.out).1; omega) | simpa using h_); obtain rfl := k85_openM hM12; have HP12 := Kd.R_seg HX12.out (x4_1 : Int) (of_decide_eq_true as1) (by have h_ : (x4_1 : Int) < ((x3_1.length : Int) : Int) := of_decide_eq_true as1; first | exact h_ | (have e_ := (Kd.R_reads' HO_3.out).1; omega) | simpa using h_) (seg := [.int .i64 t226, .int .i64 t227]) (j := 0) hcl12 hcc12 (show 2 ≤ 2 from by decide) (x' := (⟨t226, t227⟩ : S85)) (k85_mkM _ _ _ (⟨t226, t227⟩ : S85) ) (fun _ hk => hk); have hx12_0 := hcc12 0 _ rfl; (try simp only [show (k85).sz = 2 from rfl, Nat.mul_one, Nat.add_zero] at hx12_0); have hf12_0 := hfr12 0; (try simp only [show (k85).sz = 2 from rfl, Nat.mul_one, Nat.add_zero] at hf12_0); have hx12_1 := hcc12 1 _ rfl; (try simp only [show (k85).sz = 2 from rfl, Nat.mul_one, Nat.add_zero] at hx12_1); have hf12_1 := hfr12 1; (try simp only [show (k85).sz = 2 from rfl, Nat.mul_one, Nat.add_zero] at hf12_1); (try clear hM12); (try clear hfr12); (try clear hcc12); (try clear hcl12)) | ((with_reducible refine gt 85 21 rfl ?_); refine sE 85 21 ((w11.setCell ⟨go10, (x4_1 : Int).toNat * 2, none⟩ (.int .i64 t226)).setCell ⟨go10, (x4_1 : Int).toNat * 2 + 1, none⟩ (.int .i64 t227)) ?_; intro w13 hw; have hg : w11.grownBy w13 (some go10) := (by rw [hw]; exact HP12.2); have hp_ : Kd.R k85 85 w13 w.heap.size (fun _ => True) (.slice (some ⟨go10, 0, none⟩) x3_1.length co10) y228 := (by rw [hw, Ny228.out]; exact HP12.1); clear HP12; replace HO_3 := am (hp_); replace HB := am ((by rw [hw]; exact below_set (below_set (HB.out) GB10.out) GB10.out : Below w.heap.size w w13)); clear hg hw hp_))
  go_roundg k1
  case measure => have := HK1.out; omega
  case rel => exact ⟨(y228), (wrap64 (x4_1 + 1)), dr, H', ⟨by have := HK1.out; omega⟩, ⟨kR HO_3⟩, ⟨bw HB⟩⟩
 obtain rfl := Option.some.inj H
 go_wp2
 go_ret
 exact ⟨_, er, kR HO_3, bw HB⟩

def laws_toFunc.f (k : Nat) (a0_0 : Int) (a0_1 : Int) (l0_2 : List (S88)) : Option (Int × Int × (List (S85))) := (laws_toInsS.f k l0_2).bind fun t232 => (some (a0_0, a0_1, t232))
theorem laws_toFunc.mono : ∀ a0 a1 a2 k, LeO (laws_toFunc.f k a0 a1 a2) (laws_toFunc.f (k + 1) a0 a1 a2) := by
 intro a0 a1 a2 k
 unfold laws_toFunc.f
 with_reducible repeat' first | exact laws_toInsS.mono .. | exact LeO.refl _ | exact LeO.none _ | refine LeO.ite ?_ ?_ | refine LeO.bind ?_ (fun _ => ?_)
theorem laws_toFunc.calls (k : Nat) (a0_0 : Int) (a0_1 : Int) (A0_2 : Option Addr) (c0_2 : Nat) (l0_2 : List (S88)) (r1 : Int) (r2 : Int) (r3 : List (S85)) (w : World) (hr0_2 : Kd.C k88 w A0_2 l0_2.length l0_2) (hc0_2 : l0_2.length ≤ c0_2) (h : laws_toFunc.f k a0_0 a0_1 l0_2 = some (r1, r2, r3)) :
  Calls Try.prog 34 #[.agg #[.int .i64 a0_0, .int .i64 a0_1, .slice A0_2 l0_2.length c0_2]] w fun e w' => ∃ v2_ : Value, e = .returned (.agg #[.int .i64 r1, .int .i64 r2, v2_]) ∧ Kd.R k85 85 w' w.heap.size (fun _ => True) v2_ r3 ∧ Below w.heap.size w w' := by
 have hu67 := Try.underlying67
 have hu55 := Try.underlying55
 have HR0_2 := am hr0_2
 have HC0_2 := am hc0_2
 clear hr0_2 hc0_2
 have HB := am (Below.refl w.heap.size w)
 have H : ((laws_toInsS.f k l0_2).bind fun t232 => (some (a0_0, a0_1, t232))) = some (r1, r2, r3) := h
 clear h
 refine be H ?_; clear H; intro t232 A2 H
 simp only [Option.some.injEq, Prod.mk.injEq] at H
 obtain ⟨rfl, rfl, rfl⟩ := H
 go_enter Try.func34, Try.ntmps34
 go_wp2_with (first | ((with_reducible refine gd 1 rfl ?_); refine bX 1 #[.int .i64 a0_0, .int .i64 a0_1, .slice A0_2 l0_2.length c0_2] 67 HB ?_; clear HB; intro gb229 w3 hg hb BK229 GW229 HB; clear hb hg) | ((with_reducible refine gd 2 rfl ?_); refine bX 2 #[.int .i64 0, .int .i64 0, .slice none 0 0] 55 HB ?_; clear HB; intro gb230 w4 hg hb BK230 GW230 HB; obtain ⟨NB229_230, NB230_229, BK229⟩ := b3 hg BK229 hb; clear hb hg) | ((with_reducible refine gd 3 rfl ?_); refine bX 3 #[.int .i64 0, .int .i64 0, .slice none 0 0] 55 HB ?_; clear HB; intro gb231 w5 hg hb BK231 GW231 HB; obtain ⟨NB229_231, NB231_229, BK229⟩ := b3 hg BK229 hb; obtain ⟨NB230_231, NB231_230, BK230⟩ := b3 hg BK230 hb; clear hb hg; have hnb6 := NB229_230.out; have hnc6 := NB230_229.out; have hnb7 := NB229_231.out; have hnc7 := NB231_229.out; have hcz8 := bK w5 BK229; have hfz8 := bF BK229; have hnb9 := NB231_230.out; have hnc9 := NB230_231.out; have hcz10 := bK w5 BK231; have hfz10 := bF BK231) | ((with_reducible refine gk 42 rfl ?_); refine gC 42 (some 12) Try.func42 #[.slice A0_2 l0_2.length c0_2] ((laws_toInsS.calls k _ _ l0_2 t232 _ (Kd.C_below HR0_2.out (bw HB)) HC0_2.out A2.out).mono ?_); rintro e w11 ⟨v233, rfl, ho0, hb⟩; refine ⟨_, rfl, ?_⟩; have HO234 := am (Kd.R_lower ho0 (below_size (bw HB))); replace BK229 := bb2 BK229 hb; replace BK230 := bb2 BK230 hb; replace BK231 := bo #[.int .i64 a0_0, .int .i64 a0_1, .slice none 0 0] BK231 hb; replace HB := bs HB hb; clear hb; (try clear ho0); obtain ⟨Ao12, co12, eo12⟩ := Kd.R_slice HO234.out; subst eo12; have hcz13 := bK w11 BK231; have hfz13 := bF BK231; have hcz14 := bK w11 BK230; have hfz14 := bF BK230))
 refine bodyPost_ret (results_cell_row rfl _ _ gb230 55 #[.int .i64 a0_0, .int .i64 a0_1, .slice Ao12 t232.length co12] (0, 0) _ rfl (bt BK230) Try.underlying55 rfl (by kernel_rfl)) rfl ?_
 exact ⟨_, er, by (with_reducible repeat (first | apply Kd.R_alloc | apply Kd.R_drewN | apply Kd.R_drew)); exact Kd.R_mono (Kd.R_far (p := ⟨gb230, 2, none⟩) (Kd.R_far (p := ⟨gb230, 1, none⟩) (Kd.R_far (p := ⟨gb230, 0, none⟩) (Kd.R_far (p := ⟨gb231, 2, none⟩) (Kd.R_types (Kd.R_types HO234.out BK231.out (by decide)) BK230.out (by decide)) (fun _ hk => hk.1.2) (.slice Ao12 t232.length co12)) (fun _ hk => hk.2) (.int .i64 a0_0)) (fun _ hk => hk.2) (.int .i64 a0_1)) (fun _ hk => hk.2) (.slice Ao12 t232.length co12)) (fun _ hk => trivial), bw HB⟩

def laws_toFuncS.l0 : Nat → List (S67) → List (S55) → Int → Option ((List (S55)))
 | 0, _, _, _ => none
 | k + 1, x0, x3, x4 => if x4 < (x0.length : Int) then (if 0 ≤ x4 then ((laws_toFunc.f k ((rd_T67 x0 x4).f0) ((rd_T67 x0 x4).f1) ((rd_T67 x0 x4).f2)).bind fun bt239 => (if x4 < (x3.length : Int) then (laws_toFuncS.l0 k x0 (x3.set (x4 : Int).toNat (⟨bt239.1, bt239.2.1, bt239.2.2⟩ : S55)) (wrap64 (x4 + 1))) else (none))) else (none)) else (some x3)
def laws_toFuncS.f (k : Nat) (l0 : List (S67)) : Option ((List (S55))) := if 0 ≤ (l0.length : Int) then (if ((l0.length : Int) : Int).toNat ≤ 7036874417766 then (laws_toFuncS.l0 k l0 (List.replicate ((l0.length : Int) : Int).toNat z55) 0) else (none)) else (none)
theorem laws_toFuncS.mono_l : ∀ k, (∀ y0 y1 y2, LeO (laws_toFuncS.l0 k y0 y1 y2) (laws_toFuncS.l0 (k + 1) y0 y1 y2))
 | 0 => fun _ _ _ r h => by simp [laws_toFuncS.l0] at h
 | k + 1 => by
  have ih0 := laws_toFuncS.mono_l k
  ·intro y0 y1 y2
   unfold laws_toFuncS.l0
   with_reducible repeat' first | exact ih0 .. | exact laws_toFunc.mono .. | exact LeO.refl _ | exact LeO.none _ | refine LeO.ite ?_ ?_ | refine LeO.bind ?_ (fun _ => ?_)
theorem laws_toFuncS.mono : ∀ a0 k, LeO (laws_toFuncS.f k a0) (laws_toFuncS.f (k + 1) a0) := by
 intro a0 k
 have ih0 := laws_toFuncS.mono_l k
 unfold laws_toFuncS.f
 with_reducible repeat' first | exact ih0 .. | exact laws_toFunc.mono .. | exact LeO.refl _ | exact LeO.none _ | refine LeO.ite ?_ ?_ | refine LeO.bind ?_ (fun _ => ?_)
theorem laws_toFuncS.calls (k : Nat) (A0 : Option Addr) (c0 : Nat) (l0 : List (S67)) (r : List (S55)) (w : World) (hr0 : Kd.C k67 w A0 l0.length l0) (hc0 : l0.length ≤ c0) (h : laws_toFuncS.f k l0 = some r) :
  Calls Try.prog 19 #[.slice A0 l0.length c0] w fun e w' => ∃ v0_ : Value, e = .returned (v0_) ∧ Kd.S k55 55 w' w.heap.size (fun _ => True) v0_ r ∧ Below w.heap.size w w' := by
 have hu67 := Try.underlying67
 have hu55 := Try.underlying55
 have HR0 := am hr0
 have HC0 := am hc0
 clear hr0 hc0
 have HB := am (Below.refl w.heap.size w)
 have H : (if 0 ≤ (l0.length : Int) then (if ((l0.length : Int) : Int).toNat ≤ 7036874417766 then (laws_toFuncS.l0 k l0 (List.replicate ((l0.length : Int) : Int).toNat z55) 0) else (none)) else (none)) = some r := h
 clear h
 refine iN H ?_; clear H; intro c2 H
 have c2b0 := eq_true c2
 have c2b1 := decide_eq_true c2
 clear c2
 refine iN H ?_; clear H; intro c3 H
 have c3b0 := eq_true c3
 have c3b1 := decide_eq_true c3
 clear c3
 obtain ⟨y235, hy235⟩ : ∃ y_ : List (S55), y_ = (List.replicate ((l0.length : Int) : Int).toNat z55) := ⟨_, rfl⟩
 replace H : (laws_toFuncS.l0 k l0 y235 0) = some r := by first | (rw [hy235]; with_reducible exact H) | (have H2_ := (Option.bind_some _ _).symm.trans H; rw [hy235]; with_reducible exact H2_) | (have H2_ := (Option.bind_some _ _).symm.trans H; with_reducible exact H2_) | with_reducible exact H | (rw [hy235]; exact H) | exact H
 have Ny235 := am hy235
 clear hy235
 have H' := am H
 clear H
 go_enter Try.func19, Try.ntmps19
 go_wp2_with (first | ((with_reducible refine gate_dst (N := 7) rfl ?_); refine Kd.S_make k55 _ 55 rfl (N := 7) rfl 32 _ _ rfl (l0.length : Int) rfl rfl Try.underlying32 (.agg #[(.int .i64 0), (.int .i64 0), (.slice none 0 0)]) 40 info55 rfl (by decide) (by omega) z55 (ok := fun _ => True) (okp := fun _ => True) (k55_mkM _ _ _ z55 (Kd.R_nil _ _ _ _ _)) (fun _ hk => hk) trivial (of_decide_eq_true as1) (Nat.le_trans (Nat.mul_le_mul_right _ (of_decide_eq_true as1 : (l0.length : Int).toNat ≤ 7036874417766)) (by omega)) (Below.refl _ _) (Nat.le_refl _) ?_; intro v236 w4 ho5 hb hg_ hnew_; clear hg_ hnew_; (first | rw [← Ny235.out] at ho5 | (simp only [Int.reduceToNat] at ho5; rw [← Ny235.out] at ho5)); have HO237 := am (Kd.S_lower ho5 (below_size (bw HB))); replace HB := bs HB hb; clear hb ho5))
 go_loopg [4] k (fun kq v4 w' => ∃ (x3_1 : List (S55)) (x4_1 : Int), v4 = .int .i64 x4_1 ∧ Aside0 (laws_toFuncS.l0 kq l0 x3_1 x4_1 = some r) ∧ Aside0 (kq ≤ k) ∧ Aside0 (Kd.S k55 55 w' w.heap.size (fun _ => True) v236 x3_1) ∧ Aside0 (Below w.heap.size w w'))
 case atStart => exact ⟨(y235), (0), dr, H', ⟨Nat.le_refl _⟩, ⟨kS HO237⟩, ⟨bw HB⟩⟩
 clear H'
 (try clear c1); (try clear c2); (try clear c2b0); (try clear c2b1); (try clear p2); (try clear c3); (try clear c3b0); (try clear c3b1)
 obtain ⟨x3_1, x4_1, rfl, HA, HK1, HO_3, HB⟩ := hrel
 rcases gk with _ | k1
 ·exact absurd HA.out (by simp [laws_toFuncS.l0])
 have H := HA.out
 clear HA
 simp only [laws_toFuncS.l0] at H
 refine qI H ?_ ?_ <;> clear H <;> intro c6b0 H
 ·refine iM H ?_; clear H; intro c7b0 H
  replace H := Option.bind_eq_some_iff.mp H
  obtain ⟨⟨t239, t240, t241⟩, A80, H⟩ := H
  replace H : (if x4_1 < (x3_1.length : Int) then (laws_toFuncS.l0 k1 l0 (x3_1.set (x4_1 : Int).toNat (⟨t239, t240, t241⟩ : S55)) (wrap64 (x4_1 + 1))) else (none)) = some r := H
  have A8 := am A80
  clear A80
  refine iM H ?_; clear H; intro c9b0 H
  obtain ⟨y244, hy244⟩ : ∃ y_ : List (S55), y_ = (x3_1.set (x4_1 : Int).toNat (⟨t239, t240, t241⟩ : S55)) := ⟨_, rfl⟩
  replace H : (laws_toFuncS.l0 k1 l0 y244 (wrap64 (x4_1 + 1))) = some r := by first | (rw [hy244]; with_reducible exact H) | (have H2_ := (Option.bind_some _ _).symm.trans H; rw [hy244]; with_reducible exact H2_) | (have H2_ := (Option.bind_some _ _).symm.trans H; with_reducible exact H2_) | with_reducible exact H | (rw [hy244]; exact H) | exact H
  have Ny244 := am hy244
  clear hy244
  have H' := am H
  clear H
  have p238 : 0 ≤ (x4_1 : Int) := of_decide_eq_true as1
  have q238 : x4_1 < (l0.length : Int) := of_decide_eq_true as1
  obtain ⟨ad238, A238_2, c238_2, e238, hx238_0, hx238_1, hx238_2, hl238_2, hi238_2⟩ := at_T67 HR0.out x4_1 p238 q238
  cases e238
  replace hx238_0 := cl HB hx238_0
  replace hx238_1 := cl HB hx238_1
  replace hx238_2 := cl HB hx238_2
  have HR238_2 := am hi238_2
  have HC238_2 := am hl238_2
  clear hi238_2 hl238_2
  replace p238 := eq_true p238
  replace q238 := eq_true q238
  go_wp2_with (first | ((with_reducible refine gk 34 rfl ?_); refine gC 34 (some 20) Try.func34 #[.agg #[.int .i64 ((rd_T67 l0 x4_1).f0), .int .i64 ((rd_T67 l0 x4_1).f1), .slice A238_2 ((rd_T67 l0 x4_1).f2).length c238_2]] ((laws_toFunc.calls k1 ((rd_T67 l0 x4_1).f0) ((rd_T67 l0 x4_1).f1) _ _ ((rd_T67 l0 x4_1).f2) t239 t240 t241 _ (cc (Kd.C_below HR238_2.out HB.out)) HC238_2.out A8.out).mono ?_); rintro e w11 ⟨v242, rfl, ho0, hb⟩; refine ⟨_, rfl, ?_⟩; replace HO_3 := am (Kd.S_elder' (kS HO_3) (Kd.R_base ho0) hb); have HO243 := am (Kd.R_lower ho0 (below_size (bw HB))); replace HB := bs HB hb; clear hb; (try clear ho0); have p10 : 0 ≤ (x4_1 : Int) := of_decide_eq_true as1; have q10 : (x4_1 : Int) < ((x3_1.length : Int) : Int) := of_decide_eq_true as1; obtain ⟨go10, co10, eo10, gb10, gl10, cl10, HG10⟩ := Kd.S_form HO_3.out (by omega); (first | cases eo10 | (injection eo10 with ea_ en_ ec_; (first | subst ea_ | (injection ea_ with ea_; subst ea_)); subst ec_; clear en_)); have GB10 := am gb10; have GG10 := am HG10; clear gb10 gl10 HG10; obtain ⟨_, ce10, hcl10, hM10, hcc10, hfr10, _, _⟩ := Kd.S_elem HO_3.out z55 (x4_1 : Int) p10 q10; obtain ⟨ve10_2, rfl, ge10_2⟩ := k55_openM hM10; have hx10_0 : w11.cell? ⟨go10, (x4_1 : Int).toNat * 3, none⟩ = some (.int .i64 ((rd_T55 x3_1 x4_1).f0)) := hcc10 0 _ rfl; have hx10_1 : w11.cell? ⟨go10, (x4_1 : Int).toNat * 3 + 1, none⟩ = some (.int .i64 ((rd_T55 x3_1 x4_1).f1)) := hcc10 1 _ rfl; have hx10_2 : w11.cell? ⟨go10, (x4_1 : Int).toNat * 3 + 2, none⟩ = some (ve10_2) := hcc10 2 _ rfl; have hf10_0 : w11.frozen? ⟨go10, (x4_1 : Int).toNat * 3, none⟩ = false := hfr10 0; have hf10_1 : w11.frozen? ⟨go10, (x4_1 : Int).toNat * 3 + 1, none⟩ = false := hfr10 1; have hf10_2 : w11.frozen? ⟨go10, (x4_1 : Int).toNat * 3 + 2, none⟩ = false := hfr10 2; (try clear hM10); (try clear hfr10); (try clear hcc10); (try clear hcl10); replace p10 := eq_true p10; replace q10 := eq_true q10; obtain ⟨Ao14, co14, eo14⟩ := Kd.R_slice HO243.out; subst eo14; have n_ := am (Kd.S_mono (ok' := (fun k_ => some k_ ≠ (.slice Ao14 t241.length co14 : Value).ownBlock)) HO_3.out (fun k_ hk => hk.2)); clear HO_3; have HO_3 := n_; clear n_; have HX12 := am (show Kd.S k55 55 w11 w.heap.size (fun k_ => ((fun _ => True)) k_ ∧ ¬ ((fun k_ => some k_ = (.slice Ao14 t241.length co14 : Value).ownBlock)) k_) (.slice (some ⟨go10, 0, none⟩) x3_1.length co10) x3_1 from (by (with_reducible repeat (first | apply Kd.S_alloc | apply Kd.S_drewN | apply Kd.S_drew)); exact Kd.S_mono HO_3.out (fun k_ hk => ⟨trivial, fun e_ => hk e_⟩))); obtain ⟨oki12, ce12, hcl12, hM12, hcc12, hfr12, hoki12, hH12⟩ := Kd.S_elem HX12.out z55 (x4_1 : Int) (of_decide_eq_true as1) (by have h_ : (x4_1 : Int) < ((x3_1.length : Int) : Int) := of_decide_eq_true as1; first | exact h_ | (have e_ := (Kd.S_reads' HO_3.out).1; omega) | simpa using h_); obtain ⟨ve12_2, rfl, ge12_2⟩ := k55_openM hM12; have HP12 := Kd.S_seg hH12 (of_decide_eq_true as1) (by have h_ : (x4_1 : Int) < ((x3_1.length : Int) : Int) := of_decide_eq_true as1; first | exact h_ | (have e_ := (Kd.S_reads' HO_3.out).1; omega) | simpa using h_) (seg := [.int .i64 t239, .int .i64 t240, .slice Ao14 t241.length co14]) (j := 0) (show 3 ≤ 3 from by decide) (x' := (⟨t239, t240, t241⟩ : S55)) (k55_mkM _ _ _ (⟨t239, t240, t241⟩ : S55) (Kd.R_mono (Kd.R_tight rfl (Kd.R_mono (ok' := fun k_ => ((fun _ => True)) k_ ∧ k_ ≠ go10) (Kd.R_apart' (HO243.out) (Kd.S_typed HO_3.out) (by decide)) (fun k_ hk => ⟨trivial, fun e_ => (hk.2) (by rw [e_]; rfl)⟩))) (fun _ h_ => Or.inr (h_)))) (fun _ hk => hk) (fun k_ hk_ => ((Kd.R_mono (ok' := fun k_ => ((fun _ => True)) k_ ∧ k_ ≠ go10) (Kd.R_apart' (HO243.out) (Kd.S_typed HO_3.out) (by decide)) (fun k_ hk => ⟨trivial, fun e_ => (hk.2) (by rw [e_]; rfl)⟩))).1 k_ hk_.symm); have hx12_0 := hcc12 0 _ rfl; (try simp only [show (k55).sz = 3 from rfl, Nat.mul_one, Nat.add_zero] at hx12_0); have hf12_0 := hfr12 0; (try simp only [show (k55).sz = 3 from rfl, Nat.mul_one, Nat.add_zero] at hf12_0); have hx12_1 := hcc12 1 _ rfl; (try simp only [show (k55).sz = 3 from rfl, Nat.mul_one, Nat.add_zero] at hx12_1); have hf12_1 := hfr12 1; (try simp only [show (k55).sz = 3 from rfl, Nat.mul_one, Nat.add_zero] at hf12_1); have hx12_2 := hcc12 2 _ rfl; (try simp only [show (k55).sz = 3 from rfl, Nat.mul_one, Nat.add_zero] at hx12_2); have hf12_2 := hfr12 2; (try simp only [show (k55).sz = 3 from rfl, Nat.mul_one, Nat.add_zero] at hf12_2); (try clear hH12); (try clear hoki12); (try clear hM12); (try clear hfr12); (try clear hcc12); (try clear hcl12)) | ((with_reducible refine gt 55 21 rfl ?_); refine sE 55 21 (((w11.setCell ⟨go10, (x4_1 : Int).toNat * 3, none⟩ (.int .i64 t239)).setCell ⟨go10, (x4_1 : Int).toNat * 3 + 1, none⟩ (.int .i64 t240)).setCell ⟨go10, (x4_1 : Int).toNat * 3 + 2, none⟩ (.slice Ao14 t241.length co14)) ?_; intro w13 hw; have hg : w11.grownBy w13 (some go10) := (by rw [hw]; exact HP12.2); have hp_ : Kd.S k55 55 w13 w.heap.size (fun _ => True) (.slice (some ⟨go10, 0, none⟩) x3_1.length co10) y244 := (by rw [hw, Ny244.out]; exact HP12.1); clear HP12; replace HO_3 := am (hp_); replace HB := am ((by rw [hw]; exact below_set (below_set (below_set (HB.out) GB10.out) GB10.out) GB10.out : Below w.heap.size w w13)); clear HO243; clear hg hw hp_))
  go_roundg k1
  case measure => have := HK1.out; omega
  case rel => exact ⟨(y244), (wrap64 (x4_1 + 1)), dr, H', ⟨by have := HK1.out; omega⟩, ⟨kS HO_3⟩, ⟨bw HB⟩⟩
 obtain rfl := Option.some.inj H
 go_wp2
 go_ret
 exact ⟨_, er, kS HO_3, bw HB⟩

def laws_toProgram.f (k : Nat) (l0_0 : List (S67)) : Option ((List (S55))) := (laws_toFuncS.f k l0_0).bind fun t248 => (some t248)
theorem laws_toProgram.mono : ∀ a0 k, LeO (laws_toProgram.f k a0) (laws_toProgram.f (k + 1) a0) := by
 intro a0 k
 unfold laws_toProgram.f
 with_reducible repeat' first | exact laws_toFuncS.mono .. | exact LeO.refl _ | exact LeO.none _ | refine LeO.ite ?_ ?_ | refine LeO.bind ?_ (fun _ => ?_)
theorem laws_toProgram.calls (k : Nat) (A0_0 : Option Addr) (c0_0 : Nat) (l0_0 : List (S67)) (r : List (S55)) (w : World) (hr0_0 : Kd.C k67 w A0_0 l0_0.length l0_0) (hc0_0 : l0_0.length ≤ c0_0) (h : laws_toProgram.f k l0_0 = some r) :
  Calls Try.prog 6 #[.agg #[.slice A0_0 l0_0.length c0_0]] w fun e w' => ∃ v0_ : Value, e = .returned (.agg #[v0_]) ∧ Kd.S k55 55 w' w.heap.size (fun _ => True) v0_ r ∧ Below w.heap.size w w' := by
 have hu24 := Try.underlying24
 have hu34 := Try.underlying34
 have HR0_0 := am hr0_0
 have HC0_0 := am hc0_0
 clear hr0_0 hc0_0
 have HB := am (Below.refl w.heap.size w)
 have H : ((laws_toFuncS.f k l0_0).bind fun t248 => (some t248)) = some r := h
 clear h
 refine be H ?_; clear H; intro t248 A2 H
 obtain rfl := Option.some.inj H
 go_enter Try.func6, Try.ntmps6
 go_wp2_with (first | ((with_reducible refine gd 1 rfl ?_); refine bX 1 #[.slice A0_0 l0_0.length c0_0] 24 HB ?_; clear HB; intro gb245 w3 hg hb BK245 GW245 HB; clear hb hg) | ((with_reducible refine gd 2 rfl ?_); refine bX 2 #[.slice none 0 0] 34 HB ?_; clear HB; intro gb246 w4 hg hb BK246 GW246 HB; obtain ⟨NB245_246, NB246_245, BK245⟩ := b3 hg BK245 hb; clear hb hg) | ((with_reducible refine gd 3 rfl ?_); refine bX 3 #[.slice none 0 0] 34 HB ?_; clear HB; intro gb247 w5 hg hb BK247 GW247 HB; obtain ⟨NB245_247, NB247_245, BK245⟩ := b3 hg BK245 hb; obtain ⟨NB246_247, NB247_246, BK246⟩ := b3 hg BK246 hb; clear hb hg; have hnb6 := NB245_246.out; have hnc6 := NB246_245.out; have hnb7 := NB245_247.out; have hnc7 := NB247_245.out; have hcz8 := bK w5 BK245; have hfz8 := bF BK245) | ((with_reducible refine gk 19 rfl ?_); refine gC 19 (some 6) Try.func19 #[.slice A0_0 l0_0.length c0_0] ((laws_toFuncS.calls k _ _ l0_0 t248 _ (cc (Kd.C_below HR0_0.out HB.out)) HC0_0.out A2.out).mono ?_); rintro e w9 ⟨v249, rfl, ho0, hb⟩; refine ⟨_, rfl, ?_⟩; have HO250 := am (Kd.S_lower ho0 (below_size (bw HB))); replace BK245 := bb BK245 hb; replace BK246 := bb BK246 hb; replace BK247 := bb BK247 hb; replace HB := bs HB hb; clear hb; (try clear ho0); obtain ⟨Ao10, co10, eo10⟩ := Kd.S_slice HO250.out; subst eo10; have hnb11 := NB247_246.out; have hnc11 := NB246_247.out; have hcz12 := bK w9 BK247; have hfz12 := bF BK247; have hcz13 := bK w9 BK246; have hfz13 := bF BK246))
 refine bodyPost_ret (results_cell_row rfl _ _ gb246 34 #[.slice Ao10 t248.length co10] (0, 0) _ rfl (bt BK246) Try.underlying34 rfl (by kernel_rfl)) rfl ?_
 exact ⟨_, er, by (with_reducible repeat (first | apply Kd.S_alloc | apply Kd.S_drewN | apply Kd.S_drew)); exact Kd.S_mono (Kd.S_far (p := ⟨gb246, 0, none⟩) (Kd.S_far (p := ⟨gb247, 0, none⟩) (Kd.S_types (Kd.S_types HO250.out BK247.out (by decide)) BK246.out (by decide)) (fun _ hk => hk.1.2) (.slice Ao10 t248.length co10)) (fun _ hk => hk.2) (.slice Ao10 t248.length co10)) (fun _ hk => trivial), bw HB⟩

def laws_toInt64S.l0 : Nat → List Int → List Int → Int → Option (List Int)
 | 0, _, _, _ => none
 | k + 1, x0, x3, x4 => if x4 < (x0.length : Int) then (if 0 ≤ x4 then (if x4 < (x3.length : Int) then (laws_toInt64S.l0 k x0 (x3.set (x4 : Int).toNat (rd x0 x4)) (wrap64 (x4 + 1))) else (none)) else (none)) else (some x3)
def laws_toInt64S.f (k : Nat) (l0 : List Int) : Option (List Int) := if 0 ≤ (l0.length : Int) then (if ((l0.length : Int) : Int).toNat ≤ 35184372088832 then (laws_toInt64S.l0 k l0 (List.replicate ((l0.length : Int) : Int).toNat 0) 0) else (none)) else (none)
theorem laws_toInt64S.mono_l : ∀ k, (∀ y0 y1 y2, LeO (laws_toInt64S.l0 k y0 y1 y2) (laws_toInt64S.l0 (k + 1) y0 y1 y2))
 | 0 => fun _ _ _ r h => by simp [laws_toInt64S.l0] at h
 | k + 1 => by
  have ih0 := laws_toInt64S.mono_l k
  ·intro y0 y1 y2
   unfold laws_toInt64S.l0
   with_reducible repeat' first | exact ih0 .. | exact LeO.refl _ | exact LeO.none _ | refine LeO.ite ?_ ?_ | refine LeO.bind ?_ (fun _ => ?_)
theorem laws_toInt64S.mono : ∀ a0 k, LeO (laws_toInt64S.f k a0) (laws_toInt64S.f (k + 1) a0) := by
 intro a0 k
 have ih0 := laws_toInt64S.mono_l k
 unfold laws_toInt64S.f
 with_reducible repeat' first | exact ih0 .. | exact LeO.refl _ | exact LeO.none _ | refine LeO.ite ?_ ?_ | refine LeO.bind ?_ (fun _ => ?_)
theorem laws_toInt64S.calls (k : Nat) (A0 : Option Addr) (c0 : Nat) (l0 : List Int) (r : List Int) (w : World) (hr0 : Kd.C (Kd.int .i64) w A0 l0.length l0) (hc0 : l0.length ≤ c0) (h : laws_toInt64S.f k l0 = some r) :
  Calls Try.prog 7 #[.slice A0 l0.length c0] w fun e w' => ∃ v0_ : Value, e = .returned (v0_) ∧ Kd.R (Kd.int .i64) 2 w' w.heap.size (fun _ => True) v0_ r ∧ Below w.heap.size w w' := by
 have HR0 := am hr0
 have HC0 := am hc0
 clear hr0 hc0
 have HB := am (Below.refl w.heap.size w)
 have H : (if 0 ≤ (l0.length : Int) then (if ((l0.length : Int) : Int).toNat ≤ 35184372088832 then (laws_toInt64S.l0 k l0 (List.replicate ((l0.length : Int) : Int).toNat 0) 0) else (none)) else (none)) = some r := h
 clear h
 refine iN H ?_; clear H; intro c2 H
 have c2b0 := eq_true c2
 have c2b1 := decide_eq_true c2
 clear c2
 refine iN H ?_; clear H; intro c3 H
 have c3b0 := eq_true c3
 have c3b1 := decide_eq_true c3
 clear c3
 obtain ⟨y251, hy251⟩ : ∃ y_ : List Int, y_ = (List.replicate ((l0.length : Int) : Int).toNat 0) := ⟨_, rfl⟩
 replace H : (laws_toInt64S.l0 k l0 y251 0) = some r := by first | (rw [hy251]; with_reducible exact H) | (have H2_ := (Option.bind_some _ _).symm.trans H; rw [hy251]; with_reducible exact H2_) | (have H2_ := (Option.bind_some _ _).symm.trans H; with_reducible exact H2_) | with_reducible exact H | (rw [hy251]; exact H) | exact H
 have Ny251 := am hy251
 clear hy251
 have H' := am H
 clear H
 go_enter Try.func7, Try.ntmps7
 go_wp2_with (first | ((with_reducible refine gate_dst (N := 7) rfl ?_); refine Kd.R_make (Kd.int .i64) _ 2 rfl (N := 7) rfl 25 _ _ rfl (l0.length : Int) rfl rfl Try.underlying25 (.int .i64 0) 8 info2 rfl (by decide) (by omega) 0 (ok := fun _ => True) (okp := fun _ => True) rfl (fun _ hk => hk) trivial (of_decide_eq_true as1) (Nat.le_trans (Nat.mul_le_mul_right _ (of_decide_eq_true as1 : (l0.length : Int).toNat ≤ 35184372088832)) (by omega)) (Below.refl _ _) (Nat.le_refl _) ?_; intro v252 w4 ho5 hb hg_ hnew_; clear hg_ hnew_; (first | rw [← Ny251.out] at ho5 | (simp only [Int.reduceToNat] at ho5; rw [← Ny251.out] at ho5)); have HO253 := am (Kd.R_lower ho5 (below_size (bw HB))); replace HB := bs HB hb; clear hb ho5))
 go_loopg [4] k (fun kq v4 w' => ∃ (x3_1 : List Int) (x4_1 : Int), v4 = .int .i64 x4_1 ∧ Aside0 (laws_toInt64S.l0 kq l0 x3_1 x4_1 = some r) ∧ Aside0 (kq ≤ k) ∧ Aside0 (Kd.R (Kd.int .i64) 2 w' w.heap.size (fun _ => True) v252 x3_1) ∧ Aside0 (Below w.heap.size w w'))
 case atStart => exact ⟨(y251), (0), dr, H', ⟨Nat.le_refl _⟩, ⟨kR HO253⟩, ⟨bw HB⟩⟩
 clear H'
 (try clear c2); (try clear c2b0); (try clear c2b1); (try clear p2); (try clear c3); (try clear c3b0); (try clear c3b1)
 obtain ⟨x3_1, x4_1, rfl, HA, HK1, HO_3, HB⟩ := hrel
 rcases gk with _ | k1
 ·exact absurd HA.out (by simp [laws_toInt64S.l0])
 have H := HA.out
 clear HA
 simp only [laws_toInt64S.l0] at H
 refine qI H ?_ ?_ <;> clear H <;> intro c6b0 H
 ·refine iM H ?_; clear H; intro c7b0 H
  refine iM H ?_; clear H; intro c8b0 H
  obtain ⟨y255, hy255⟩ : ∃ y_ : List Int, y_ = (x3_1.set (x4_1 : Int).toNat (rd l0 x4_1)) := ⟨_, rfl⟩
  replace H : (laws_toInt64S.l0 k1 l0 y255 (wrap64 (x4_1 + 1))) = some r := by first | (rw [hy255]; with_reducible exact H) | (have H2_ := (Option.bind_some _ _).symm.trans H; rw [hy255]; with_reducible exact H2_) | (have H2_ := (Option.bind_some _ _).symm.trans H; with_reducible exact H2_) | with_reducible exact H | (rw [hy255]; exact H) | exact H
  have Ny255 := am hy255
  clear hy255
  have H' := am H
  clear H
  have p254 : 0 ≤ (x4_1 : Int) := of_decide_eq_true as1
  have q254 : x4_1 < (l0.length : Int) := of_decide_eq_true as1
  obtain ⟨ad254, e254, hx254_0⟩ := Kd.at_int HR0.out x4_1 p254 q254
  cases e254
  replace hx254_0 := cl HB hx254_0
  replace p254 := eq_true p254
  replace q254 := eq_true q254
  have p9 : 0 ≤ (x4_1 : Int) := of_decide_eq_true as1
  have q9 : (x4_1 : Int) < ((x3_1.length : Int) : Int) := of_decide_eq_true as1
  obtain ⟨go9, co9, eo9, gb9, gl9, cl9, HG9⟩ := Kd.R_form HO_3.out (by omega)
  (first | cases eo9 | (injection eo9 with ea_ en_ ec_; (first | subst ea_ | (injection ea_ with ea_; subst ea_)); subst ec_; clear en_))
  have GB9 := am gb9
  have GG9 := am HG9
  clear gb9 gl9 HG9
  obtain ⟨hx9_0, hf9_0⟩ := Kd.R_celln 0 HO_3.out (x4_1 : Int) p9 q9
  replace p9 := eq_true p9
  replace q9 := eq_true q9
  have HP10 := Kd.R_putg HO_3.out (x4_1 : Int) (rd l0 x4_1)
  go_wp2_with (first | ((with_reducible refine gt 2 20 rfl ?_); refine sE 2 20 (wr.setCell ⟨go9, (x4_1 : Int).toNat, none⟩ (.int .i64 (rd l0 x4_1))) ?_; intro w11 hw; have hg : wr.grownBy w11 (some go9) := (by rw [hw]; exact HP10.2); have hp_ : Kd.R (Kd.int .i64) 2 w11 w.heap.size (fun _ => True) (.slice (some ⟨go9, 0, none⟩) x3_1.length co9) y255 := (by rw [hw, Ny255.out]; exact HP10.1); clear HP10; replace HO_3 := am (hp_); replace HB := am ((by rw [hw]; exact below_set (HB.out) GB9.out : Below w.heap.size w w11)); clear hg hw hp_))
  go_roundg k1
  case measure => have := HK1.out; omega
  case rel => exact ⟨(y255), (wrap64 (x4_1 + 1)), dr, H', ⟨by have := HK1.out; omega⟩, ⟨kR HO_3⟩, ⟨bw HB⟩⟩
 obtain rfl := Option.some.inj H
 go_wp2
 go_ret
 exact ⟨_, er, kR HO_3, bw HB⟩

def impl_in.f (a0 : Int) (a1 : Int) (a2 : Int) : Option (Bool) := if a0 ≥ a1 then (some (decide (a0 ≤ a2))) else (some false)
theorem impl_in.calls (a0 : Int) (a1 : Int) (a2 : Int) (r : Bool) (w : World) (h : impl_in.f a0 a1 a2 = some r) :
  Calls Try.prog 21 #[.int .i64 a0, .int .i64 a1, .int .i64 a2] w fun e w' => e = .returned (.bool r) ∧ Drawn0 w w' := by
 have H : (if a0 ≥ a1 then (some (decide (a0 ≤ a2))) else (some false)) = some r := h
 clear h
 refine qL H ?_ ?_ <;> clear H <;> intro c4b0 H
 ·obtain rfl := Option.some.inj H
  go_enter Try.func21, Try.ntmps21
  go_wp2
  go_ret
  exact ⟨by first | rfl | (simp; done) | (simp [*]; done), by repeat (first | exact Drawn0.refl _ | apply Drawn0.step)⟩
 obtain rfl := Option.some.inj H
 go_enter Try.func21, Try.ntmps21
 go_wp2
 go_ret
 exact ⟨by first | rfl | (simp; done) | (simp [*]; done), by repeat (first | exact Drawn0.refl _ | apply Drawn0.step)⟩

def impl_hasFunc.f (l0_0 : List (S55)) (a1 : Int) : Option (Bool) := if a1 ≥ 0 then (some (decide (a1 < (l0_0.length : Int)))) else (some false)
theorem impl_hasFunc.calls (A0_0 : Option Addr) (c0_0 : Nat) (l0_0 : List (S55)) (a1 : Int) (r : Bool) (w : World) (hr0_0 : Kd.C k55 w A0_0 l0_0.length l0_0) (hc0_0 : l0_0.length ≤ c0_0) (h : impl_hasFunc.f l0_0 a1 = some r) :
  Calls Try.prog 36 #[.agg #[.slice A0_0 l0_0.length c0_0], .int .i64 a1] w fun e w' => e = .returned (.bool r) ∧ Below w.heap.size w w' := by
 have hu34 := Try.underlying34
 have HR0_0 := am hr0_0
 have HC0_0 := am hc0_0
 clear hr0_0 hc0_0
 have HB := am (Below.refl w.heap.size w)
 have H : (if a1 ≥ 0 then (some (decide (a1 < (l0_0.length : Int)))) else (some false)) = some r := h
 clear h
 refine qL H ?_ ?_ <;> clear H <;> intro c3b0 H
 ·obtain rfl := Option.some.inj H
  go_enter Try.func36, Try.ntmps36
  go_wp2_with (first | ((with_reducible refine gate_dst (N := 2) rfl ?_); (try (refine gate_guard (by rfl) ?_; dsimp only)); refine box_event ?hg (N := 2) ?hd (cs := #[.slice A0_0 l0_0.length c0_0]) (t := 34) ?hr ?_; (case hd => rfl); (case hg => rfl); (case hr => exact gs); intro gb256 hg w4 hbox hb; have BK256 := am (hbox); have GW256 := gw hg HB; replace HB := bs HB hb; clear hb hbox hg; have hcz5 := bK w4 BK256; have hfz5 := bF BK256))
  go_ret
  exact ⟨er, bw HB⟩
 obtain rfl := Option.some.inj H
 go_enter Try.func36, Try.ntmps36
 go_wp2_with (first | ((with_reducible refine gate_dst (N := 2) rfl ?_); (try (refine gate_guard (by rfl) ?_; dsimp only)); refine box_event ?hg (N := 2) ?hd (cs := #[.slice A0_0 l0_0.length c0_0]) (t := 34) ?hr ?_; (case hd => rfl); (case hg => rfl); (case hr => exact gs); intro gb256 hg w6 hbox hb; have BK256 := am (hbox); have GW256 := gw hg HB; replace HB := bs HB hb; clear hb hbox hg))
 go_ret
 exact ⟨er, bw HB⟩

def impl_opNames.f  : Option (List ByteArray) := some (([(⟨#[]⟩ : ByteArray), (⟨#[112, 117, 115, 104]⟩ : ByteArray), (⟨#[108, 111, 97, 100]⟩ : ByteArray), (⟨#[115, 116, 111, 114, 101]⟩ : ByteArray), (⟨#[100, 117, 112]⟩ : ByteArray), (⟨#[112, 111, 112]⟩ : ByteArray), (⟨#[]⟩ : ByteArray), (⟨#[]⟩ : ByteArray), (⟨#[]⟩ : ByteArray), (⟨#[]⟩ : ByteArray), (⟨#[97, 100, 100]⟩ : ByteArray), (⟨#[115, 117, 98]⟩ : ByteArray), (⟨#[109, 117, 108]⟩ : ByteArray), (⟨#[100, 105, 118]⟩ : ByteArray), (⟨#[114, 101, 109]⟩ : ByteArray), (⟨#[97, 110, 100]⟩ : ByteArray), (⟨#[111, 114]⟩ : ByteArray), (⟨#[120, 111, 114]⟩ : ByteArray), (⟨#[115, 104, 108]⟩ : ByteArray), (⟨#[115, 104, 114]⟩ : ByteArray), (⟨#[117, 115, 104, 114]⟩ : ByteArray), (⟨#[108, 101, 115, 115]⟩ : ByteArray), (⟨#[97, 116, 109, 111, 115, 116]⟩ : ByteArray), (⟨#[115, 97, 109, 101]⟩ : ByteArray), (⟨#[110, 101, 103]⟩ : ByteArray), (⟨#[110, 111, 116]⟩ : ByteArray), (⟨#[98, 121, 116, 101]⟩ : ByteArray), (⟨#[115, 104, 111, 114, 116]⟩ : ByteArray), (⟨#[105, 110, 116]⟩ : ByteArray), (⟨#[119, 111, 114, 100]⟩ : ByteArray), (⟨#[106, 117, 109, 112]⟩ : ByteArray), (⟨#[106, 122]⟩ : ByteArray), (⟨#[99, 97, 108, 108]⟩ : ByteArray), (⟨#[114, 101, 116]⟩ : ByteArray), (⟨#[110, 101, 119]⟩ : ByteArray), (⟨#[103, 101, 116]⟩ : ByteArray), (⟨#[115, 101, 116]⟩ : ByteArray), (⟨#[108, 101, 110]⟩ : ByteArray), (⟨#[111, 117, 116]⟩ : ByteArray)] : List ByteArray))
theorem impl_opNames.calls  (r : List ByteArray) (w : World) (h : impl_opNames.f  = some r) :
  Calls Try.prog 57 #[] w fun e w' => ∃ v0_ : Value, e = .returned (v0_) ∧ Kd.R Kd.string 9 w' w.heap.size (fun _ => True) v0_ r ∧ Below w.heap.size w w' := by
 have HB := am (Below.refl w.heap.size w)
 have H : (some (([(⟨#[]⟩ : ByteArray), (⟨#[112, 117, 115, 104]⟩ : ByteArray), (⟨#[108, 111, 97, 100]⟩ : ByteArray), (⟨#[115, 116, 111, 114, 101]⟩ : ByteArray), (⟨#[100, 117, 112]⟩ : ByteArray), (⟨#[112, 111, 112]⟩ : ByteArray), (⟨#[]⟩ : ByteArray), (⟨#[]⟩ : ByteArray), (⟨#[]⟩ : ByteArray), (⟨#[]⟩ : ByteArray), (⟨#[97, 100, 100]⟩ : ByteArray), (⟨#[115, 117, 98]⟩ : ByteArray), (⟨#[109, 117, 108]⟩ : ByteArray), (⟨#[100, 105, 118]⟩ : ByteArray), (⟨#[114, 101, 109]⟩ : ByteArray), (⟨#[97, 110, 100]⟩ : ByteArray), (⟨#[111, 114]⟩ : ByteArray), (⟨#[120, 111, 114]⟩ : ByteArray), (⟨#[115, 104, 108]⟩ : ByteArray), (⟨#[115, 104, 114]⟩ : ByteArray), (⟨#[117, 115, 104, 114]⟩ : ByteArray), (⟨#[108, 101, 115, 115]⟩ : ByteArray), (⟨#[97, 116, 109, 111, 115, 116]⟩ : ByteArray), (⟨#[115, 97, 109, 101]⟩ : ByteArray), (⟨#[110, 101, 103]⟩ : ByteArray), (⟨#[110, 111, 116]⟩ : ByteArray), (⟨#[98, 121, 116, 101]⟩ : ByteArray), (⟨#[115, 104, 111, 114, 116]⟩ : ByteArray), (⟨#[105, 110, 116]⟩ : ByteArray), (⟨#[119, 111, 114, 100]⟩ : ByteArray), (⟨#[106, 117, 109, 112]⟩ : ByteArray), (⟨#[106, 122]⟩ : ByteArray), (⟨#[99, 97, 108, 108]⟩ : ByteArray), (⟨#[114, 101, 116]⟩ : ByteArray), (⟨#[110, 101, 119]⟩ : ByteArray), (⟨#[103, 101, 116]⟩ : ByteArray), (⟨#[115, 101, 116]⟩ : ByteArray), (⟨#[108, 101, 110]⟩ : ByteArray), (⟨#[111, 117, 116]⟩ : ByteArray)] : List ByteArray))) = some r := h
 clear h
 obtain ⟨y257, hy257⟩ : ∃ y_ : List ByteArray, y_ = (([(⟨#[]⟩ : ByteArray), (⟨#[112, 117, 115, 104]⟩ : ByteArray), (⟨#[108, 111, 97, 100]⟩ : ByteArray), (⟨#[115, 116, 111, 114, 101]⟩ : ByteArray), (⟨#[100, 117, 112]⟩ : ByteArray), (⟨#[112, 111, 112]⟩ : ByteArray), (⟨#[]⟩ : ByteArray), (⟨#[]⟩ : ByteArray), (⟨#[]⟩ : ByteArray), (⟨#[]⟩ : ByteArray), (⟨#[97, 100, 100]⟩ : ByteArray), (⟨#[115, 117, 98]⟩ : ByteArray), (⟨#[109, 117, 108]⟩ : ByteArray), (⟨#[100, 105, 118]⟩ : ByteArray), (⟨#[114, 101, 109]⟩ : ByteArray), (⟨#[97, 110, 100]⟩ : ByteArray), (⟨#[111, 114]⟩ : ByteArray), (⟨#[120, 111, 114]⟩ : ByteArray), (⟨#[115, 104, 108]⟩ : ByteArray), (⟨#[115, 104, 114]⟩ : ByteArray), (⟨#[117, 115, 104, 114]⟩ : ByteArray), (⟨#[108, 101, 115, 115]⟩ : ByteArray), (⟨#[97, 116, 109, 111, 115, 116]⟩ : ByteArray), (⟨#[115, 97, 109, 101]⟩ : ByteArray), (⟨#[110, 101, 103]⟩ : ByteArray), (⟨#[110, 111, 116]⟩ : ByteArray), (⟨#[98, 121, 116, 101]⟩ : ByteArray), (⟨#[115, 104, 111, 114, 116]⟩ : ByteArray), (⟨#[105, 110, 116]⟩ : ByteArray), (⟨#[119, 111, 114, 100]⟩ : ByteArray), (⟨#[106, 117, 109, 112]⟩ : ByteArray), (⟨#[106, 122]⟩ : ByteArray), (⟨#[99, 97, 108, 108]⟩ : ByteArray), (⟨#[114, 101, 116]⟩ : ByteArray), (⟨#[110, 101, 119]⟩ : ByteArray), (⟨#[103, 101, 116]⟩ : ByteArray), (⟨#[115, 101, 116]⟩ : ByteArray), (⟨#[108, 101, 110]⟩ : ByteArray), (⟨#[111, 117, 116]⟩ : ByteArray)] : List ByteArray)) := ⟨_, rfl⟩
 replace H : (some y257) = some r := by first | (rw [hy257]; with_reducible exact H) | (have H2_ := (Option.bind_some _ _).symm.trans H; rw [hy257]; with_reducible exact H2_) | (have H2_ := (Option.bind_some _ _).symm.trans H; with_reducible exact H2_) | with_reducible exact H | (rw [hy257]; exact H) | exact H
 have Ny257 := am hy257
 clear hy257
 obtain rfl := Option.some.inj H
 go_enter Try.func57, Try.ntmps57
 go_wp2_with (first | ((with_reducible refine gate_dst (N := 1) rfl ?_); refine Kd.R_lit Kd.string _ 9 ?hg (N := 1) ?hd (xs := ([(⟨#[]⟩ : ByteArray), (⟨#[112, 117, 115, 104]⟩ : ByteArray), (⟨#[108, 111, 97, 100]⟩ : ByteArray), (⟨#[115, 116, 111, 114, 101]⟩ : ByteArray), (⟨#[100, 117, 112]⟩ : ByteArray), (⟨#[112, 111, 112]⟩ : ByteArray), (⟨#[]⟩ : ByteArray), (⟨#[]⟩ : ByteArray), (⟨#[]⟩ : ByteArray), (⟨#[]⟩ : ByteArray), (⟨#[97, 100, 100]⟩ : ByteArray), (⟨#[115, 117, 98]⟩ : ByteArray), (⟨#[109, 117, 108]⟩ : ByteArray), (⟨#[100, 105, 118]⟩ : ByteArray), (⟨#[114, 101, 109]⟩ : ByteArray), (⟨#[97, 110, 100]⟩ : ByteArray), (⟨#[111, 114]⟩ : ByteArray), (⟨#[120, 111, 114]⟩ : ByteArray), (⟨#[115, 104, 108]⟩ : ByteArray), (⟨#[115, 104, 114]⟩ : ByteArray), (⟨#[117, 115, 104, 114]⟩ : ByteArray), (⟨#[108, 101, 115, 115]⟩ : ByteArray), (⟨#[97, 116, 109, 111, 115, 116]⟩ : ByteArray), (⟨#[115, 97, 109, 101]⟩ : ByteArray), (⟨#[110, 101, 103]⟩ : ByteArray), (⟨#[110, 111, 116]⟩ : ByteArray), (⟨#[98, 121, 116, 101]⟩ : ByteArray), (⟨#[115, 104, 111, 114, 116]⟩ : ByteArray), (⟨#[105, 110, 116]⟩ : ByteArray), (⟨#[119, 111, 114, 100]⟩ : ByteArray), (⟨#[106, 117, 109, 112]⟩ : ByteArray), (⟨#[106, 122]⟩ : ByteArray), (⟨#[99, 97, 108, 108]⟩ : ByteArray), (⟨#[114, 101, 116]⟩ : ByteArray), (⟨#[110, 101, 119]⟩ : ByteArray), (⟨#[103, 101, 116]⟩ : ByteArray), (⟨#[115, 101, 116]⟩ : ByteArray), (⟨#[108, 101, 110]⟩ : ByteArray), (⟨#[111, 117, 116]⟩ : ByteArray)] : List ByteArray)) (inner := [.string (⟨#[]⟩ : ByteArray), .string (⟨#[112, 117, 115, 104]⟩ : ByteArray), .string (⟨#[108, 111, 97, 100]⟩ : ByteArray), .string (⟨#[115, 116, 111, 114, 101]⟩ : ByteArray), .string (⟨#[100, 117, 112]⟩ : ByteArray), .string (⟨#[112, 111, 112]⟩ : ByteArray), .string (⟨#[]⟩ : ByteArray), .string (⟨#[]⟩ : ByteArray), .string (⟨#[]⟩ : ByteArray), .string (⟨#[]⟩ : ByteArray), .string (⟨#[97, 100, 100]⟩ : ByteArray), .string (⟨#[115, 117, 98]⟩ : ByteArray), .string (⟨#[109, 117, 108]⟩ : ByteArray), .string (⟨#[100, 105, 118]⟩ : ByteArray), .string (⟨#[114, 101, 109]⟩ : ByteArray), .string (⟨#[97, 110, 100]⟩ : ByteArray), .string (⟨#[111, 114]⟩ : ByteArray), .string (⟨#[120, 111, 114]⟩ : ByteArray), .string (⟨#[115, 104, 108]⟩ : ByteArray), .string (⟨#[115, 104, 114]⟩ : ByteArray), .string (⟨#[117, 115, 104, 114]⟩ : ByteArray), .string (⟨#[108, 101, 115, 115]⟩ : ByteArray), .string (⟨#[97, 116, 109, 111, 115, 116]⟩ : ByteArray), .string (⟨#[115, 97, 109, 101]⟩ : ByteArray), .string (⟨#[110, 101, 103]⟩ : ByteArray), .string (⟨#[110, 111, 116]⟩ : ByteArray), .string (⟨#[98, 121, 116, 101]⟩ : ByteArray), .string (⟨#[115, 104, 111, 114, 116]⟩ : ByteArray), .string (⟨#[105, 110, 116]⟩ : ByteArray), .string (⟨#[119, 111, 114, 100]⟩ : ByteArray), .string (⟨#[106, 117, 109, 112]⟩ : ByteArray), .string (⟨#[106, 122]⟩ : ByteArray), .string (⟨#[99, 97, 108, 108]⟩ : ByteArray), .string (⟨#[114, 101, 116]⟩ : ByteArray), .string (⟨#[110, 101, 119]⟩ : ByteArray), .string (⟨#[103, 101, 116]⟩ : ByteArray), .string (⟨#[115, 101, 116]⟩ : ByteArray), .string (⟨#[108, 101, 110]⟩ : ByteArray), .string (⟨#[111, 117, 116]⟩ : ByteArray)]) (ok := fun _ => True) (okp := fun _ => True) ?hr ?hp (fun _ hk => hk) trivial (Below.refl _ _) (Nat.le_refl _) (by simp) ?_; (case hd => rfl); (case hg => rfl); (case hr => exact gs); (case hp => exact (Reps.one (show Kd.M Kd.string _ _ _ (⟨#[]⟩ : ByteArray) [.string (⟨#[]⟩ : ByteArray)] from rfl) (Reps.one (show Kd.M Kd.string _ _ _ (⟨#[112, 117, 115, 104]⟩ : ByteArray) [.string (⟨#[112, 117, 115, 104]⟩ : ByteArray)] from rfl) (Reps.one (show Kd.M Kd.string _ _ _ (⟨#[108, 111, 97, 100]⟩ : ByteArray) [.string (⟨#[108, 111, 97, 100]⟩ : ByteArray)] from rfl) (Reps.one (show Kd.M Kd.string _ _ _ (⟨#[115, 116, 111, 114, 101]⟩ : ByteArray) [.string (⟨#[115, 116, 111, 114, 101]⟩ : ByteArray)] from rfl) (Reps.one (show Kd.M Kd.string _ _ _ (⟨#[100, 117, 112]⟩ : ByteArray) [.string (⟨#[100, 117, 112]⟩ : ByteArray)] from rfl) (Reps.one (show Kd.M Kd.string _ _ _ (⟨#[112, 111, 112]⟩ : ByteArray) [.string (⟨#[112, 111, 112]⟩ : ByteArray)] from rfl) (Reps.one (show Kd.M Kd.string _ _ _ (⟨#[]⟩ : ByteArray) [.string (⟨#[]⟩ : ByteArray)] from rfl) (Reps.one (show Kd.M Kd.string _ _ _ (⟨#[]⟩ : ByteArray) [.string (⟨#[]⟩ : ByteArray)] from rfl) (Reps.one (show Kd.M Kd.string _ _ _ (⟨#[]⟩ : ByteArray) [.string (⟨#[]⟩ : ByteArray)] from rfl) (Reps.one (show Kd.M Kd.string _ _ _ (⟨#[]⟩ : ByteArray) [.string (⟨#[]⟩ : ByteArray)] from rfl) (Reps.one (show Kd.M Kd.string _ _ _ (⟨#[97, 100, 100]⟩ : ByteArray) [.string (⟨#[97, 100, 100]⟩ : ByteArray)] from rfl) (Reps.one (show Kd.M Kd.string _ _ _ (⟨#[115, 117, 98]⟩ : ByteArray) [.string (⟨#[115, 117, 98]⟩ : ByteArray)] from rfl) (Reps.one (show Kd.M Kd.string _ _ _ (⟨#[109, 117, 108]⟩ : ByteArray) [.string (⟨#[109, 117, 108]⟩ : ByteArray)] from rfl) (Reps.one (show Kd.M Kd.string _ _ _ (⟨#[100, 105, 118]⟩ : ByteArray) [.string (⟨#[100, 105, 118]⟩ : ByteArray)] from rfl) (Reps.one (show Kd.M Kd.string _ _ _ (⟨#[114, 101, 109]⟩ : ByteArray) [.string (⟨#[114, 101, 109]⟩ : ByteArray)] from rfl) (Reps.one (show Kd.M Kd.string _ _ _ (⟨#[97, 110, 100]⟩ : ByteArray) [.string (⟨#[97, 110, 100]⟩ : ByteArray)] from rfl) (Reps.one (show Kd.M Kd.string _ _ _ (⟨#[111, 114]⟩ : ByteArray) [.string (⟨#[111, 114]⟩ : ByteArray)] from rfl) (Reps.one (show Kd.M Kd.string _ _ _ (⟨#[120, 111, 114]⟩ : ByteArray) [.string (⟨#[120, 111, 114]⟩ : ByteArray)] from rfl) (Reps.one (show Kd.M Kd.string _ _ _ (⟨#[115, 104, 108]⟩ : ByteArray) [.string (⟨#[115, 104, 108]⟩ : ByteArray)] from rfl) (Reps.one (show Kd.M Kd.string _ _ _ (⟨#[115, 104, 114]⟩ : ByteArray) [.string (⟨#[115, 104, 114]⟩ : ByteArray)] from rfl) (Reps.one (show Kd.M Kd.string _ _ _ (⟨#[117, 115, 104, 114]⟩ : ByteArray) [.string (⟨#[117, 115, 104, 114]⟩ : ByteArray)] from rfl) (Reps.one (show Kd.M Kd.string _ _ _ (⟨#[108, 101, 115, 115]⟩ : ByteArray) [.string (⟨#[108, 101, 115, 115]⟩ : ByteArray)] from rfl) (Reps.one (show Kd.M Kd.string _ _ _ (⟨#[97, 116, 109, 111, 115, 116]⟩ : ByteArray) [.string (⟨#[97, 116, 109, 111, 115, 116]⟩ : ByteArray)] from rfl) (Reps.one (show Kd.M Kd.string _ _ _ (⟨#[115, 97, 109, 101]⟩ : ByteArray) [.string (⟨#[115, 97, 109, 101]⟩ : ByteArray)] from rfl) (Reps.one (show Kd.M Kd.string _ _ _ (⟨#[110, 101, 103]⟩ : ByteArray) [.string (⟨#[110, 101, 103]⟩ : ByteArray)] from rfl) (Reps.one (show Kd.M Kd.string _ _ _ (⟨#[110, 111, 116]⟩ : ByteArray) [.string (⟨#[110, 111, 116]⟩ : ByteArray)] from rfl) (Reps.one (show Kd.M Kd.string _ _ _ (⟨#[98, 121, 116, 101]⟩ : ByteArray) [.string (⟨#[98, 121, 116, 101]⟩ : ByteArray)] from rfl) (Reps.one (show Kd.M Kd.string _ _ _ (⟨#[115, 104, 111, 114, 116]⟩ : ByteArray) [.string (⟨#[115, 104, 111, 114, 116]⟩ : ByteArray)] from rfl) (Reps.one (show Kd.M Kd.string _ _ _ (⟨#[105, 110, 116]⟩ : ByteArray) [.string (⟨#[105, 110, 116]⟩ : ByteArray)] from rfl) (Reps.one (show Kd.M Kd.string _ _ _ (⟨#[119, 111, 114, 100]⟩ : ByteArray) [.string (⟨#[119, 111, 114, 100]⟩ : ByteArray)] from rfl) (Reps.one (show Kd.M Kd.string _ _ _ (⟨#[106, 117, 109, 112]⟩ : ByteArray) [.string (⟨#[106, 117, 109, 112]⟩ : ByteArray)] from rfl) (Reps.one (show Kd.M Kd.string _ _ _ (⟨#[106, 122]⟩ : ByteArray) [.string (⟨#[106, 122]⟩ : ByteArray)] from rfl) (Reps.one (show Kd.M Kd.string _ _ _ (⟨#[99, 97, 108, 108]⟩ : ByteArray) [.string (⟨#[99, 97, 108, 108]⟩ : ByteArray)] from rfl) (Reps.one (show Kd.M Kd.string _ _ _ (⟨#[114, 101, 116]⟩ : ByteArray) [.string (⟨#[114, 101, 116]⟩ : ByteArray)] from rfl) (Reps.one (show Kd.M Kd.string _ _ _ (⟨#[110, 101, 119]⟩ : ByteArray) [.string (⟨#[110, 101, 119]⟩ : ByteArray)] from rfl) (Reps.one (show Kd.M Kd.string _ _ _ (⟨#[103, 101, 116]⟩ : ByteArray) [.string (⟨#[103, 101, 116]⟩ : ByteArray)] from rfl) (Reps.one (show Kd.M Kd.string _ _ _ (⟨#[115, 101, 116]⟩ : ByteArray) [.string (⟨#[115, 101, 116]⟩ : ByteArray)] from rfl) (Reps.one (show Kd.M Kd.string _ _ _ (⟨#[108, 101, 110]⟩ : ByteArray) [.string (⟨#[108, 101, 110]⟩ : ByteArray)] from rfl) (Reps.one (show Kd.M Kd.string _ _ _ (⟨#[111, 117, 116]⟩ : ByteArray) [.string (⟨#[111, 117, 116]⟩ : ByteArray)] from rfl) (Reps.none _ _))))))))))))))))))))))))))))))))))))))))); intro v258 w1 ho2 hb hg_ hnew_; clear hg_ hnew_; (first | rw [← Ny257.out] at ho2 | (simp only [Int.reduceToNat] at ho2; rw [← Ny257.out] at ho2)); have HO259 := am (Kd.R_lower ho2 (below_size (bw HB))); replace HB := bs HB hb; clear hb ho2))
 go_ret
 exact ⟨_, er, kR HO259, bw HB⟩

def impl_OpName.f (a0 : Int) : Option (ByteArray) := (impl_in.f a0 0 38).bind fun t260 => (if t260 = true then ((impl_opNames.f).bind fun t261 => (if 0 ≤ a0 then (if a0 < (t261.length : Int) then (some (rdOf ByteArray.empty t261 a0)) else (none)) else (none))) else (some (⟨#[]⟩ : ByteArray)))
theorem impl_OpName.calls (a0 : Int) (r : ByteArray) (w : World) (h : impl_OpName.f a0 = some r) :
  Calls Try.prog 51 #[.int .i64 a0] w fun e w' => e = .returned (.string r) ∧ Below w.heap.size w w' := by
 have HB := am (Below.refl w.heap.size w)
 have H : ((impl_in.f a0 0 38).bind fun t260 => (if t260 = true then ((impl_opNames.f).bind fun t261 => (if 0 ≤ a0 then (if a0 < (t261.length : Int) then (some (rdOf ByteArray.empty t261 a0)) else (none)) else (none))) else (some (⟨#[]⟩ : ByteArray)))) = some r := h
 clear h
 refine be H ?_; clear H; intro t260 A2 H
 have HC3 := am H
 clear H
 go_enter Try.func51, Try.ntmps51
 go_upto_if 5 with (first | ((with_reducible refine gate_callee (f := 21) rfl ?_); refine goesL_ (some 4) rfl rfl Try.func21 (by kernel_rfl) rfl #[.int .i64 a0, .int .i64 0, .int .i64 38] rfl gl ?_; (with_reducible refine (impl_in.calls a0 0 38 t260 _ A2.out).mono ?_); rintro e w' ⟨rfl, ⟨nd, rfl⟩⟩; refine ⟨_, rfl, ?_⟩))
 (try simp only [Act.put, sa, sz, ss])
 (try simp only [World.drewN_drewN])
 generalize hq_ : World.drewN w _ = w4
 replace HB : Aside0 (Below w.heap.size w w4) := ⟨by rw [← hq_]; exact (bw HB)⟩
 clear hq_
 have H := HC3.out
 clear HC3
 refine qT H ?_ ?_ <;> clear H <;> intro c5 H <;> subst c5
 ·refine be H ?_; clear H; intro t261 A6 H
  refine iM H ?_; clear H; intro c7b0 H
  (first | rw [c7b0] | (simp only [i64_w, i32_w]; rw [c7b0]) | skip)
  refine iM H ?_; clear H; intro c8b0 H
  obtain rfl := Option.some.inj H
  go_wp2_with (first | ((with_reducible refine gate_callee (f := 57) rfl ?_); refine goesL_ (some 6) rfl rfl Try.func57 (by kernel_rfl) rfl #[] rfl gl ?_; (with_reducible refine (impl_opNames.calls  t261 _ A6.out).mono ?_); rintro e w9 ⟨v262, rfl, ho0, hb⟩; refine ⟨_, rfl, ?_⟩; have HO263 := am (Kd.R_lower ho0 (below_size (bw HB))); replace HB := bs HB hb; clear hb; (try clear ho0); obtain ⟨Ao10, co10, eo10⟩ := Kd.R_slice HO263.out; subst eo10; have p264 : 0 ≤ (a0 : Int) := of_decide_eq_true as1; have q264 : a0 < (t261.length : Int) := of_decide_eq_true as1; obtain ⟨ad264, e264, hx264_0⟩ := Kd.at_string (Kd.R_reads' HO263.out).2.2 a0 p264 q264; cases e264; replace p264 := eq_true p264; replace q264 := eq_true q264))
  go_ret
  exact ⟨er, bw HB⟩
 obtain rfl := Option.some.inj H
 go_wp2
 go_ret
 exact ⟨er, bw HB⟩

end Go.Proofs.Ytoegdbeajgddiaa.QFnExactBegin
