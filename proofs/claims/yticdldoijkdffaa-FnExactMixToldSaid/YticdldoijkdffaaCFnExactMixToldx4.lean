import Derived.Test.YticdldoijkdffaaCFnExactMixToldx0
import Derived.Test.YticdldoijkdffaaCFnExactMixToldx3
namespace Go.Proofs.Yticdldoijkdffaa.QFnExactMixTold
open Go.RowKit Go.Proofs.YticdldoijkdffaaW
open PrintWords PrintLast PrintMore PrintShort PrintIsh
attribute [local go_sem] max2_int min2_int max_two min_two max_three min_three max_four min_four   -- for this text's walks alone
set_option linter.unusedVariables false
set_option maxHeartbeats 8000000
set_option maxRecDepth 100000
set_option linter.unusedSimpArgs false

def laws_toMov.f (a0_0 : Int) (a0_1 : Int) (a0_2 : Int) : Option (Int × Int × Int) := (laws_toVal.f a0_1 a0_2).bind fun bt158 => (some (a0_0, bt158.1, bt158.2))
theorem laws_toMov.calls (a0_0 : Int) (a0_1 : Int) (a0_2 : Int) (r1 : Int) (r2 : Int) (r3 : Int) (w : World) (h : laws_toMov.f a0_0 a0_1 a0_2 = some (r1, r2, r3)) :
  Calls Try.prog 66 #[.agg #[.int .i64 a0_0, .int .i64 a0_1, .int .i64 a0_2]] w fun e w' => e = .returned (.agg #[.int .i64 r1, .int .i64 r2, .int .i64 r3]) ∧ Below w.heap.size w w' := by
 have hu118 := Try.underlying118
 have hu109 := Try.underlying109
 have hu113 := Try.underlying113
 have hu107 := Try.underlying107
 have HB := am (Below.refl w.heap.size w)
 have H : ((laws_toVal.f a0_1 a0_2).bind fun bt158 => (some (a0_0, bt158.1, bt158.2))) = some (r1, r2, r3) := h
 clear h
 replace H := Option.bind_eq_some_iff.mp H
 obtain ⟨⟨t158, t159⟩, A20, H⟩ := H
 replace H : (some (a0_0, t158, t159)) = some (r1, r2, r3) := H
 have A2 := am A20
 clear A20
 simp only [Option.some.injEq, Prod.mk.injEq] at H
 obtain ⟨rfl, rfl, rfl⟩ := H
 go_enter Try.func66, Try.ntmps66
 go_wp2_with (first | ((with_reducible refine gd 1 rfl ?_); refine bX 1 #[.int .i64 a0_0, .int .i64 a0_1, .int .i64 a0_2] 118 HB ?_; clear HB; intro gb155 w3 hg hb BK155 GW155 HB; clear hb hg) | ((with_reducible refine gd 2 rfl ?_); refine bX 2 #[.int .i64 0, .int .i64 0, .int .i64 0] 109 HB ?_; clear HB; intro gb156 w4 hg hb BK156 GW156 HB; obtain ⟨NB155_156, NB156_155, BK155⟩ := b3 hg BK155 hb; clear hb hg) | ((with_reducible refine gd 3 rfl ?_); refine bX 3 #[.int .i64 0, .int .i64 0, .int .i64 0] 109 HB ?_; clear HB; intro gb157 w5 hg hb BK157 GW157 HB; obtain ⟨NB155_157, NB157_155, BK155⟩ := b3 hg BK155 hb; obtain ⟨NB156_157, NB157_156, BK156⟩ := b3 hg BK156 hb; clear hb hg; have hnb6 := NB155_156.out; have hnc6 := NB156_155.out; have hnb7 := NB155_157.out; have hnc7 := NB157_155.out; have hcz8 := bK w5 BK155; have hfz8 := bF BK155; have hnb9 := NB157_156.out; have hnc9 := NB156_157.out; have hcz10 := bK w5 BK157; have hfz10 := bF BK157) | ((with_reducible refine gate_callee (f := 63) rfl ?_); refine goesL_ (some 9) rfl rfl Try.func63 (by kernel_rfl) rfl #[.agg #[.int .i64 a0_1, .int .i64 a0_2]] rfl gl ?_; (with_reducible refine (laws_toVal.calls a0_1 a0_2 t158 t159 _ A2.out).mono ?_); rintro e w11 ⟨rfl, hb⟩; refine ⟨_, rfl, ?_⟩; replace BK155 := bb2 BK155 hb; replace BK156 := bb2 BK156 hb; replace BK157 := bo #[.int .i64 a0_0, .int .i64 0, .int .i64 0] BK157 hb; replace HB := bs HB hb; clear hb; have hcz12 := bK w11 BK157; have hfz12 := bF BK157; have hcz13 := bK w11 BK156; have hfz13 := bF BK156))
 refine bodyPost_ret (results_cell_row rfl _ _ gb156 109 #[.int .i64 a0_0, .int .i64 t158, .int .i64 t159] (0, 0) _ rfl (bt BK156) Try.underlying109 rfl (by kernel_rfl)) rfl ?_
 exact ⟨er, bw HB⟩

def laws_toMovS.l0 : Nat → List (S118) → List (S109) → Int → Option ((List (S109)))
 | 0, _, _, _ => none
 | k + 1, x0, x3, x4 => if x4 < (x0.length : Int) then (if 0 ≤ x4 then ((laws_toMov.f ((rd_T118 x0 x4).f0) ((rd_T118 x0 x4).f1.f0) ((rd_T118 x0 x4).f1.f1)).bind fun bt164 => (if x4 < (x3.length : Int) then (laws_toMovS.l0 k x0 (x3.set (x4 : Int).toNat (⟨bt164.1, (⟨bt164.2.1, bt164.2.2⟩ : S107)⟩ : S109)) (wrap64 (x4 + 1))) else (none))) else (none)) else (some x3)
def laws_toMovS.f (k : Nat) (l0 : List (S118)) : Option ((List (S109))) := if 0 ≤ (l0.length : Int) then (if ((l0.length : Int) : Int).toNat ≤ 11728124029610 then (laws_toMovS.l0 k l0 (List.replicate ((l0.length : Int) : Int).toNat z109) 0) else (none)) else (none)
theorem laws_toMovS.mono_l : ∀ k, (∀ y0 y1 y2, LeO (laws_toMovS.l0 k y0 y1 y2) (laws_toMovS.l0 (k + 1) y0 y1 y2))
 | 0 => fun _ _ _ r h => by simp [laws_toMovS.l0] at h
 | k + 1 => by
  have ih0 := laws_toMovS.mono_l k
  ·intro y0 y1 y2
   unfold laws_toMovS.l0
   with_reducible repeat' first | exact ih0 .. | exact LeO.refl _ | exact LeO.none _ | refine LeO.ite ?_ ?_ | refine LeO.bind ?_ (fun _ => ?_)
theorem laws_toMovS.mono : ∀ a0 k, LeO (laws_toMovS.f k a0) (laws_toMovS.f (k + 1) a0) := by
 intro a0 k
 have ih0 := laws_toMovS.mono_l k
 unfold laws_toMovS.f
 with_reducible repeat' first | exact ih0 .. | exact LeO.refl _ | exact LeO.none _ | refine LeO.ite ?_ ?_ | refine LeO.bind ?_ (fun _ => ?_)
theorem laws_toMovS.calls (k : Nat) (A0 : Option Addr) (c0 : Nat) (l0 : List (S118)) (r : List (S109)) (w : World) (hr0 : Kd.C k118 w A0 l0.length l0) (hc0 : l0.length ≤ c0) (h : laws_toMovS.f k l0 = some r) :
  Calls Try.prog 62 #[.slice A0 l0.length c0] w fun e w' => ∃ v0_ : Value, e = .returned (v0_) ∧ Kd.R k109 109 w' w.heap.size (fun _ => True) v0_ r ∧ Below w.heap.size w w' := by
 have hu118 := Try.underlying118
 have hu109 := Try.underlying109
 have HR0 := am hr0
 have HC0 := am hc0
 clear hr0 hc0
 have HB := am (Below.refl w.heap.size w)
 have H : (if 0 ≤ (l0.length : Int) then (if ((l0.length : Int) : Int).toNat ≤ 11728124029610 then (laws_toMovS.l0 k l0 (List.replicate ((l0.length : Int) : Int).toNat z109) 0) else (none)) else (none)) = some r := h
 clear h
 refine iN H ?_; clear H; intro c2 H
 have c2b0 := eq_true c2
 have c2b1 := decide_eq_true c2
 clear c2
 refine iN H ?_; clear H; intro c3 H
 have c3b0 := eq_true c3
 have c3b1 := decide_eq_true c3
 clear c3
 obtain ⟨y160, hy160⟩ : ∃ y_ : List (S109), y_ = (List.replicate ((l0.length : Int) : Int).toNat z109) := ⟨_, rfl⟩
 replace H : (laws_toMovS.l0 k l0 y160 0) = some r := by first | (rw [hy160]; with_reducible exact H) | (have H2_ := (Option.bind_some _ _).symm.trans H; rw [hy160]; with_reducible exact H2_) | (have H2_ := (Option.bind_some _ _).symm.trans H; with_reducible exact H2_) | with_reducible exact H | (rw [hy160]; exact H) | exact H
 have Ny160 := am hy160
 clear hy160
 have H' := am H
 clear H
 go_enter Try.func62, Try.ntmps62
 go_wp2_with (first | ((with_reducible refine gate_dst (N := 7) rfl ?_); refine Kd.R_make k109 _ 109 rfl (N := 7) rfl 91 _ _ rfl (l0.length : Int) rfl rfl Try.underlying91 (.agg #[(.int .i64 0), (.int .i64 0), (.int .i64 0)]) 24 info109 rfl (by decide) (by omega) z109 (ok := fun _ => True) (okp := fun _ => True) (k109_mkM _ _ _ z109 ) (fun _ hk => hk) trivial (of_decide_eq_true as1) (Nat.le_trans (Nat.mul_le_mul_right _ (of_decide_eq_true as1 : (l0.length : Int).toNat ≤ 11728124029610)) (by omega)) (Below.refl _ _) (Nat.le_refl _) ?_; intro v161 w4 ho5 hb hg_ hnew_; clear hg_ hnew_; (first | rw [← Ny160.out] at ho5 | (simp only [Int.reduceToNat] at ho5; rw [← Ny160.out] at ho5)); have HO162 := am (Kd.R_lower ho5 (below_size (bw HB))); replace HB := bs HB hb; clear hb ho5))
 go_loopg [4] k (fun kq v4 w' => ∃ (x3_1 : List (S109)) (x4_1 : Int), v4 = .int .i64 x4_1 ∧ Aside0 (laws_toMovS.l0 kq l0 x3_1 x4_1 = some r) ∧ Aside0 (kq ≤ k) ∧ Aside0 (Kd.R k109 109 w' w.heap.size (fun _ => True) v161 x3_1) ∧ Aside0 (Below w.heap.size w w'))
 case atStart => exact ⟨(y160), (0), dr, H', ⟨Nat.le_refl _⟩, ⟨kR HO162⟩, ⟨bw HB⟩⟩
 clear H'
 (try clear c2); (try clear c2b0); (try clear c2b1); (try clear p2); (try clear c3); (try clear c3b0); (try clear c3b1)
 obtain ⟨x3_1, x4_1, rfl, HA, HK1, HO_3, HB⟩ := hrel
 rcases gk with _ | k1
 ·exact absurd HA.out (by simp [laws_toMovS.l0])
 have H := HA.out
 clear HA
 simp only [laws_toMovS.l0] at H
 refine qI H ?_ ?_ <;> clear H <;> intro c6b0 H
 ·refine iM H ?_; clear H; intro c7b0 H
  replace H := Option.bind_eq_some_iff.mp H
  obtain ⟨⟨t164, t165, t166⟩, A80, H⟩ := H
  replace H : (if x4_1 < (x3_1.length : Int) then (laws_toMovS.l0 k1 l0 (x3_1.set (x4_1 : Int).toNat (⟨t164, (⟨t165, t166⟩ : S107)⟩ : S109)) (wrap64 (x4_1 + 1))) else (none)) = some r := H
  have A8 := am A80
  clear A80
  refine iM H ?_; clear H; intro c9b0 H
  obtain ⟨y167, hy167⟩ : ∃ y_ : List (S109), y_ = (x3_1.set (x4_1 : Int).toNat (⟨t164, (⟨t165, t166⟩ : S107)⟩ : S109)) := ⟨_, rfl⟩
  replace H : (laws_toMovS.l0 k1 l0 y167 (wrap64 (x4_1 + 1))) = some r := by first | (rw [hy167]; with_reducible exact H) | (have H2_ := (Option.bind_some _ _).symm.trans H; rw [hy167]; with_reducible exact H2_) | (have H2_ := (Option.bind_some _ _).symm.trans H; with_reducible exact H2_) | with_reducible exact H | (rw [hy167]; exact H) | exact H
  have Ny167 := am hy167
  clear hy167
  have H' := am H
  clear H
  have p163 : 0 ≤ (x4_1 : Int) := of_decide_eq_true as1
  have q163 : x4_1 < (l0.length : Int) := of_decide_eq_true as1
  obtain ⟨ad163, e163, hx163_0, hx163_1, hx163_2⟩ := at_T118 HR0.out x4_1 p163 q163
  cases e163
  replace hx163_0 := cl HB hx163_0
  replace hx163_1 := cl HB hx163_1
  replace hx163_2 := cl HB hx163_2
  replace p163 := eq_true p163
  replace q163 := eq_true q163
  go_wp2_with (first | ((with_reducible refine gate_callee (f := 66) rfl ?_); refine goesL_ (some 20) rfl rfl Try.func66 (by kernel_rfl) rfl #[.agg #[.int .i64 ((rd_T118 l0 x4_1).f0), .int .i64 ((rd_T118 l0 x4_1).f1.f0), .int .i64 ((rd_T118 l0 x4_1).f1.f1)]] rfl gl ?_; (with_reducible refine (laws_toMov.calls ((rd_T118 l0 x4_1).f0) ((rd_T118 l0 x4_1).f1.f0) ((rd_T118 l0 x4_1).f1.f1) t164 t165 t166 _ A8.out).mono ?_); rintro e w11 ⟨rfl, hb⟩; refine ⟨_, rfl, ?_⟩; replace HO_3 := am (Kd.R_below (kR HO_3) hb); replace HB := bs HB hb; clear hb; have p10 : 0 ≤ (x4_1 : Int) := of_decide_eq_true as1; have q10 : (x4_1 : Int) < ((x3_1.length : Int) : Int) := of_decide_eq_true as1; obtain ⟨go10, co10, eo10, gb10, gl10, cl10, HG10⟩ := Kd.R_form HO_3.out (by omega); (first | cases eo10 | (injection eo10 with ea_ en_ ec_; (first | subst ea_ | (injection ea_ with ea_; subst ea_)); subst ec_; clear en_)); have GB10 := am gb10; have GG10 := am HG10; clear gb10 gl10 HG10; obtain ⟨ce10, hcl10, hM10, hcc10, hfr10⟩ := Kd.R_elem HO_3.out z109 (x4_1 : Int) p10 q10; obtain rfl := k109_openM hM10; have hx10_0 : w11.cell? ⟨go10, (x4_1 : Int).toNat * 3, none⟩ = some (.int .i64 ((rd_T109 x3_1 x4_1).f0)) := hcc10 0 _ rfl; have hx10_1 : w11.cell? ⟨go10, (x4_1 : Int).toNat * 3 + 1, none⟩ = some (.int .i64 ((rd_T109 x3_1 x4_1).f1.f0)) := hcc10 1 _ rfl; have hx10_2 : w11.cell? ⟨go10, (x4_1 : Int).toNat * 3 + 2, none⟩ = some (.int .i64 ((rd_T109 x3_1 x4_1).f1.f1)) := hcc10 2 _ rfl; have hf10_0 : w11.frozen? ⟨go10, (x4_1 : Int).toNat * 3, none⟩ = false := hfr10 0; have hf10_1 : w11.frozen? ⟨go10, (x4_1 : Int).toNat * 3 + 1, none⟩ = false := hfr10 1; have hf10_2 : w11.frozen? ⟨go10, (x4_1 : Int).toNat * 3 + 2, none⟩ = false := hfr10 2; (try clear hM10); (try clear hfr10); (try clear hcc10); (try clear hcl10); replace p10 := eq_true p10; replace q10 := eq_true q10; have HX12 := am (show Kd.R k109 109 w11 w.heap.size (fun _ => True) (.slice (some ⟨go10, 0, none⟩) x3_1.length co10) x3_1 from (kR HO_3)); obtain ⟨ce12, hcl12, hM12, hcc12, hfr12⟩ := Kd.R_elem HX12.out z109 (x4_1 : Int) (of_decide_eq_true as1) (by have h_ : (x4_1 : Int) < ((x3_1.length : Int) : Int) := of_decide_eq_true as1; first | exact h_ | (have e_ := (Kd.R_reads' HO_3.out).1; omega) | simpa using h_); obtain rfl := k109_openM hM12; have HP12 := Kd.R_seg HX12.out (x4_1 : Int) (of_decide_eq_true as1) (by have h_ : (x4_1 : Int) < ((x3_1.length : Int) : Int) := of_decide_eq_true as1; first | exact h_ | (have e_ := (Kd.R_reads' HO_3.out).1; omega) | simpa using h_) (seg := [.int .i64 t164, .int .i64 t165, .int .i64 t166]) (j := 0) hcl12 hcc12 (show 3 ≤ 3 from by decide) (x' := (⟨t164, (⟨t165, t166⟩ : S107)⟩ : S109)) (k109_mkM _ _ _ (⟨t164, (⟨t165, t166⟩ : S107)⟩ : S109) ) (fun _ hk => hk); have hx12_0 := hcc12 0 _ rfl; (try simp only [show (k109).sz = 3 from rfl, Nat.mul_one, Nat.add_zero] at hx12_0); have hf12_0 := hfr12 0; (try simp only [show (k109).sz = 3 from rfl, Nat.mul_one, Nat.add_zero] at hf12_0); have hx12_1 := hcc12 1 _ rfl; (try simp only [show (k109).sz = 3 from rfl, Nat.mul_one, Nat.add_zero] at hx12_1); have hf12_1 := hfr12 1; (try simp only [show (k109).sz = 3 from rfl, Nat.mul_one, Nat.add_zero] at hf12_1); have hx12_2 := hcc12 2 _ rfl; (try simp only [show (k109).sz = 3 from rfl, Nat.mul_one, Nat.add_zero] at hx12_2); have hf12_2 := hfr12 2; (try simp only [show (k109).sz = 3 from rfl, Nat.mul_one, Nat.add_zero] at hf12_2); (try clear hM12); (try clear hfr12); (try clear hcc12); (try clear hcl12)) | ((with_reducible refine gt 109 21 rfl ?_); refine sE 109 21 (((w11.setCell ⟨go10, (x4_1 : Int).toNat * 3, none⟩ (.int .i64 t164)).setCell ⟨go10, (x4_1 : Int).toNat * 3 + 1, none⟩ (.int .i64 t165)).setCell ⟨go10, (x4_1 : Int).toNat * 3 + 2, none⟩ (.int .i64 t166)) ?_; intro w13 hw; have hg : w11.grownBy w13 (some go10) := (by rw [hw]; exact HP12.2); have hp_ : Kd.R k109 109 w13 w.heap.size (fun _ => True) (.slice (some ⟨go10, 0, none⟩) x3_1.length co10) y167 := (by rw [hw, Ny167.out]; exact HP12.1); clear HP12; replace HO_3 := am (hp_); replace HB := am ((by rw [hw]; exact below_set (below_set (below_set (HB.out) GB10.out) GB10.out) GB10.out : Below w.heap.size w w13)); clear hg hw hp_))
  go_roundg k1
  case measure => have := HK1.out; omega
  case rel => exact ⟨(y167), (wrap64 (x4_1 + 1)), dr, H', ⟨by have := HK1.out; omega⟩, ⟨kR HO_3⟩, ⟨bw HB⟩⟩
 obtain rfl := Option.some.inj H
 go_wp2
 go_ret
 exact ⟨_, er, kR HO_3, bw HB⟩

def laws_toAsmIns.f (k : Nat) (l0_0 : List (S118)) (a0_1 : Int) (a0_2 : Int) (l0_3 : List (S113)) (a0_4 : Int) : Option ((List (S109)) × Int × Int × (List (S107)) × Int) := (laws_toMovS.f k l0_0).bind fun t171 => ((laws_toValS.f k l0_3).bind fun t174 => (some (t171, a0_1, a0_2, t174, a0_4)))
theorem laws_toAsmIns.mono : ∀ a0 a1 a2 a3 a4 k, LeO (laws_toAsmIns.f k a0 a1 a2 a3 a4) (laws_toAsmIns.f (k + 1) a0 a1 a2 a3 a4) := by
 intro a0 a1 a2 a3 a4 k
 unfold laws_toAsmIns.f
 with_reducible repeat' first | exact laws_toMovS.mono .. | exact laws_toValS.mono .. | exact LeO.refl _ | exact LeO.none _ | refine LeO.ite ?_ ?_ | refine LeO.bind ?_ (fun _ => ?_)
theorem laws_toAsmIns.calls (k : Nat) (A0_0 : Option Addr) (c0_0 : Nat) (l0_0 : List (S118)) (a0_1 : Int) (a0_2 : Int) (A0_3 : Option Addr) (c0_3 : Nat) (l0_3 : List (S113)) (a0_4 : Int) (r1 : List (S109)) (r2 : Int) (r3 : Int) (r4 : List (S107)) (r5 : Int) (w : World) (hr0_0 : Kd.C k118 w A0_0 l0_0.length l0_0) (hc0_0 : l0_0.length ≤ c0_0) (hr0_3 : Kd.C k113 w A0_3 l0_3.length l0_3) (hc0_3 : l0_3.length ≤ c0_3) (h : laws_toAsmIns.f k l0_0 a0_1 a0_2 l0_3 a0_4 = some (r1, r2, r3, r4, r5)) :
  Calls Try.prog 57 #[.agg #[.slice A0_0 l0_0.length c0_0, .int .i64 a0_1, .int .i64 a0_2, .slice A0_3 l0_3.length c0_3, .int .i64 a0_4]] w fun e w' => ∃ v0_ v3_ : Value, e = .returned (.agg #[v0_, .int .i64 r2, .int .i64 r3, v3_, .int .i64 r5]) ∧ Kd.R k109 109 w' w.heap.size (fun _ => True) v0_ r1 ∧ Kd.R k107 107 w' w.heap.size (fun _ => True) v3_ r4 ∧ Below w.heap.size w w' := by
 have hu100 := Try.underlying100
 have hu94 := Try.underlying94
 have HR0_0 := am hr0_0
 have HC0_0 := am hc0_0
 clear hr0_0 hc0_0
 have HR0_3 := am hr0_3
 have HC0_3 := am hc0_3
 clear hr0_3 hc0_3
 have HB := am (Below.refl w.heap.size w)
 have H : ((laws_toMovS.f k l0_0).bind fun t171 => ((laws_toValS.f k l0_3).bind fun t174 => (some (t171, a0_1, a0_2, t174, a0_4)))) = some (r1, r2, r3, r4, r5) := h
 clear h
 refine be H ?_; clear H; intro t171 A2 H
 refine be H ?_; clear H; intro t174 A3 H
 simp only [Option.some.injEq, Prod.mk.injEq] at H
 obtain ⟨rfl, rfl, rfl, rfl, rfl⟩ := H
 go_enter Try.func57, Try.ntmps57
 go_wp2_with (first | ((with_reducible refine gd 1 rfl ?_); refine bX 1 #[.slice A0_0 l0_0.length c0_0, .int .i64 a0_1, .int .i64 a0_2, .slice A0_3 l0_3.length c0_3, .int .i64 a0_4] 100 HB ?_; clear HB; intro gb168 w4 hg hb BK168 GW168 HB; clear hb hg) | ((with_reducible refine gd 2 rfl ?_); refine bX 2 #[.slice none 0 0, .int .i64 0, .int .i64 0, .slice none 0 0, .int .i64 0] 94 HB ?_; clear HB; intro gb169 w5 hg hb BK169 GW169 HB; obtain ⟨NB168_169, NB169_168, BK168⟩ := b3 hg BK168 hb; clear hb hg) | ((with_reducible refine gd 3 rfl ?_); refine bX 3 #[.slice none 0 0, .int .i64 0, .int .i64 0, .slice none 0 0, .int .i64 0] 94 HB ?_; clear HB; intro gb170 w6 hg hb BK170 GW170 HB; obtain ⟨NB168_170, NB170_168, BK168⟩ := b3 hg BK168 hb; obtain ⟨NB169_170, NB170_169, BK169⟩ := b3 hg BK169 hb; clear hb hg; have hnb7 := NB168_169.out; have hnc7 := NB169_168.out; have hnb8 := NB168_170.out; have hnc8 := NB170_168.out; have hcz9_0 := bk w6 BK168 0; have hcz9_1 := bk w6 BK168 1; have hcz9_2 := bk w6 BK168 2; have hcz9_3 := bk w6 BK168 3; have hcz9_4 := bk w6 BK168 4; have hfz9_0 := bf BK168 0; have hfz9_1 := bf BK168 1; have hfz9_2 := bf BK168 2; have hfz9_3 := bf BK168 3; have hfz9_4 := bf BK168 4) | ((with_reducible refine gk 62 rfl ?_); refine gC 62 (some 6) Try.func62 #[.slice A0_0 l0_0.length c0_0] ((laws_toMovS.calls k _ _ l0_0 t171 _ (cc (Kd.C_below HR0_0.out HB.out)) HC0_0.out A2.out).mono ?_); rintro e w10 ⟨v172, rfl, ho0, hb⟩; refine ⟨_, rfl, ?_⟩; have HO173 := am (Kd.R_lower ho0 (below_size (bw HB))); replace BK168 := bb BK168 hb; replace BK169 := bb BK169 hb; replace BK170 := bb BK170 hb; replace HB := bs HB hb; clear hb; (try clear ho0); obtain ⟨Ao11, co11, eo11⟩ := Kd.R_slice HO173.out; subst eo11; have hnb12 := NB170_169.out; have hnc12 := NB169_170.out; have hcz13_0 := bk w10 BK170 0; have hcz13_1 := bk w10 BK170 1; have hcz13_2 := bk w10 BK170 2; have hcz13_3 := bk w10 BK170 3; have hcz13_4 := bk w10 BK170 4; have hfz13_0 := bf BK170 0; have hfz13_1 := bf BK170 1; have hfz13_2 := bf BK170 2; have hfz13_3 := bf BK170 3; have hfz13_4 := bf BK170 4; have hcz14_0 := bk w10 BK168 0; have hcz14_1 := bk w10 BK168 1; have hcz14_2 := bk w10 BK168 2; have hcz14_3 := bk w10 BK168 3; have hcz14_4 := bk w10 BK168 4; have hfz14_0 := bf BK168 0; have hfz14_1 := bf BK168 1; have hfz14_2 := bf BK168 2; have hfz14_3 := bf BK168 3; have hfz14_4 := bf BK168 4) | ((with_reducible refine gk 58 rfl ?_); refine gC 58 (some 16) Try.func58 #[.slice A0_3 l0_3.length c0_3] ((laws_toValS.calls k _ _ l0_3 t174 _ (Kd.C_below HR0_3.out (bw HB)) HC0_3.out A3.out).mono ?_); rintro e w15 ⟨v175, rfl, ho0, hb⟩; refine ⟨_, rfl, ?_⟩; replace HO173 := am (Kd.R_below (by (with_reducible repeat (first | apply Kd.R_alloc | apply Kd.R_drewN | apply Kd.R_drew)); exact (Kd.R_mono (Kd.R_far (p := ⟨gb170, 2, none⟩) (Kd.R_far (p := ⟨gb170, 1, none⟩) (Kd.R_far (p := ⟨gb170, 0, none⟩) (Kd.R_types HO173.out BK170.out (by decide)) (fun _ hk => hk.2) (.slice Ao11 t171.length co11)) (fun _ hk => hk.2) (.int .i64 a0_1)) (fun _ hk => hk.2) (.int .i64 a0_2)) (fun _ h_ => h_.1))) hb); have HO176 := am (Kd.R_lower ho0 (below_size (bw HB))); replace BK168 := bb2 BK168 hb; replace BK169 := bb2 BK169 hb; replace BK170 := bo #[.slice Ao11 t171.length co11, .int .i64 a0_1, .int .i64 a0_2, .slice none 0 0, .int .i64 0] BK170 hb; replace HB := bs HB hb; clear hb; (try clear ho0); obtain ⟨Ao16, co16, eo16⟩ := Kd.R_slice HO176.out; subst eo16; have hcz17_0 := bk w15 BK170 0; have hcz17_1 := bk w15 BK170 1; have hcz17_2 := bk w15 BK170 2; have hcz17_3 := bk w15 BK170 3; have hcz17_4 := bk w15 BK170 4; have hfz17_0 := bf BK170 0; have hfz17_1 := bf BK170 1; have hfz17_2 := bf BK170 2; have hfz17_3 := bf BK170 3; have hfz17_4 := bf BK170 4; have hcz18_0 := bk w15 BK168 0; have hcz18_1 := bk w15 BK168 1; have hcz18_2 := bk w15 BK168 2; have hcz18_3 := bk w15 BK168 3; have hcz18_4 := bk w15 BK168 4; have hfz18_0 := bf BK168 0; have hfz18_1 := bf BK168 1; have hfz18_2 := bf BK168 2; have hfz18_3 := bf BK168 3; have hfz18_4 := bf BK168 4; have hcz19_0 := bk w15 BK169 0; have hcz19_1 := bk w15 BK169 1; have hcz19_2 := bk w15 BK169 2; have hcz19_3 := bk w15 BK169 3; have hcz19_4 := bk w15 BK169 4; have hfz19_0 := bf BK169 0; have hfz19_1 := bf BK169 1; have hfz19_2 := bf BK169 2; have hfz19_3 := bf BK169 3; have hfz19_4 := bf BK169 4))
 refine bodyPost_ret (results_cell_row rfl _ _ gb169 94 #[.slice Ao11 t171.length co11, .int .i64 a0_1, .int .i64 a0_2, .slice Ao16 t174.length co16, .int .i64 a0_4] (0, 0) _ rfl (bt BK169) Try.underlying94 rfl (by kernel_rfl)) rfl ?_
 exact ⟨_, _, er, by (with_reducible repeat (first | apply Kd.R_alloc | apply Kd.R_drewN | apply Kd.R_drew)); exact Kd.R_mono (Kd.R_far (p := ⟨gb169, 4, none⟩) (Kd.R_far (p := ⟨gb169, 3, none⟩) (Kd.R_far (p := ⟨gb169, 2, none⟩) (Kd.R_far (p := ⟨gb169, 1, none⟩) (Kd.R_far (p := ⟨gb169, 0, none⟩) (Kd.R_far (p := ⟨gb170, 4, none⟩) (Kd.R_far (p := ⟨gb170, 3, none⟩) (Kd.R_types (Kd.R_types HO173.out BK170.out (by decide)) BK169.out (by decide)) (fun _ hk => hk.1.2) (.slice Ao16 t174.length co16)) (fun _ hk => hk.1.2) (.int .i64 a0_4)) (fun _ hk => hk.2) (.slice Ao11 t171.length co11)) (fun _ hk => hk.2) (.int .i64 a0_1)) (fun _ hk => hk.2) (.int .i64 a0_2)) (fun _ hk => hk.2) (.slice Ao16 t174.length co16)) (fun _ hk => hk.2) (.int .i64 a0_4)) (fun _ hk => trivial), by (with_reducible repeat (first | apply Kd.R_alloc | apply Kd.R_drewN | apply Kd.R_drew)); exact Kd.R_mono (Kd.R_far (p := ⟨gb169, 4, none⟩) (Kd.R_far (p := ⟨gb169, 3, none⟩) (Kd.R_far (p := ⟨gb169, 2, none⟩) (Kd.R_far (p := ⟨gb169, 1, none⟩) (Kd.R_far (p := ⟨gb169, 0, none⟩) (Kd.R_far (p := ⟨gb170, 4, none⟩) (Kd.R_far (p := ⟨gb170, 3, none⟩) (Kd.R_types (Kd.R_types HO176.out BK170.out (by decide)) BK169.out (by decide)) (fun _ hk => hk.1.2) (.slice Ao16 t174.length co16)) (fun _ hk => hk.1.2) (.int .i64 a0_4)) (fun _ hk => hk.2) (.slice Ao11 t171.length co11)) (fun _ hk => hk.2) (.int .i64 a0_1)) (fun _ hk => hk.2) (.int .i64 a0_2)) (fun _ hk => hk.2) (.slice Ao16 t174.length co16)) (fun _ hk => hk.2) (.int .i64 a0_4)) (fun _ hk => trivial), bw HB⟩

def laws_toAsmInsS.l0 : Nat → List (S100) → List (S94) → Int → Option ((List (S94)))
 | 0, _, _, _ => none
 | k + 1, x0, x3, x4 => if x4 < (x0.length : Int) then (if 0 ≤ x4 then ((laws_toAsmIns.f k ((rd_T100 x0 x4).f0) ((rd_T100 x0 x4).f1) ((rd_T100 x0 x4).f2) ((rd_T100 x0 x4).f3) ((rd_T100 x0 x4).f4)).bind fun bt181 => (if x4 < (x3.length : Int) then (laws_toAsmInsS.l0 k x0 (x3.set (x4 : Int).toNat (⟨bt181.1, bt181.2.1, bt181.2.2.1, bt181.2.2.2.1, bt181.2.2.2.2⟩ : S94)) (wrap64 (x4 + 1))) else (none))) else (none)) else (some x3)
def laws_toAsmInsS.f (k : Nat) (l0 : List (S100)) : Option ((List (S94))) := if 0 ≤ (l0.length : Int) then (if ((l0.length : Int) : Int).toNat ≤ 3909374676536 then (laws_toAsmInsS.l0 k l0 (List.replicate ((l0.length : Int) : Int).toNat z94) 0) else (none)) else (none)
theorem laws_toAsmInsS.mono_l : ∀ k, (∀ y0 y1 y2, LeO (laws_toAsmInsS.l0 k y0 y1 y2) (laws_toAsmInsS.l0 (k + 1) y0 y1 y2))
 | 0 => fun _ _ _ r h => by simp [laws_toAsmInsS.l0] at h
 | k + 1 => by
  have ih0 := laws_toAsmInsS.mono_l k
  ·intro y0 y1 y2
   unfold laws_toAsmInsS.l0
   with_reducible repeat' first | exact ih0 .. | exact laws_toAsmIns.mono .. | exact LeO.refl _ | exact LeO.none _ | refine LeO.ite ?_ ?_ | refine LeO.bind ?_ (fun _ => ?_)
theorem laws_toAsmInsS.mono : ∀ a0 k, LeO (laws_toAsmInsS.f k a0) (laws_toAsmInsS.f (k + 1) a0) := by
 intro a0 k
 have ih0 := laws_toAsmInsS.mono_l k
 unfold laws_toAsmInsS.f
 with_reducible repeat' first | exact ih0 .. | exact laws_toAsmIns.mono .. | exact LeO.refl _ | exact LeO.none _ | refine LeO.ite ?_ ?_ | refine LeO.bind ?_ (fun _ => ?_)
theorem laws_toAsmInsS.calls (k : Nat) (A0 : Option Addr) (c0 : Nat) (l0 : List (S100)) (r : List (S94)) (w : World) (hr0 : Kd.C k100 w A0 l0.length l0) (hc0 : l0.length ≤ c0) (h : laws_toAsmInsS.f k l0 = some r) :
  Calls Try.prog 49 #[.slice A0 l0.length c0] w fun e w' => ∃ v0_ : Value, e = .returned (v0_) ∧ Kd.S k94 94 w' w.heap.size (fun _ => True) v0_ r ∧ Below w.heap.size w w' := by
 have hu100 := Try.underlying100
 have hu94 := Try.underlying94
 have HR0 := am hr0
 have HC0 := am hc0
 clear hr0 hc0
 have HB := am (Below.refl w.heap.size w)
 have H : (if 0 ≤ (l0.length : Int) then (if ((l0.length : Int) : Int).toNat ≤ 3909374676536 then (laws_toAsmInsS.l0 k l0 (List.replicate ((l0.length : Int) : Int).toNat z94) 0) else (none)) else (none)) = some r := h
 clear h
 refine iN H ?_; clear H; intro c2 H
 have c2b0 := eq_true c2
 have c2b1 := decide_eq_true c2
 clear c2
 refine iN H ?_; clear H; intro c3 H
 have c3b0 := eq_true c3
 have c3b1 := decide_eq_true c3
 clear c3
 obtain ⟨y177, hy177⟩ : ∃ y_ : List (S94), y_ = (List.replicate ((l0.length : Int) : Int).toNat z94) := ⟨_, rfl⟩
 replace H : (laws_toAsmInsS.l0 k l0 y177 0) = some r := by first | (rw [hy177]; with_reducible exact H) | (have H2_ := (Option.bind_some _ _).symm.trans H; rw [hy177]; with_reducible exact H2_) | (have H2_ := (Option.bind_some _ _).symm.trans H; with_reducible exact H2_) | with_reducible exact H | (rw [hy177]; exact H) | exact H
 have Ny177 := am hy177
 clear hy177
 have H' := am H
 clear H
 go_enter Try.func49, Try.ntmps49
 go_wp2_with (first | ((with_reducible refine gate_dst (N := 7) rfl ?_); refine Kd.S_make k94 _ 94 rfl (N := 7) rfl 70 _ _ rfl (l0.length : Int) rfl rfl Try.underlying70 (.agg #[(.slice none 0 0), (.int .i64 0), (.int .i64 0), (.slice none 0 0), (.int .i64 0)]) 72 info94 rfl (by decide) (by omega) z94 (ok := fun _ => True) (okp := fun _ => True) (k94_mkM _ _ _ z94 (Kd.R_nil _ _ _ _ _) (Kd.R_nil _ _ _ _ _)) (fun _ hk => hk) trivial (of_decide_eq_true as1) (Nat.le_trans (Nat.mul_le_mul_right _ (of_decide_eq_true as1 : (l0.length : Int).toNat ≤ 3909374676536)) (by omega)) (Below.refl _ _) (Nat.le_refl _) ?_; intro v178 w4 ho5 hb hg_ hnew_; clear hg_ hnew_; (first | rw [← Ny177.out] at ho5 | (simp only [Int.reduceToNat] at ho5; rw [← Ny177.out] at ho5)); have HO179 := am (Kd.S_lower ho5 (below_size (bw HB))); replace HB := bs HB hb; clear hb ho5))
 go_loopg [4] k (fun kq v4 w' => ∃ (x3_1 : List (S94)) (x4_1 : Int), v4 = .int .i64 x4_1 ∧ Aside0 (laws_toAsmInsS.l0 kq l0 x3_1 x4_1 = some r) ∧ Aside0 (kq ≤ k) ∧ Aside0 (Kd.S k94 94 w' w.heap.size (fun _ => True) v178 x3_1) ∧ Aside0 (Below w.heap.size w w'))
 case atStart => exact ⟨(y177), (0), dr, H', ⟨Nat.le_refl _⟩, ⟨kS HO179⟩, ⟨bw HB⟩⟩
 clear H'
 (try clear c2); (try clear c2b0); (try clear c2b1); (try clear p2); (try clear c3); (try clear c3b0); (try clear c3b1); (try clear c4)
 obtain ⟨x3_1, x4_1, rfl, HA, HK1, HO_3, HB⟩ := hrel
 rcases gk with _ | k1
 ·exact absurd HA.out (by simp [laws_toAsmInsS.l0])
 have H := HA.out
 clear HA
 simp only [laws_toAsmInsS.l0] at H
 refine qI H ?_ ?_ <;> clear H <;> intro c6b0 H
 ·refine iM H ?_; clear H; intro c7b0 H
  replace H := Option.bind_eq_some_iff.mp H
  obtain ⟨⟨t181, t184, t185, t186, t189⟩, A80, H⟩ := H
  replace H : (if x4_1 < (x3_1.length : Int) then (laws_toAsmInsS.l0 k1 l0 (x3_1.set (x4_1 : Int).toNat (⟨t181, t184, t185, t186, t189⟩ : S94)) (wrap64 (x4_1 + 1))) else (none)) = some r := H
  have A8 := am A80
  clear A80
  refine iM H ?_; clear H; intro c9b0 H
  obtain ⟨y190, hy190⟩ : ∃ y_ : List (S94), y_ = (x3_1.set (x4_1 : Int).toNat (⟨t181, t184, t185, t186, t189⟩ : S94)) := ⟨_, rfl⟩
  replace H : (laws_toAsmInsS.l0 k1 l0 y190 (wrap64 (x4_1 + 1))) = some r := by first | (rw [hy190]; with_reducible exact H) | (have H2_ := (Option.bind_some _ _).symm.trans H; rw [hy190]; with_reducible exact H2_) | (have H2_ := (Option.bind_some _ _).symm.trans H; with_reducible exact H2_) | with_reducible exact H | (rw [hy190]; exact H) | exact H
  have Ny190 := am hy190
  clear hy190
  have H' := am H
  clear H
  have p180 : 0 ≤ (x4_1 : Int) := of_decide_eq_true as1
  have q180 : x4_1 < (l0.length : Int) := of_decide_eq_true as1
  obtain ⟨ad180, A180_0, c180_0, A180_3, c180_3, e180, hx180_0, hx180_1, hx180_2, hx180_3, hx180_4, hl180_0, hi180_0, hl180_3, hi180_3⟩ := at_T100 HR0.out x4_1 p180 q180
  cases e180
  replace hx180_0 := cl HB hx180_0
  replace hx180_1 := cl HB hx180_1
  replace hx180_2 := cl HB hx180_2
  replace hx180_3 := cl HB hx180_3
  replace hx180_4 := cl HB hx180_4
  have HR180_0 := am hi180_0
  have HC180_0 := am hl180_0
  clear hi180_0 hl180_0
  have HR180_3 := am hi180_3
  have HC180_3 := am hl180_3
  clear hi180_3 hl180_3
  replace p180 := eq_true p180
  replace q180 := eq_true q180
  go_wp2_with (first | ((with_reducible refine gk 57 rfl ?_); refine gC 57 (some 20) Try.func57 #[.agg #[.slice A180_0 ((rd_T100 l0 x4_1).f0).length c180_0, .int .i64 ((rd_T100 l0 x4_1).f1), .int .i64 ((rd_T100 l0 x4_1).f2), .slice A180_3 ((rd_T100 l0 x4_1).f3).length c180_3, .int .i64 ((rd_T100 l0 x4_1).f4)]] ((laws_toAsmIns.calls k1 _ _ ((rd_T100 l0 x4_1).f0) ((rd_T100 l0 x4_1).f1) ((rd_T100 l0 x4_1).f2) _ _ ((rd_T100 l0 x4_1).f3) ((rd_T100 l0 x4_1).f4) t181 t184 t185 t186 t189 _ (cc (Kd.C_below HR180_0.out HB.out)) HC180_0.out (cc (Kd.C_below HR180_3.out HB.out)) HC180_3.out A8.out).mono ?_); rintro e w11 ⟨v182, v187, rfl, ho0, ho1, hb⟩; refine ⟨_, rfl, ?_⟩; replace HO_3 := am (Kd.S_mono (Kd.S_told (Kd.S_told (Kd.S_old (kS HO_3) hb) (Kd.R_base ho0)) (Kd.R_base ho1)) (fun _ h_ => h_.1)); have HO183 := am (Kd.R_lower ho0 (below_size (bw HB))); have HO188 := am (Kd.R_lower ho1 (below_size (bw HB))); replace HB := bs HB hb; clear hb; (try clear ho0); (try clear ho1); have p10 : 0 ≤ (x4_1 : Int) := of_decide_eq_true as1; have q10 : (x4_1 : Int) < ((x3_1.length : Int) : Int) := of_decide_eq_true as1; obtain ⟨go10, co10, eo10, gb10, gl10, cl10, HG10⟩ := Kd.S_form HO_3.out (by omega); (first | cases eo10 | (injection eo10 with ea_ en_ ec_; (first | subst ea_ | (injection ea_ with ea_; subst ea_)); subst ec_; clear en_)); have GB10 := am gb10; have GG10 := am HG10; clear gb10 gl10 HG10; obtain ⟨_, ce10, hcl10, hM10, hcc10, hfr10, _, _⟩ := Kd.S_elem HO_3.out z94 (x4_1 : Int) p10 q10; obtain ⟨ve10_0, ve10_3, rfl, ge10_0, ge10_3⟩ := k94_openM hM10; have hx10_0 : w11.cell? ⟨go10, (x4_1 : Int).toNat * 5, none⟩ = some (ve10_0) := hcc10 0 _ rfl; have hx10_1 : w11.cell? ⟨go10, (x4_1 : Int).toNat * 5 + 1, none⟩ = some (.int .i64 ((rd_T94 x3_1 x4_1).f1)) := hcc10 1 _ rfl; have hx10_2 : w11.cell? ⟨go10, (x4_1 : Int).toNat * 5 + 2, none⟩ = some (.int .i64 ((rd_T94 x3_1 x4_1).f2)) := hcc10 2 _ rfl; have hx10_3 : w11.cell? ⟨go10, (x4_1 : Int).toNat * 5 + 3, none⟩ = some (ve10_3) := hcc10 3 _ rfl; have hx10_4 : w11.cell? ⟨go10, (x4_1 : Int).toNat * 5 + 4, none⟩ = some (.int .i64 ((rd_T94 x3_1 x4_1).f4)) := hcc10 4 _ rfl; have hf10_0 : w11.frozen? ⟨go10, (x4_1 : Int).toNat * 5, none⟩ = false := hfr10 0; have hf10_1 : w11.frozen? ⟨go10, (x4_1 : Int).toNat * 5 + 1, none⟩ = false := hfr10 1; have hf10_2 : w11.frozen? ⟨go10, (x4_1 : Int).toNat * 5 + 2, none⟩ = false := hfr10 2; have hf10_3 : w11.frozen? ⟨go10, (x4_1 : Int).toNat * 5 + 3, none⟩ = false := hfr10 3; have hf10_4 : w11.frozen? ⟨go10, (x4_1 : Int).toNat * 5 + 4, none⟩ = false := hfr10 4; (try clear hM10); (try clear hfr10); (try clear hcc10); (try clear hcl10); replace p10 := eq_true p10; replace q10 := eq_true q10; obtain ⟨Ao14, co14, eo14⟩ := Kd.R_slice HO183.out; subst eo14; obtain ⟨Ao15, co15, eo15⟩ := Kd.R_slice HO188.out; subst eo15; have n_ := am (Kd.S_mono (ok' := (fun k_ => some k_ ≠ (.slice Ao14 t181.length co14 : Value).ownBlock ∧ some k_ ≠ (.slice Ao15 t186.length co15 : Value).ownBlock)) HO_3.out (fun k_ hk => ⟨hk.1.2, hk.2⟩)); clear HO_3; have HO_3 := n_; clear n_; have HX12 := am (show Kd.S k94 94 w11 w.heap.size (fun k_ => ((fun _ => True)) k_ ∧ ¬ ((fun k_ => some k_ = (.slice Ao14 t181.length co14 : Value).ownBlock ∨ some k_ = (.slice Ao15 t186.length co15 : Value).ownBlock)) k_) (.slice (some ⟨go10, 0, none⟩) x3_1.length co10) x3_1 from (by (with_reducible repeat (first | apply Kd.S_alloc | apply Kd.S_drewN | apply Kd.S_drew)); exact Kd.S_mono HO_3.out (fun k_ hk => ⟨trivial, fun e_ => e_.elim (fun h_ => hk.1 h_) (fun h_ => hk.2 h_)⟩))); obtain ⟨oki12, ce12, hcl12, hM12, hcc12, hfr12, hoki12, hH12⟩ := Kd.S_elem HX12.out z94 (x4_1 : Int) (of_decide_eq_true as1) (by have h_ : (x4_1 : Int) < ((x3_1.length : Int) : Int) := of_decide_eq_true as1; first | exact h_ | (have e_ := (Kd.S_reads' HO_3.out).1; omega) | simpa using h_); obtain ⟨ve12_0, ve12_3, rfl, ge12_0, ge12_3⟩ := k94_openM hM12; have HP12 := Kd.S_seg hH12 (of_decide_eq_true as1) (by have h_ : (x4_1 : Int) < ((x3_1.length : Int) : Int) := of_decide_eq_true as1; first | exact h_ | (have e_ := (Kd.S_reads' HO_3.out).1; omega) | simpa using h_) (seg := [.slice Ao14 t181.length co14, .int .i64 t184, .int .i64 t185, .slice Ao15 t186.length co15, .int .i64 t189]) (j := 0) (show 5 ≤ 5 from by decide) (x' := (⟨t181, t184, t185, t186, t189⟩ : S94)) (k94_mkM _ _ _ (⟨t181, t184, t185, t186, t189⟩ : S94) (Kd.R_mono (Kd.R_tight rfl (Kd.R_mono (ok' := fun k_ => ((fun _ => True)) k_ ∧ k_ ≠ go10) (Kd.R_apart' (HO183.out) (Kd.S_typed HO_3.out) (by decide)) (fun k_ hk => ⟨trivial, fun e_ => (hk.2) (by rw [e_]; rfl)⟩))) (fun _ h_ => Or.inr (Or.inl h_))) (Kd.R_mono (Kd.R_tight rfl (Kd.R_mono (ok' := fun k_ => ((fun _ => True)) k_ ∧ k_ ≠ go10) (Kd.R_apart' (HO188.out) (Kd.S_typed HO_3.out) (by decide)) (fun k_ hk => ⟨trivial, fun e_ => (hk.2) (by rw [e_]; rfl)⟩))) (fun _ h_ => Or.inr (Or.inr (h_))))) (fun _ hk => hk) (fun k_ hk_ => hk_.elim (fun h_ => ((Kd.R_mono (ok' := fun k_ => ((fun _ => True)) k_ ∧ k_ ≠ go10) (Kd.R_apart' (HO183.out) (Kd.S_typed HO_3.out) (by decide)) (fun k_ hk => ⟨trivial, fun e_ => (hk.2) (by rw [e_]; rfl)⟩))).1 k_ h_.symm) (fun h_ => ((Kd.R_mono (ok' := fun k_ => ((fun _ => True)) k_ ∧ k_ ≠ go10) (Kd.R_apart' (HO188.out) (Kd.S_typed HO_3.out) (by decide)) (fun k_ hk => ⟨trivial, fun e_ => (hk.2) (by rw [e_]; rfl)⟩))).1 k_ h_.symm)); have hx12_0 := hcc12 0 _ rfl; (try simp only [show (k94).sz = 5 from rfl, Nat.mul_one, Nat.add_zero] at hx12_0); have hf12_0 := hfr12 0; (try simp only [show (k94).sz = 5 from rfl, Nat.mul_one, Nat.add_zero] at hf12_0); have hx12_1 := hcc12 1 _ rfl; (try simp only [show (k94).sz = 5 from rfl, Nat.mul_one, Nat.add_zero] at hx12_1); have hf12_1 := hfr12 1; (try simp only [show (k94).sz = 5 from rfl, Nat.mul_one, Nat.add_zero] at hf12_1); have hx12_2 := hcc12 2 _ rfl; (try simp only [show (k94).sz = 5 from rfl, Nat.mul_one, Nat.add_zero] at hx12_2); have hf12_2 := hfr12 2; (try simp only [show (k94).sz = 5 from rfl, Nat.mul_one, Nat.add_zero] at hf12_2); have hx12_3 := hcc12 3 _ rfl; (try simp only [show (k94).sz = 5 from rfl, Nat.mul_one, Nat.add_zero] at hx12_3); have hf12_3 := hfr12 3; (try simp only [show (k94).sz = 5 from rfl, Nat.mul_one, Nat.add_zero] at hf12_3); have hx12_4 := hcc12 4 _ rfl; (try simp only [show (k94).sz = 5 from rfl, Nat.mul_one, Nat.add_zero] at hx12_4); have hf12_4 := hfr12 4; (try simp only [show (k94).sz = 5 from rfl, Nat.mul_one, Nat.add_zero] at hf12_4); (try clear hH12); (try clear hoki12); (try clear hM12); (try clear hfr12); (try clear hcc12); (try clear hcl12)) | ((with_reducible refine gt 94 21 rfl ?_); refine sE 94 21 (((((w11.setCell ⟨go10, (x4_1 : Int).toNat * 5, none⟩ (.slice Ao14 t181.length co14)).setCell ⟨go10, (x4_1 : Int).toNat * 5 + 1, none⟩ (.int .i64 t184)).setCell ⟨go10, (x4_1 : Int).toNat * 5 + 2, none⟩ (.int .i64 t185)).setCell ⟨go10, (x4_1 : Int).toNat * 5 + 3, none⟩ (.slice Ao15 t186.length co15)).setCell ⟨go10, (x4_1 : Int).toNat * 5 + 4, none⟩ (.int .i64 t189)) ?_; intro w13 hw; have hg : w11.grownBy w13 (some go10) := (by rw [hw]; exact HP12.2); have hp_ : Kd.S k94 94 w13 w.heap.size (fun _ => True) (.slice (some ⟨go10, 0, none⟩) x3_1.length co10) y190 := (by rw [hw, Ny190.out]; exact HP12.1); clear HP12; replace HO_3 := am (hp_); replace HB := am ((by rw [hw]; exact below_set (below_set (below_set (below_set (below_set (HB.out) GB10.out) GB10.out) GB10.out) GB10.out) GB10.out : Below w.heap.size w w13)); clear HO183; clear HO188; clear hg hw hp_))
  go_roundg k1
  case measure => have := HK1.out; omega
  case rel => exact ⟨(y190), (wrap64 (x4_1 + 1)), dr, H', ⟨by have := HK1.out; omega⟩, ⟨kS HO_3⟩, ⟨bw HB⟩⟩
 obtain rfl := Option.some.inj H
 go_wp2
 go_ret
 exact ⟨_, er, kS HO_3, bw HB⟩

def laws_toValSS.l0 : Nat → List (List (S113)) → List (List (S107)) → Int → Option ((List (List (S107))))
 | 0, _, _, _ => none
 | k + 1, x0, x3, x4 => if x4 < (x0.length : Int) then (if 0 ≤ x4 then ((laws_toValS.f k (rd_L4 x0 x4)).bind fun t195 => (if x4 < (x3.length : Int) then (laws_toValSS.l0 k x0 (x3.set (x4 : Int).toNat t195) (wrap64 (x4 + 1))) else (none))) else (none)) else (some x3)
def laws_toValSS.f (k : Nat) (l0 : List (List (S113))) : Option ((List (List (S107)))) := if 0 ≤ (l0.length : Int) then (if ((l0.length : Int) : Int).toNat ≤ 11728124029610 then (laws_toValSS.l0 k l0 (List.replicate ((l0.length : Int) : Int).toNat []) 0) else (none)) else (none)
theorem laws_toValSS.mono_l : ∀ k, (∀ y0 y1 y2, LeO (laws_toValSS.l0 k y0 y1 y2) (laws_toValSS.l0 (k + 1) y0 y1 y2))
 | 0 => fun _ _ _ r h => by simp [laws_toValSS.l0] at h
 | k + 1 => by
  have ih0 := laws_toValSS.mono_l k
  ·intro y0 y1 y2
   unfold laws_toValSS.l0
   with_reducible repeat' first | exact ih0 .. | exact laws_toValS.mono .. | exact LeO.refl _ | exact LeO.none _ | refine LeO.ite ?_ ?_ | refine LeO.bind ?_ (fun _ => ?_)
theorem laws_toValSS.mono : ∀ a0 k, LeO (laws_toValSS.f k a0) (laws_toValSS.f (k + 1) a0) := by
 intro a0 k
 have ih0 := laws_toValSS.mono_l k
 unfold laws_toValSS.f
 with_reducible repeat' first | exact ih0 .. | exact laws_toValS.mono .. | exact LeO.refl _ | exact LeO.none _ | refine LeO.ite ?_ ?_ | refine LeO.bind ?_ (fun _ => ?_)
theorem laws_toValSS.calls (k : Nat) (A0 : Option Addr) (c0 : Nat) (l0 : List (List (S113))) (r : List (List (S107))) (w : World) (hr0 : Kd.C (Kd.slice 113 k113) w A0 l0.length l0) (hc0 : l0.length ≤ c0) (h : laws_toValSS.f k l0 = some r) :
  Calls Try.prog 50 #[.slice A0 l0.length c0] w fun e w' => ∃ v0_ : Value, e = .returned (v0_) ∧ Kd.S (Kd.slice 107 k107) 92 w' w.heap.size (fun _ => True) v0_ r ∧ Below w.heap.size w w' := by
 have HR0 := am hr0
 have HC0 := am hc0
 clear hr0 hc0
 have HB := am (Below.refl w.heap.size w)
 have H : (if 0 ≤ (l0.length : Int) then (if ((l0.length : Int) : Int).toNat ≤ 11728124029610 then (laws_toValSS.l0 k l0 (List.replicate ((l0.length : Int) : Int).toNat []) 0) else (none)) else (none)) = some r := h
 clear h
 refine iN H ?_; clear H; intro c2 H
 have c2b0 := eq_true c2
 have c2b1 := decide_eq_true c2
 clear c2
 refine iN H ?_; clear H; intro c3 H
 have c3b0 := eq_true c3
 have c3b1 := decide_eq_true c3
 clear c3
 obtain ⟨y191, hy191⟩ : ∃ y_ : List (List (S107)), y_ = (List.replicate ((l0.length : Int) : Int).toNat []) := ⟨_, rfl⟩
 replace H : (laws_toValSS.l0 k l0 y191 0) = some r := by first | (rw [hy191]; with_reducible exact H) | (have H2_ := (Option.bind_some _ _).symm.trans H; rw [hy191]; with_reducible exact H2_) | (have H2_ := (Option.bind_some _ _).symm.trans H; with_reducible exact H2_) | with_reducible exact H | (rw [hy191]; exact H) | exact H
 have Ny191 := am hy191
 clear hy191
 have H' := am H
 clear H
 go_enter Try.func50, Try.ntmps50
 go_wp2_with (first | ((with_reducible refine gate_dst (N := 7) rfl ?_); refine Kd.S_make (Kd.slice 107 k107) _ 92 rfl (N := 7) rfl 71 _ _ rfl (l0.length : Int) rfl rfl Try.underlying71 (.slice none 0 0) 24 info92 rfl (by decide) (by omega) [] (ok := fun _ => True) (okp := fun _ => True) ⟨_, rfl, Kd.R_nil _ _ _ _ _⟩ (fun _ hk => hk) trivial (of_decide_eq_true as1) (Nat.le_trans (Nat.mul_le_mul_right _ (of_decide_eq_true as1 : (l0.length : Int).toNat ≤ 11728124029610)) (by omega)) (Below.refl _ _) (Nat.le_refl _) ?_; intro v192 w4 ho5 hb hg_ hnew_; clear hg_ hnew_; (first | rw [← Ny191.out] at ho5 | (simp only [Int.reduceToNat] at ho5; rw [← Ny191.out] at ho5)); have HO193 := am (Kd.S_lower ho5 (below_size (bw HB))); replace HB := bs HB hb; clear hb ho5))
 go_loopg [4] k (fun kq v4 w' => ∃ (x3_1 : List (List (S107))) (x4_1 : Int), v4 = .int .i64 x4_1 ∧ Aside0 (laws_toValSS.l0 kq l0 x3_1 x4_1 = some r) ∧ Aside0 (kq ≤ k) ∧ Aside0 (Kd.S (Kd.slice 107 k107) 92 w' w.heap.size (fun _ => True) v192 x3_1) ∧ Aside0 (Below w.heap.size w w'))
 case atStart => exact ⟨(y191), (0), dr, H', ⟨Nat.le_refl _⟩, ⟨kS HO193⟩, ⟨bw HB⟩⟩
 clear H'
 (try clear c2); (try clear c2b0); (try clear c2b1); (try clear p2); (try clear c3); (try clear c3b0); (try clear c3b1); (try clear c5)
 obtain ⟨x3_1, x4_1, rfl, HA, HK1, HO_3, HB⟩ := hrel
 rcases gk with _ | k1
 ·exact absurd HA.out (by simp [laws_toValSS.l0])
 have H := HA.out
 clear HA
 simp only [laws_toValSS.l0] at H
 refine qI H ?_ ?_ <;> clear H <;> intro c6b0 H
 ·refine iM H ?_; clear H; intro c7b0 H
  refine be H ?_; clear H; intro t195 A8 H
  refine iM H ?_; clear H; intro c9b0 H
  obtain ⟨y198, hy198⟩ : ∃ y_ : List (List (S107)), y_ = (x3_1.set (x4_1 : Int).toNat t195) := ⟨_, rfl⟩
  replace H : (laws_toValSS.l0 k1 l0 y198 (wrap64 (x4_1 + 1))) = some r := by first | (rw [hy198]; with_reducible exact H) | (have H2_ := (Option.bind_some _ _).symm.trans H; rw [hy198]; with_reducible exact H2_) | (have H2_ := (Option.bind_some _ _).symm.trans H; with_reducible exact H2_) | with_reducible exact H | (rw [hy198]; exact H) | exact H
  have Ny198 := am hy198
  clear hy198
  have H' := am H
  clear H
  have p194 : 0 ≤ (x4_1 : Int) := of_decide_eq_true as1
  have q194 : x4_1 < (l0.length : Int) := of_decide_eq_true as1
  obtain ⟨ad194, A194_0, c194_0, e194, hx194_0, hl194_0, hi194_0⟩ := at_L4 HR0.out x4_1 p194 q194
  cases e194
  replace hx194_0 := cl HB hx194_0
  have HR194_0 := am hi194_0
  have HC194_0 := am hl194_0
  clear hi194_0 hl194_0
  replace p194 := eq_true p194
  replace q194 := eq_true q194
  go_wp2_with (first | ((with_reducible refine gk 58 rfl ?_); refine gC 58 (some 20) Try.func58 #[.slice A194_0 (rd_L4 l0 x4_1).length c194_0] ((laws_toValS.calls k1 _ _ (rd_L4 l0 x4_1) t195 _ (cc (Kd.C_below HR194_0.out HB.out)) HC194_0.out A8.out).mono ?_); rintro e w11 ⟨v196, rfl, ho0, hb⟩; refine ⟨_, rfl, ?_⟩; replace HO_3 := am (Kd.S_elder' (kS HO_3) (Kd.R_base ho0) hb); have HO197 := am (Kd.R_lower ho0 (below_size (bw HB))); replace HB := bs HB hb; clear hb; (try clear ho0); have p10 : 0 ≤ (x4_1 : Int) := of_decide_eq_true as1; have q10 : (x4_1 : Int) < ((x3_1.length : Int) : Int) := of_decide_eq_true as1; obtain ⟨go10, co10, eo10, gb10, gl10, cl10, HG10⟩ := Kd.S_form HO_3.out (by omega); (first | cases eo10 | (injection eo10 with ea_ en_ ec_; (first | subst ea_ | (injection ea_ with ea_; subst ea_)); subst ec_; clear en_)); have GB10 := am gb10; have GG10 := am HG10; clear gb10 gl10 HG10; obtain ⟨_, ce10, hcl10, hM10, hcc10, hfr10, _, _⟩ := Kd.S_elem HO_3.out [] (x4_1 : Int) p10 q10; obtain ⟨ve10_0, rfl, ge10_0⟩ := hM10; have hx10_0 := hcc10 0 _ rfl; have hf10_0 := hfr10 0; (try simp only [show ((Kd.slice 107 k107)).sz = 1 from rfl, Nat.mul_one, Nat.add_zero] at hx10_0); (try simp only [show ((Kd.slice 107 k107)).sz = 1 from rfl, Nat.mul_one, Nat.add_zero] at hf10_0); (try clear hM10); (try clear hfr10); (try clear hcc10); (try clear hcl10); replace p10 := eq_true p10; replace q10 := eq_true q10; obtain ⟨Ao14, co14, eo14⟩ := Kd.R_slice HO197.out; subst eo14; have n_ := am (Kd.S_mono (ok' := (fun k_ => some k_ ≠ (.slice Ao14 t195.length co14 : Value).ownBlock)) HO_3.out (fun k_ hk => hk.2)); clear HO_3; have HO_3 := n_; clear n_; have HX12 := am (show Kd.S (Kd.slice 107 k107) 92 w11 w.heap.size (fun k_ => ((fun _ => True)) k_ ∧ ¬ ((fun k_ => some k_ = (.slice Ao14 t195.length co14 : Value).ownBlock)) k_) (.slice (some ⟨go10, 0, none⟩) x3_1.length co10) x3_1 from (by (with_reducible repeat (first | apply Kd.S_alloc | apply Kd.S_drewN | apply Kd.S_drew)); exact Kd.S_mono HO_3.out (fun k_ hk => ⟨trivial, fun e_ => hk e_⟩))); obtain ⟨oki12, ce12, hcl12, hM12, hcc12, hfr12, hoki12, hH12⟩ := Kd.S_elem HX12.out [] (x4_1 : Int) (of_decide_eq_true as1) (by have h_ : (x4_1 : Int) < ((x3_1.length : Int) : Int) := of_decide_eq_true as1; first | exact h_ | (have e_ := (Kd.S_reads' HO_3.out).1; omega) | simpa using h_); obtain ⟨ve12_0, rfl, ge12_0⟩ := hM12; have HP12 := Kd.S_seg hH12 (of_decide_eq_true as1) (by have h_ : (x4_1 : Int) < ((x3_1.length : Int) : Int) := of_decide_eq_true as1; first | exact h_ | (have e_ := (Kd.S_reads' HO_3.out).1; omega) | simpa using h_) (seg := [.slice Ao14 t195.length co14]) (j := 0) (show 1 ≤ 1 from by decide) (x' := t195) (Kd.M_row (Kd.R_mono (Kd.R_tight rfl (Kd.R_mono (ok' := fun k_ => ((fun _ => True)) k_ ∧ k_ ≠ go10) (Kd.R_apart' (HO197.out) (Kd.S_typed HO_3.out) (by decide)) (fun k_ hk => ⟨trivial, fun e_ => (hk.2) (by rw [e_]; rfl)⟩))) (fun _ h_ => Or.inr (h_)))) (fun _ hk => hk) (fun k_ hk_ => ((Kd.R_mono (ok' := fun k_ => ((fun _ => True)) k_ ∧ k_ ≠ go10) (Kd.R_apart' (HO197.out) (Kd.S_typed HO_3.out) (by decide)) (fun k_ hk => ⟨trivial, fun e_ => (hk.2) (by rw [e_]; rfl)⟩))).1 k_ hk_.symm); have hx12_0 := hcc12 0 _ rfl; (try simp only [show ((Kd.slice 107 k107)).sz = 1 from rfl, Nat.mul_one, Nat.add_zero] at hx12_0); have hf12_0 := hfr12 0; (try simp only [show ((Kd.slice 107 k107)).sz = 1 from rfl, Nat.mul_one, Nat.add_zero] at hf12_0); (try clear hH12); (try clear hoki12); (try clear hM12); (try clear hfr12); (try clear hcc12); (try clear hcl12); (try simp only [show ((Kd.slice 107 k107)).sz = 1 from rfl, Nat.mul_one, Nat.add_zero] at HP12)) | ((with_reducible refine gt 92 21 rfl ?_); refine sE 92 21 (w11.setCell ⟨go10, (x4_1 : Int).toNat, none⟩ (.slice Ao14 t195.length co14)) ?_; intro w13 hw; have hg : w11.grownBy w13 (some go10) := (by rw [hw]; exact HP12.2); have hp_ : Kd.S (Kd.slice 107 k107) 92 w13 w.heap.size (fun _ => True) (.slice (some ⟨go10, 0, none⟩) x3_1.length co10) y198 := (by rw [hw, Ny198.out]; exact HP12.1); clear HP12; replace HO_3 := am (hp_); replace HB := am ((by rw [hw]; exact below_set (HB.out) GB10.out : Below w.heap.size w w13)); clear HO197; clear hg hw hp_))
  go_roundg k1
  case measure => have := HK1.out; omega
  case rel => exact ⟨(y198), (wrap64 (x4_1 + 1)), dr, H', ⟨by have := HK1.out; omega⟩, ⟨kS HO_3⟩, ⟨bw HB⟩⟩
 obtain rfl := Option.some.inj H
 go_wp2
 go_ret
 exact ⟨_, er, kS HO_3, bw HB⟩

def laws_toAsm.f (k : Nat) (a0_0 : Int) (l0_1 : List (S100)) (l0_2 : List (List (S113))) : Option (Int × (List (S94)) × (List (List (S107)))) := (laws_toAsmInsS.f k l0_1).bind fun t202 => ((laws_toValSS.f k l0_2).bind fun t205 => (some (a0_0, t202, t205)))
theorem laws_toAsm.mono : ∀ a0 a1 a2 k, LeO (laws_toAsm.f k a0 a1 a2) (laws_toAsm.f (k + 1) a0 a1 a2) := by
 intro a0 a1 a2 k
 unfold laws_toAsm.f
 with_reducible repeat' first | exact laws_toAsmInsS.mono .. | exact laws_toValSS.mono .. | exact LeO.refl _ | exact LeO.none _ | refine LeO.ite ?_ ?_ | refine LeO.bind ?_ (fun _ => ?_)
theorem laws_toAsm.calls (k : Nat) (a0_0 : Int) (A0_1 : Option Addr) (c0_1 : Nat) (l0_1 : List (S100)) (A0_2 : Option Addr) (c0_2 : Nat) (l0_2 : List (List (S113))) (r1 : Int) (r2 : List (S94)) (r3 : List (List (S107))) (w : World) (hr0_1 : Kd.C k100 w A0_1 l0_1.length l0_1) (hc0_1 : l0_1.length ≤ c0_1) (hr0_2 : Kd.C (Kd.slice 113 k113) w A0_2 l0_2.length l0_2) (hc0_2 : l0_2.length ≤ c0_2) (h : laws_toAsm.f k a0_0 l0_1 l0_2 = some (r1, r2, r3)) :
  Calls Try.prog 38 #[.agg #[.int .i64 a0_0, .slice A0_1 l0_1.length c0_1, .slice A0_2 l0_2.length c0_2]] w fun e w' => ∃ v1_ v2_ : Value, e = .returned (.agg #[.int .i64 r1, v1_, v2_]) ∧ Kd.S k94 94 w' w.heap.size (fun _ => True) v1_ r2 ∧ Kd.S (Kd.slice 107 k107) 92 w' w.heap.size (fun _ => True) v2_ r3 ∧ Below w.heap.size w w' := by
 have hu66 := Try.underlying66
 have hu73 := Try.underlying73
 have HR0_1 := am hr0_1
 have HC0_1 := am hc0_1
 clear hr0_1 hc0_1
 have HR0_2 := am hr0_2
 have HC0_2 := am hc0_2
 clear hr0_2 hc0_2
 have HB := am (Below.refl w.heap.size w)
 have H : ((laws_toAsmInsS.f k l0_1).bind fun t202 => ((laws_toValSS.f k l0_2).bind fun t205 => (some (a0_0, t202, t205)))) = some (r1, r2, r3) := h
 clear h
 refine be H ?_; clear H; intro t202 A2 H
 refine be H ?_; clear H; intro t205 A3 H
 simp only [Option.some.injEq, Prod.mk.injEq] at H
 obtain ⟨rfl, rfl, rfl⟩ := H
 go_enter Try.func38, Try.ntmps38
 go_wp2_with (first | ((with_reducible refine gd 1 rfl ?_); refine bX 1 #[.int .i64 a0_0, .slice A0_1 l0_1.length c0_1, .slice A0_2 l0_2.length c0_2] 66 HB ?_; clear HB; intro gb199 w4 hg hb BK199 GW199 HB; clear hb hg) | ((with_reducible refine gd 2 rfl ?_); refine bX 2 #[.int .i64 0, .slice none 0 0, .slice none 0 0] 73 HB ?_; clear HB; intro gb200 w5 hg hb BK200 GW200 HB; obtain ⟨NB199_200, NB200_199, BK199⟩ := b3 hg BK199 hb; clear hb hg) | ((with_reducible refine gd 3 rfl ?_); refine bX 3 #[.int .i64 0, .slice none 0 0, .slice none 0 0] 73 HB ?_; clear HB; intro gb201 w6 hg hb BK201 GW201 HB; obtain ⟨NB199_201, NB201_199, BK199⟩ := b3 hg BK199 hb; obtain ⟨NB200_201, NB201_200, BK200⟩ := b3 hg BK200 hb; clear hb hg; have hnb7 := NB199_200.out; have hnc7 := NB200_199.out; have hnb8 := NB199_201.out; have hnc8 := NB201_199.out; have hcz9 := bK w6 BK199; have hfz9 := bF BK199; have hnb10 := NB201_200.out; have hnc10 := NB200_201.out; have hcz11 := bK w6 BK201; have hfz11 := bF BK201) | ((with_reducible refine gk 49 rfl ?_); refine gC 49 (some 9) Try.func49 #[.slice A0_1 l0_1.length c0_1] ((laws_toAsmInsS.calls k _ _ l0_1 t202 _ (Kd.C_below HR0_1.out (bw HB)) HC0_1.out A2.out).mono ?_); rintro e w12 ⟨v203, rfl, ho0, hb⟩; refine ⟨_, rfl, ?_⟩; have HO204 := am (Kd.S_lower ho0 (below_size (bw HB))); replace BK199 := bb2 BK199 hb; replace BK200 := bb2 BK200 hb; replace BK201 := bo #[.int .i64 a0_0, .slice none 0 0, .slice none 0 0] BK201 hb; replace HB := bs HB hb; clear hb; (try clear ho0); obtain ⟨Ao13, co13, eo13⟩ := Kd.S_slice HO204.out; subst eo13; have hcz14 := bK w12 BK201; have hfz14 := bF BK201; have hcz15 := bK w12 BK199; have hfz15 := bF BK199) | ((with_reducible refine gk 50 rfl ?_); refine gC 50 (some 13) Try.func50 #[.slice A0_2 l0_2.length c0_2] ((laws_toValSS.calls k _ _ l0_2 t205 _ (Kd.C_below HR0_2.out (bw HB)) HC0_2.out A3.out).mono ?_); rintro e w16 ⟨v206, rfl, ho0, hb⟩; refine ⟨_, rfl, ?_⟩; replace HO204 := am (Kd.S_below (by (with_reducible repeat (first | apply Kd.S_alloc | apply Kd.S_drewN | apply Kd.S_drew)); exact (Kd.S_mono (Kd.S_far (p := ⟨gb201, 1, none⟩) (Kd.S_types HO204.out BK201.out (by decide)) (fun _ hk => hk.2) (.slice Ao13 t202.length co13)) (fun _ h_ => h_.1))) hb); have HO207 := am (Kd.S_lower ho0 (below_size (bw HB))); replace BK199 := bb2 BK199 hb; replace BK200 := bb2 BK200 hb; replace BK201 := bo #[.int .i64 a0_0, .slice Ao13 t202.length co13, .slice none 0 0] BK201 hb; replace HB := bs HB hb; clear hb; (try clear ho0); obtain ⟨Ao17, co17, eo17⟩ := Kd.S_slice HO207.out; subst eo17; have hcz18 := bK w16 BK201; have hfz18 := bF BK201; have hcz19 := bK w16 BK200; have hfz19 := bF BK200))
 refine bodyPost_ret (results_cell_row rfl _ _ gb200 73 #[.int .i64 a0_0, .slice Ao13 t202.length co13, .slice Ao17 t205.length co17] (0, 0) _ rfl (bt BK200) Try.underlying73 rfl (by kernel_rfl)) rfl ?_
 exact ⟨_, _, er, by (with_reducible repeat (first | apply Kd.S_alloc | apply Kd.S_drewN | apply Kd.S_drew)); exact Kd.S_mono (Kd.S_far (p := ⟨gb200, 2, none⟩) (Kd.S_far (p := ⟨gb200, 1, none⟩) (Kd.S_far (p := ⟨gb200, 0, none⟩) (Kd.S_far (p := ⟨gb201, 2, none⟩) (Kd.S_types (Kd.S_types HO204.out BK201.out (by decide)) BK200.out (by decide)) (fun _ hk => hk.1.2) (.slice Ao17 t205.length co17)) (fun _ hk => hk.2) (.int .i64 a0_0)) (fun _ hk => hk.2) (.slice Ao13 t202.length co13)) (fun _ hk => hk.2) (.slice Ao17 t205.length co17)) (fun _ hk => trivial), by (with_reducible repeat (first | apply Kd.S_alloc | apply Kd.S_drewN | apply Kd.S_drew)); exact Kd.S_mono (Kd.S_far (p := ⟨gb200, 2, none⟩) (Kd.S_far (p := ⟨gb200, 1, none⟩) (Kd.S_far (p := ⟨gb200, 0, none⟩) (Kd.S_far (p := ⟨gb201, 2, none⟩) (Kd.S_types (Kd.S_types HO207.out BK201.out (by decide)) BK200.out (by decide)) (fun _ hk => hk.1.2) (.slice Ao17 t205.length co17)) (fun _ hk => hk.2) (.int .i64 a0_0)) (fun _ hk => hk.2) (.slice Ao13 t202.length co13)) (fun _ hk => hk.2) (.slice Ao17 t205.length co17)) (fun _ hk => trivial), bw HB⟩

def laws_toAsmS.l0 : Nat → List (S66) → List (S73) → Int → Option ((List (S73)))
 | 0, _, _, _ => none
 | k + 1, x0, x3, x4 => if x4 < (x0.length : Int) then (if 0 ≤ x4 then ((laws_toAsm.f k ((rd_T66 x0 x4).f0) ((rd_T66 x0 x4).f1) ((rd_T66 x0 x4).f2)).bind fun bt212 => (if x4 < (x3.length : Int) then (laws_toAsmS.l0 k x0 (x3.set (x4 : Int).toNat (⟨bt212.1, bt212.2.1, bt212.2.2⟩ : S73)) (wrap64 (x4 + 1))) else (none))) else (none)) else (some x3)
def laws_toAsmS.f (k : Nat) (l0 : List (S66)) : Option ((List (S73))) := if 0 ≤ (l0.length : Int) then (if ((l0.length : Int) : Int).toNat ≤ 5026338869833 then (laws_toAsmS.l0 k l0 (List.replicate ((l0.length : Int) : Int).toNat z73) 0) else (none)) else (none)
theorem laws_toAsmS.mono_l : ∀ k, (∀ y0 y1 y2, LeO (laws_toAsmS.l0 k y0 y1 y2) (laws_toAsmS.l0 (k + 1) y0 y1 y2))
 | 0 => fun _ _ _ r h => by simp [laws_toAsmS.l0] at h
 | k + 1 => by
  have ih0 := laws_toAsmS.mono_l k
  ·intro y0 y1 y2
   unfold laws_toAsmS.l0
   with_reducible repeat' first | exact ih0 .. | exact laws_toAsm.mono .. | exact LeO.refl _ | exact LeO.none _ | refine LeO.ite ?_ ?_ | refine LeO.bind ?_ (fun _ => ?_)
theorem laws_toAsmS.mono : ∀ a0 k, LeO (laws_toAsmS.f k a0) (laws_toAsmS.f (k + 1) a0) := by
 intro a0 k
 have ih0 := laws_toAsmS.mono_l k
 unfold laws_toAsmS.f
 with_reducible repeat' first | exact ih0 .. | exact laws_toAsm.mono .. | exact LeO.refl _ | exact LeO.none _ | refine LeO.ite ?_ ?_ | refine LeO.bind ?_ (fun _ => ?_)
theorem laws_toAsmS.calls (k : Nat) (A0 : Option Addr) (c0 : Nat) (l0 : List (S66)) (r : List (S73)) (w : World) (hr0 : Kd.C k66 w A0 l0.length l0) (hc0 : l0.length ≤ c0) (h : laws_toAsmS.f k l0 = some r) :
  Calls Try.prog 18 #[.slice A0 l0.length c0] w fun e w' => ∃ v0_ : Value, e = .returned (v0_) ∧ Kd.R k73 73 w' w.heap.size (fun _ => True) v0_ r ∧ Below w.heap.size w w' := by
 have hu66 := Try.underlying66
 have hu73 := Try.underlying73
 have HR0 := am hr0
 have HC0 := am hc0
 clear hr0 hc0
 have HB := am (Below.refl w.heap.size w)
 have H : (if 0 ≤ (l0.length : Int) then (if ((l0.length : Int) : Int).toNat ≤ 5026338869833 then (laws_toAsmS.l0 k l0 (List.replicate ((l0.length : Int) : Int).toNat z73) 0) else (none)) else (none)) = some r := h
 clear h
 refine iN H ?_; clear H; intro c2 H
 have c2b0 := eq_true c2
 have c2b1 := decide_eq_true c2
 clear c2
 refine iN H ?_; clear H; intro c3 H
 have c3b0 := eq_true c3
 have c3b1 := decide_eq_true c3
 clear c3
 obtain ⟨y208, hy208⟩ : ∃ y_ : List (S73), y_ = (List.replicate ((l0.length : Int) : Int).toNat z73) := ⟨_, rfl⟩
 replace H : (laws_toAsmS.l0 k l0 y208 0) = some r := by first | (rw [hy208]; with_reducible exact H) | (have H2_ := (Option.bind_some _ _).symm.trans H; rw [hy208]; with_reducible exact H2_) | (have H2_ := (Option.bind_some _ _).symm.trans H; with_reducible exact H2_) | with_reducible exact H | (rw [hy208]; exact H) | exact H
 have Ny208 := am hy208
 clear hy208
 have H' := am H
 clear H
 go_enter Try.func18, Try.ntmps18
 go_wp2_with (first | ((with_reducible refine gate_dst (N := 7) rfl ?_); refine Kd.R_make k73 _ 73 rfl (N := 7) rfl 33 _ _ rfl (l0.length : Int) rfl rfl Try.underlying33 (.agg #[(.int .i64 0), (.slice none 0 0), (.slice none 0 0)]) 56 info73 rfl (by decide) (by omega) z73 (ok := fun _ => True) (okp := fun _ => True) (k73_mkM _ _ _ z73 (Kd.R_nil _ _ _ _ _) (Kd.R_nil _ _ _ _ _)) (fun _ hk => hk) trivial (of_decide_eq_true as1) (Nat.le_trans (Nat.mul_le_mul_right _ (of_decide_eq_true as1 : (l0.length : Int).toNat ≤ 5026338869833)) (by omega)) (Below.refl _ _) (Nat.le_refl _) ?_; intro v209 w4 ho5 hb hg_ hnew_; clear hg_ hnew_; (first | rw [← Ny208.out] at ho5 | (simp only [Int.reduceToNat] at ho5; rw [← Ny208.out] at ho5)); have HO210 := am (Kd.R_lower ho5 (below_size (bw HB))); replace HB := bs HB hb; clear hb ho5))
 go_loopg [4] k (fun kq v4 w' => ∃ (x3_1 : List (S73)) (x4_1 : Int), v4 = .int .i64 x4_1 ∧ Aside0 (laws_toAsmS.l0 kq l0 x3_1 x4_1 = some r) ∧ Aside0 (kq ≤ k) ∧ Aside0 (Kd.R k73 73 w' w.heap.size (fun _ => True) v209 x3_1) ∧ Aside0 (Below w.heap.size w w'))
 case atStart => exact ⟨(y208), (0), dr, H', ⟨Nat.le_refl _⟩, ⟨kR HO210⟩, ⟨bw HB⟩⟩
 clear H'
 (try clear c1); (try clear c2); (try clear c2b0); (try clear c2b1); (try clear p2); (try clear c3); (try clear c3b0); (try clear c3b1)
 obtain ⟨x3_1, x4_1, rfl, HA, HK1, HO_3, HB⟩ := hrel
 rcases gk with _ | k1
 ·exact absurd HA.out (by simp [laws_toAsmS.l0])
 have H := HA.out
 clear HA
 simp only [laws_toAsmS.l0] at H
 refine qI H ?_ ?_ <;> clear H <;> intro c6b0 H
 ·refine iM H ?_; clear H; intro c7b0 H
  replace H := Option.bind_eq_some_iff.mp H
  obtain ⟨⟨t212, t213, t216⟩, A80, H⟩ := H
  replace H : (if x4_1 < (x3_1.length : Int) then (laws_toAsmS.l0 k1 l0 (x3_1.set (x4_1 : Int).toNat (⟨t212, t213, t216⟩ : S73)) (wrap64 (x4_1 + 1))) else (none)) = some r := H
  have A8 := am A80
  clear A80
  refine iM H ?_; clear H; intro c9b0 H
  obtain ⟨y219, hy219⟩ : ∃ y_ : List (S73), y_ = (x3_1.set (x4_1 : Int).toNat (⟨t212, t213, t216⟩ : S73)) := ⟨_, rfl⟩
  replace H : (laws_toAsmS.l0 k1 l0 y219 (wrap64 (x4_1 + 1))) = some r := by first | (rw [hy219]; with_reducible exact H) | (have H2_ := (Option.bind_some _ _).symm.trans H; rw [hy219]; with_reducible exact H2_) | (have H2_ := (Option.bind_some _ _).symm.trans H; with_reducible exact H2_) | with_reducible exact H | (rw [hy219]; exact H) | exact H
  have Ny219 := am hy219
  clear hy219
  have H' := am H
  clear H
  have p211 : 0 ≤ (x4_1 : Int) := of_decide_eq_true as1
  have q211 : x4_1 < (l0.length : Int) := of_decide_eq_true as1
  obtain ⟨ad211, A211_1, c211_1, A211_2, c211_2, e211, hx211_0, hx211_1, hx211_2, hl211_1, hi211_1, hl211_2, hi211_2⟩ := at_T66 HR0.out x4_1 p211 q211
  cases e211
  replace hx211_0 := cl HB hx211_0
  replace hx211_1 := cl HB hx211_1
  replace hx211_2 := cl HB hx211_2
  have HR211_1 := am hi211_1
  have HC211_1 := am hl211_1
  clear hi211_1 hl211_1
  have HR211_2 := am hi211_2
  have HC211_2 := am hl211_2
  clear hi211_2 hl211_2
  replace p211 := eq_true p211
  replace q211 := eq_true q211
  go_wp2_with (first | ((with_reducible refine gk 38 rfl ?_); refine gC 38 (some 20) Try.func38 #[.agg #[.int .i64 ((rd_T66 l0 x4_1).f0), .slice A211_1 ((rd_T66 l0 x4_1).f1).length c211_1, .slice A211_2 ((rd_T66 l0 x4_1).f2).length c211_2]] ((laws_toAsm.calls k1 ((rd_T66 l0 x4_1).f0) _ _ ((rd_T66 l0 x4_1).f1) _ _ ((rd_T66 l0 x4_1).f2) t212 t213 t216 _ (cc (Kd.C_below HR211_1.out HB.out)) HC211_1.out (cc (Kd.C_below HR211_2.out HB.out)) HC211_2.out A8.out).mono ?_); rintro e w11 ⟨v214, v217, rfl, ho0, ho1, hb⟩; refine ⟨_, rfl, ?_⟩; replace HO_3 := am (Kd.R_mono (Kd.R_told (Kd.R_told (Kd.R_old (kR HO_3) hb) (Kd.S_base ho0)) (Kd.S_base ho1)) (fun _ h_ => h_.1)); have HO215 := am (Kd.S_lower ho0 (below_size (bw HB))); have HO218 := am (Kd.S_lower ho1 (below_size (bw HB))); replace HB := bs HB hb; clear hb; (try clear ho0); (try clear ho1); have p10 : 0 ≤ (x4_1 : Int) := of_decide_eq_true as1; have q10 : (x4_1 : Int) < ((x3_1.length : Int) : Int) := of_decide_eq_true as1; obtain ⟨go10, co10, eo10, gb10, gl10, cl10, HG10⟩ := Kd.R_form HO_3.out (by omega); (first | cases eo10 | (injection eo10 with ea_ en_ ec_; (first | subst ea_ | (injection ea_ with ea_; subst ea_)); subst ec_; clear en_)); have GB10 := am gb10; have GG10 := am HG10; clear gb10 gl10 HG10; obtain ⟨ce10, hcl10, hM10, hcc10, hfr10⟩ := Kd.R_elem HO_3.out z73 (x4_1 : Int) p10 q10; obtain ⟨ve10_1, ve10_2, rfl, ge10_1, ge10_2⟩ := k73_openM hM10; have hx10_0 : w11.cell? ⟨go10, (x4_1 : Int).toNat * 3, none⟩ = some (.int .i64 ((rd_T73 x3_1 x4_1).f0)) := hcc10 0 _ rfl; have hx10_1 : w11.cell? ⟨go10, (x4_1 : Int).toNat * 3 + 1, none⟩ = some (ve10_1) := hcc10 1 _ rfl; have hx10_2 : w11.cell? ⟨go10, (x4_1 : Int).toNat * 3 + 2, none⟩ = some (ve10_2) := hcc10 2 _ rfl; have hf10_0 : w11.frozen? ⟨go10, (x4_1 : Int).toNat * 3, none⟩ = false := hfr10 0; have hf10_1 : w11.frozen? ⟨go10, (x4_1 : Int).toNat * 3 + 1, none⟩ = false := hfr10 1; have hf10_2 : w11.frozen? ⟨go10, (x4_1 : Int).toNat * 3 + 2, none⟩ = false := hfr10 2; (try clear hM10); (try clear hfr10); (try clear hcc10); (try clear hcl10); replace p10 := eq_true p10; replace q10 := eq_true q10; obtain ⟨Ao14, co14, eo14⟩ := Kd.S_slice HO215.out; subst eo14; obtain ⟨Ao15, co15, eo15⟩ := Kd.S_slice HO218.out; subst eo15; have n_ := am (Kd.R_mono (ok' := (fun k_ => some k_ ≠ (.slice Ao14 t213.length co14 : Value).ownBlock ∧ some k_ ≠ (.slice Ao15 t216.length co15 : Value).ownBlock)) HO_3.out (fun k_ hk => ⟨hk.1.2, hk.2⟩)); clear HO_3; have HO_3 := n_; clear n_; have HX12 := am (show Kd.R k73 73 w11 w.heap.size (fun _ => True) (.slice (some ⟨go10, 0, none⟩) x3_1.length co10) x3_1 from (by (with_reducible repeat (first | apply Kd.R_alloc | apply Kd.R_drewN | apply Kd.R_drew)); exact Kd.R_mono HO_3.out (fun _ hk => trivial))); obtain ⟨ce12, hcl12, hM12, hcc12, hfr12⟩ := Kd.R_elem HX12.out z73 (x4_1 : Int) (of_decide_eq_true as1) (by have h_ : (x4_1 : Int) < ((x3_1.length : Int) : Int) := of_decide_eq_true as1; first | exact h_ | (have e_ := (Kd.R_reads' HO_3.out).1; omega) | simpa using h_); obtain ⟨ve12_1, ve12_2, rfl, ge12_1, ge12_2⟩ := k73_openM hM12; have HP12 := Kd.R_seg HX12.out (x4_1 : Int) (of_decide_eq_true as1) (by have h_ : (x4_1 : Int) < ((x3_1.length : Int) : Int) := of_decide_eq_true as1; first | exact h_ | (have e_ := (Kd.R_reads' HO_3.out).1; omega) | simpa using h_) (seg := [.int .i64 t212, .slice Ao14 t213.length co14, .slice Ao15 t216.length co15]) (j := 0) hcl12 hcc12 (show 3 ≤ 3 from by decide) (x' := (⟨t212, t213, t216⟩ : S73)) (k73_mkM _ _ _ (⟨t212, t213, t216⟩ : S73) (Kd.R_mono (Kd.R_apart' ((Kd.S_R HO215.out)) (Kd.R_typed HO_3.out) (by decide)) (fun k_ hk => ⟨trivial, fun e_ => (hk.2) (by rw [e_]; rfl)⟩)) (Kd.R_mono (Kd.R_apart' ((Kd.S_R HO218.out)) (Kd.R_typed HO_3.out) (by decide)) (fun k_ hk => ⟨trivial, fun e_ => (hk.2) (by rw [e_]; rfl)⟩))) (fun _ hk => hk); have hx12_0 := hcc12 0 _ rfl; (try simp only [show (k73).sz = 3 from rfl, Nat.mul_one, Nat.add_zero] at hx12_0); have hf12_0 := hfr12 0; (try simp only [show (k73).sz = 3 from rfl, Nat.mul_one, Nat.add_zero] at hf12_0); have hx12_1 := hcc12 1 _ rfl; (try simp only [show (k73).sz = 3 from rfl, Nat.mul_one, Nat.add_zero] at hx12_1); have hf12_1 := hfr12 1; (try simp only [show (k73).sz = 3 from rfl, Nat.mul_one, Nat.add_zero] at hf12_1); have hx12_2 := hcc12 2 _ rfl; (try simp only [show (k73).sz = 3 from rfl, Nat.mul_one, Nat.add_zero] at hx12_2); have hf12_2 := hfr12 2; (try simp only [show (k73).sz = 3 from rfl, Nat.mul_one, Nat.add_zero] at hf12_2); (try clear hM12); (try clear hfr12); (try clear hcc12); (try clear hcl12)) | ((with_reducible refine gt 73 21 rfl ?_); refine sE 73 21 (((w11.setCell ⟨go10, (x4_1 : Int).toNat * 3, none⟩ (.int .i64 t212)).setCell ⟨go10, (x4_1 : Int).toNat * 3 + 1, none⟩ (.slice Ao14 t213.length co14)).setCell ⟨go10, (x4_1 : Int).toNat * 3 + 2, none⟩ (.slice Ao15 t216.length co15)) ?_; intro w13 hw; have hg : w11.grownBy w13 (some go10) := (by rw [hw]; exact HP12.2); have hp_ : Kd.R k73 73 w13 w.heap.size (fun _ => True) (.slice (some ⟨go10, 0, none⟩) x3_1.length co10) y219 := (by rw [hw, Ny219.out]; exact HP12.1); clear HP12; replace HO_3 := am (hp_); replace HB := am ((by rw [hw]; exact below_set (below_set (below_set (HB.out) GB10.out) GB10.out) GB10.out : Below w.heap.size w w13)); clear HO215; clear HO218; clear hg hw hp_))
  go_roundg k1
  case measure => have := HK1.out; omega
  case rel => exact ⟨(y219), (wrap64 (x4_1 + 1)), dr, H', ⟨by have := HK1.out; omega⟩, ⟨kR HO_3⟩, ⟨bw HB⟩⟩
 obtain rfl := Option.some.inj H
 go_wp2
 go_ret
 exact ⟨_, er, kR HO_3, bw HB⟩

def laws_toInt64S.l0 : Nat → List Int → List Int → Int → Option (List Int)
 | 0, _, _, _ => none
 | k + 1, x0, x3, x4 => if x4 < (x0.length : Int) then (if 0 ≤ x4 then (if x4 < (x3.length : Int) then (laws_toInt64S.l0 k x0 (x3.set (x4 : Int).toNat (rd x0 x4)) (wrap64 (x4 + 1))) else (none)) else (none)) else (some x3)
def laws_toInt64S.f (k : Nat) (l0 : List Int) : Option (List Int) := if 0 ≤ (l0.length : Int) then (if ((l0.length : Int) : Int).toNat ≤ 35184372088832 then (laws_toInt64S.l0 k l0 (List.replicate ((l0.length : Int) : Int).toNat 0) 0) else (none)) else (none)
theorem laws_toInt64S.mono_l : ∀ k, (∀ y0 y1 y2, LeO (laws_toInt64S.l0 k y0 y1 y2) (laws_toInt64S.l0 (k + 1) y0 y1 y2))
 | 0 => fun _ _ _ r h => by simp [laws_toInt64S.l0] at h
 | k + 1 => by
  have ih0 := laws_toInt64S.mono_l k
  ·intro y0 y1 y2
   unfold laws_toInt64S.l0
   with_reducible repeat' first | exact ih0 .. | exact LeO.refl _ | exact LeO.none _ | refine LeO.ite ?_ ?_ | refine LeO.bind ?_ (fun _ => ?_)
theorem laws_toInt64S.mono : ∀ a0 k, LeO (laws_toInt64S.f k a0) (laws_toInt64S.f (k + 1) a0) := by
 intro a0 k
 have ih0 := laws_toInt64S.mono_l k
 unfold laws_toInt64S.f
 with_reducible repeat' first | exact ih0 .. | exact LeO.refl _ | exact LeO.none _ | refine LeO.ite ?_ ?_ | refine LeO.bind ?_ (fun _ => ?_)
theorem laws_toInt64S.calls (k : Nat) (A0 : Option Addr) (c0 : Nat) (l0 : List Int) (r : List Int) (w : World) (hr0 : Kd.C (Kd.int .i64) w A0 l0.length l0) (hc0 : l0.length ≤ c0) (h : laws_toInt64S.f k l0 = some r) :
  Calls Try.prog 21 #[.slice A0 l0.length c0] w fun e w' => ∃ v0_ : Value, e = .returned (v0_) ∧ Kd.R (Kd.int .i64) 2 w' w.heap.size (fun _ => True) v0_ r ∧ Below w.heap.size w w' := by
 have HR0 := am hr0
 have HC0 := am hc0
 clear hr0 hc0
 have HB := am (Below.refl w.heap.size w)
 have H : (if 0 ≤ (l0.length : Int) then (if ((l0.length : Int) : Int).toNat ≤ 35184372088832 then (laws_toInt64S.l0 k l0 (List.replicate ((l0.length : Int) : Int).toNat 0) 0) else (none)) else (none)) = some r := h
 clear h
 refine iN H ?_; clear H; intro c2 H
 have c2b0 := eq_true c2
 have c2b1 := decide_eq_true c2
 clear c2
 refine iN H ?_; clear H; intro c3 H
 have c3b0 := eq_true c3
 have c3b1 := decide_eq_true c3
 clear c3
 obtain ⟨y220, hy220⟩ : ∃ y_ : List Int, y_ = (List.replicate ((l0.length : Int) : Int).toNat 0) := ⟨_, rfl⟩
 replace H : (laws_toInt64S.l0 k l0 y220 0) = some r := by first | (rw [hy220]; with_reducible exact H) | (have H2_ := (Option.bind_some _ _).symm.trans H; rw [hy220]; with_reducible exact H2_) | (have H2_ := (Option.bind_some _ _).symm.trans H; with_reducible exact H2_) | with_reducible exact H | (rw [hy220]; exact H) | exact H
 have Ny220 := am hy220
 clear hy220
 have H' := am H
 clear H
 go_enter Try.func21, Try.ntmps21
 go_wp2_with (first | ((with_reducible refine gate_dst (N := 7) rfl ?_); refine Kd.R_make (Kd.int .i64) _ 2 rfl (N := 7) rfl 25 _ _ rfl (l0.length : Int) rfl rfl Try.underlying25 (.int .i64 0) 8 info2 rfl (by decide) (by omega) 0 (ok := fun _ => True) (okp := fun _ => True) rfl (fun _ hk => hk) trivial (of_decide_eq_true as1) (Nat.le_trans (Nat.mul_le_mul_right _ (of_decide_eq_true as1 : (l0.length : Int).toNat ≤ 35184372088832)) (by omega)) (Below.refl _ _) (Nat.le_refl _) ?_; intro v221 w4 ho5 hb hg_ hnew_; clear hg_ hnew_; (first | rw [← Ny220.out] at ho5 | (simp only [Int.reduceToNat] at ho5; rw [← Ny220.out] at ho5)); have HO222 := am (Kd.R_lower ho5 (below_size (bw HB))); replace HB := bs HB hb; clear hb ho5))
 go_loopg [4] k (fun kq v4 w' => ∃ (x3_1 : List Int) (x4_1 : Int), v4 = .int .i64 x4_1 ∧ Aside0 (laws_toInt64S.l0 kq l0 x3_1 x4_1 = some r) ∧ Aside0 (kq ≤ k) ∧ Aside0 (Kd.R (Kd.int .i64) 2 w' w.heap.size (fun _ => True) v221 x3_1) ∧ Aside0 (Below w.heap.size w w'))
 case atStart => exact ⟨(y220), (0), dr, H', ⟨Nat.le_refl _⟩, ⟨kR HO222⟩, ⟨bw HB⟩⟩
 clear H'
 (try clear c2); (try clear c2b0); (try clear c2b1); (try clear p2); (try clear c3); (try clear c3b0); (try clear c3b1)
 obtain ⟨x3_1, x4_1, rfl, HA, HK1, HO_3, HB⟩ := hrel
 rcases gk with _ | k1
 ·exact absurd HA.out (by simp [laws_toInt64S.l0])
 have H := HA.out
 clear HA
 simp only [laws_toInt64S.l0] at H
 refine qI H ?_ ?_ <;> clear H <;> intro c6b0 H
 ·refine iM H ?_; clear H; intro c7b0 H
  refine iM H ?_; clear H; intro c8b0 H
  obtain ⟨y224, hy224⟩ : ∃ y_ : List Int, y_ = (x3_1.set (x4_1 : Int).toNat (rd l0 x4_1)) := ⟨_, rfl⟩
  replace H : (laws_toInt64S.l0 k1 l0 y224 (wrap64 (x4_1 + 1))) = some r := by first | (rw [hy224]; with_reducible exact H) | (have H2_ := (Option.bind_some _ _).symm.trans H; rw [hy224]; with_reducible exact H2_) | (have H2_ := (Option.bind_some _ _).symm.trans H; with_reducible exact H2_) | with_reducible exact H | (rw [hy224]; exact H) | exact H
  have Ny224 := am hy224
  clear hy224
  have H' := am H
  clear H
  have p223 : 0 ≤ (x4_1 : Int) := of_decide_eq_true as1
  have q223 : x4_1 < (l0.length : Int) := of_decide_eq_true as1
  obtain ⟨ad223, e223, hx223_0⟩ := Kd.at_int HR0.out x4_1 p223 q223
  cases e223
  replace hx223_0 := cl HB hx223_0
  replace p223 := eq_true p223
  replace q223 := eq_true q223
  have p9 : 0 ≤ (x4_1 : Int) := of_decide_eq_true as1
  have q9 : (x4_1 : Int) < ((x3_1.length : Int) : Int) := of_decide_eq_true as1
  obtain ⟨go9, co9, eo9, gb9, gl9, cl9, HG9⟩ := Kd.R_form HO_3.out (by omega)
  (first | cases eo9 | (injection eo9 with ea_ en_ ec_; (first | subst ea_ | (injection ea_ with ea_; subst ea_)); subst ec_; clear en_))
  have GB9 := am gb9
  have GG9 := am HG9
  clear gb9 gl9 HG9
  obtain ⟨hx9_0, hf9_0⟩ := Kd.R_celln 0 HO_3.out (x4_1 : Int) p9 q9
  replace p9 := eq_true p9
  replace q9 := eq_true q9
  have HP10 := Kd.R_putg HO_3.out (x4_1 : Int) (rd l0 x4_1)
  go_wp2_with (first | ((with_reducible refine gt 2 20 rfl ?_); refine sE 2 20 (wr.setCell ⟨go9, (x4_1 : Int).toNat, none⟩ (.int .i64 (rd l0 x4_1))) ?_; intro w11 hw; have hg : wr.grownBy w11 (some go9) := (by rw [hw]; exact HP10.2); have hp_ : Kd.R (Kd.int .i64) 2 w11 w.heap.size (fun _ => True) (.slice (some ⟨go9, 0, none⟩) x3_1.length co9) y224 := (by rw [hw, Ny224.out]; exact HP10.1); clear HP10; replace HO_3 := am (hp_); replace HB := am ((by rw [hw]; exact below_set (HB.out) GB9.out : Below w.heap.size w w11)); clear hg hw hp_))
  go_roundg k1
  case measure => have := HK1.out; omega
  case rel => exact ⟨(y224), (wrap64 (x4_1 + 1)), dr, H', ⟨by have := HK1.out; omega⟩, ⟨kR HO_3⟩, ⟨bw HB⟩⟩
 obtain rfl := Option.some.inj H
 go_wp2
 go_ret
 exact ⟨_, er, kR HO_3, bw HB⟩

def laws_toMixFrame.f (k : Nat) (a0_0 : Bool) (a0_1 : Int) (a0_2 : Int) (l0_3 : List Int) (l0_4 : List Int) (l0_5 : List Int) : Option (Bool × Int × Int × List Int × List Int × List Int) := (laws_toInt64S.f k l0_3).bind fun t228 => ((laws_toInt64S.f k l0_4).bind fun t231 => ((laws_toInt64S.f k l0_5).bind fun t234 => (some (a0_0, a0_1, a0_2, t228, t231, t234))))
theorem laws_toMixFrame.mono : ∀ a0 a1 a2 a3 a4 a5 k, LeO (laws_toMixFrame.f k a0 a1 a2 a3 a4 a5) (laws_toMixFrame.f (k + 1) a0 a1 a2 a3 a4 a5) := by
 intro a0 a1 a2 a3 a4 a5 k
 unfold laws_toMixFrame.f
 with_reducible repeat' first | exact laws_toInt64S.mono .. | exact LeO.refl _ | exact LeO.none _ | refine LeO.ite ?_ ?_ | refine LeO.bind ?_ (fun _ => ?_)
theorem laws_toMixFrame.calls (k : Nat) (a0_0 : Bool) (a0_1 : Int) (a0_2 : Int) (A0_3 : Option Addr) (c0_3 : Nat) (l0_3 : List Int) (A0_4 : Option Addr) (c0_4 : Nat) (l0_4 : List Int) (A0_5 : Option Addr) (c0_5 : Nat) (l0_5 : List Int) (r1 : Bool) (r2 : Int) (r3 : Int) (r4 : List Int) (r5 : List Int) (r6 : List Int) (w : World) (hr0_3 : Kd.C (Kd.int .i64) w A0_3 l0_3.length l0_3) (hc0_3 : l0_3.length ≤ c0_3) (hr0_4 : Kd.C (Kd.int .i64) w A0_4 l0_4.length l0_4) (hc0_4 : l0_4.length ≤ c0_4) (hr0_5 : Kd.C (Kd.int .i64) w A0_5 l0_5.length l0_5) (hc0_5 : l0_5.length ≤ c0_5) (h : laws_toMixFrame.f k a0_0 a0_1 a0_2 l0_3 l0_4 l0_5 = some (r1, r2, r3, r4, r5, r6)) :
  Calls Try.prog 39 #[.agg #[.bool a0_0, .int .i64 a0_1, .int .i64 a0_2, .slice A0_3 l0_3.length c0_3, .slice A0_4 l0_4.length c0_4, .slice A0_5 l0_5.length c0_5]] w fun e w' => ∃ v3_ v4_ v5_ : Value, e = .returned (.agg #[.bool r1, .int .i64 r2, .int .i64 r3, v3_, v4_, v5_]) ∧ Kd.R (Kd.int .i64) 2 w' w.heap.size (fun k_ => some k_ ≠ (v4_ : Value).ownBlock ∧ some k_ ≠ (v5_ : Value).ownBlock) v3_ r4 ∧ Kd.R (Kd.int .i64) 2 w' w.heap.size (fun k_ => some k_ ≠ (v3_ : Value).ownBlock ∧ some k_ ≠ (v5_ : Value).ownBlock) v4_ r5 ∧ Kd.R (Kd.int .i64) 2 w' w.heap.size (fun k_ => some k_ ≠ (v3_ : Value).ownBlock ∧ some k_ ≠ (v4_ : Value).ownBlock) v5_ r6 ∧ Below w.heap.size w w' := by
 have hu69 := Try.underlying69
 have hu75 := Try.underlying75
 have HR0_3 := am hr0_3
 have HC0_3 := am hc0_3
 clear hr0_3 hc0_3
 have HR0_4 := am hr0_4
 have HC0_4 := am hc0_4
 clear hr0_4 hc0_4
 have HR0_5 := am hr0_5
 have HC0_5 := am hc0_5
 clear hr0_5 hc0_5
 have HB := am (Below.refl w.heap.size w)
 have H : ((laws_toInt64S.f k l0_3).bind fun t228 => ((laws_toInt64S.f k l0_4).bind fun t231 => ((laws_toInt64S.f k l0_5).bind fun t234 => (some (a0_0, a0_1, a0_2, t228, t231, t234))))) = some (r1, r2, r3, r4, r5, r6) := h
 clear h
 refine be H ?_; clear H; intro t228 A2 H
 refine be H ?_; clear H; intro t231 A3 H
 refine be H ?_; clear H; intro t234 A4 H
 simp only [Option.some.injEq, Prod.mk.injEq] at H
 obtain ⟨rfl, rfl, rfl, rfl, rfl, rfl⟩ := H
 go_enter Try.func39, Try.ntmps39
 go_wp2_with (first | ((with_reducible refine gd 1 rfl ?_); refine bX 1 #[.bool a0_0, .int .i64 a0_1, .int .i64 a0_2, .slice A0_3 l0_3.length c0_3, .slice A0_4 l0_4.length c0_4, .slice A0_5 l0_5.length c0_5] 69 HB ?_; clear HB; intro gb225 w5 hg hb BK225 GW225 HB; clear hb hg) | ((with_reducible refine gd 2 rfl ?_); refine bX 2 #[.bool false, .int .i64 0, .int .i64 0, .slice none 0 0, .slice none 0 0, .slice none 0 0] 75 HB ?_; clear HB; intro gb226 w6 hg hb BK226 GW226 HB; obtain ⟨NB225_226, NB226_225, BK225⟩ := b3 hg BK225 hb; clear hb hg) | ((with_reducible refine gd 3 rfl ?_); refine bX 3 #[.bool false, .int .i64 0, .int .i64 0, .slice none 0 0, .slice none 0 0, .slice none 0 0] 75 HB ?_; clear HB; intro gb227 w7 hg hb BK227 GW227 HB; obtain ⟨NB225_227, NB227_225, BK225⟩ := b3 hg BK225 hb; obtain ⟨NB226_227, NB227_226, BK226⟩ := b3 hg BK226 hb; clear hb hg; have hnb8 := NB225_226.out; have hnc8 := NB226_225.out; have hnb9 := NB225_227.out; have hnc9 := NB227_225.out; have hcz10_0 := bk w7 BK225 0; have hcz10_1 := bk w7 BK225 1; have hcz10_2 := bk w7 BK225 2; have hcz10_3 := bk w7 BK225 3; have hcz10_4 := bk w7 BK225 4; have hcz10_5 := bk w7 BK225 5; have hfz10_0 := bf BK225 0; have hfz10_1 := bf BK225 1; have hfz10_2 := bf BK225 2; have hfz10_3 := bf BK225 3; have hfz10_4 := bf BK225 4; have hfz10_5 := bf BK225 5; have hnb11 := NB227_226.out; have hnc11 := NB226_227.out; have hcz12_0 := bk w7 BK227 0; have hcz12_1 := bk w7 BK227 1; have hcz12_2 := bk w7 BK227 2; have hcz12_3 := bk w7 BK227 3; have hcz12_4 := bk w7 BK227 4; have hcz12_5 := bk w7 BK227 5; have hfz12_0 := bf BK227 0; have hfz12_1 := bf BK227 1; have hfz12_2 := bf BK227 2; have hfz12_3 := bf BK227 3; have hfz12_4 := bf BK227 4; have hfz12_5 := bf BK227 5) | ((with_reducible refine gk 21 rfl ?_); refine gC 21 (some 15) Try.func21 #[.slice A0_3 l0_3.length c0_3] ((laws_toInt64S.calls k _ _ l0_3 t228 _ (Kd.C_below HR0_3.out (bw HB)) HC0_3.out A2.out).mono ?_); rintro e w13 ⟨v229, rfl, ho0, hb⟩; refine ⟨_, rfl, ?_⟩; have HO230 := am (Kd.R_lower ho0 (below_size (bw HB))); replace BK225 := bb2 BK225 hb; replace BK226 := bb2 BK226 hb; replace BK227 := bo #[.bool a0_0, .int .i64 a0_1, .int .i64 a0_2, .slice none 0 0, .slice none 0 0, .slice none 0 0] BK227 hb; replace HB := bs HB hb; clear hb; (try clear ho0); obtain ⟨Ao14, co14, eo14⟩ := Kd.R_slice HO230.out; subst eo14; have hcz15_0 := bk w13 BK227 0; have hcz15_1 := bk w13 BK227 1; have hcz15_2 := bk w13 BK227 2; have hcz15_3 := bk w13 BK227 3; have hcz15_4 := bk w13 BK227 4; have hcz15_5 := bk w13 BK227 5; have hfz15_0 := bf BK227 0; have hfz15_1 := bf BK227 1; have hfz15_2 := bf BK227 2; have hfz15_3 := bf BK227 3; have hfz15_4 := bf BK227 4; have hfz15_5 := bf BK227 5; have hcz16_0 := bk w13 BK225 0; have hcz16_1 := bk w13 BK225 1; have hcz16_2 := bk w13 BK225 2; have hcz16_3 := bk w13 BK225 3; have hcz16_4 := bk w13 BK225 4; have hcz16_5 := bk w13 BK225 5; have hfz16_0 := bf BK225 0; have hfz16_1 := bf BK225 1; have hfz16_2 := bf BK225 2; have hfz16_3 := bf BK225 3; have hfz16_4 := bf BK225 4; have hfz16_5 := bf BK225 5) | ((with_reducible refine gk 21 rfl ?_); refine gC 21 (some 19) Try.func21 #[.slice A0_4 l0_4.length c0_4] ((laws_toInt64S.calls k _ _ l0_4 t231 _ (Kd.C_below HR0_4.out (bw HB)) HC0_4.out A3.out).mono ?_); rintro e w17 ⟨v232, rfl, ho0, hb⟩; refine ⟨_, rfl, ?_⟩; have HO233 := am (Kd.R_lower (Kd.R_new' ho0 (Kd.R_lt (by (with_reducible repeat (first | apply Kd.R_alloc | apply Kd.R_drewN | apply Kd.R_drew)); exact (Kd.R_mono (Kd.R_far (p := ⟨gb227, 3, none⟩) (Kd.R_types HO230.out BK227.out (by decide)) (fun _ hk => hk.2) (.slice Ao14 t228.length co14)) (fun _ h_ => h_.1))))) (below_size (bw HB))); replace HO230 := am (Kd.R_elder' (by (with_reducible repeat (first | apply Kd.R_alloc | apply Kd.R_drewN | apply Kd.R_drew)); exact (Kd.R_mono (Kd.R_far (p := ⟨gb227, 3, none⟩) (Kd.R_types HO230.out BK227.out (by decide)) (fun _ hk => hk.2) (.slice Ao14 t228.length co14)) (fun _ h_ => h_.1))) (Kd.R_base ho0) hb); replace BK225 := bb2 BK225 hb; replace BK226 := bb2 BK226 hb; replace BK227 := bo #[.bool a0_0, .int .i64 a0_1, .int .i64 a0_2, .slice Ao14 t228.length co14, .slice none 0 0, .slice none 0 0] BK227 hb; replace HB := bs HB hb; clear hb; (try clear ho0); obtain ⟨Ao18, co18, eo18⟩ := Kd.R_slice HO233.out; subst eo18; have hcz19_0 := bk w17 BK227 0; have hcz19_1 := bk w17 BK227 1; have hcz19_2 := bk w17 BK227 2; have hcz19_3 := bk w17 BK227 3; have hcz19_4 := bk w17 BK227 4; have hcz19_5 := bk w17 BK227 5; have hfz19_0 := bf BK227 0; have hfz19_1 := bf BK227 1; have hfz19_2 := bf BK227 2; have hfz19_3 := bf BK227 3; have hfz19_4 := bf BK227 4; have hfz19_5 := bf BK227 5; have hcz20_0 := bk w17 BK225 0; have hcz20_1 := bk w17 BK225 1; have hcz20_2 := bk w17 BK225 2; have hcz20_3 := bk w17 BK225 3; have hcz20_4 := bk w17 BK225 4; have hcz20_5 := bk w17 BK225 5; have hfz20_0 := bf BK225 0; have hfz20_1 := bf BK225 1; have hfz20_2 := bf BK225 2; have hfz20_3 := bf BK225 3; have hfz20_4 := bf BK225 4; have hfz20_5 := bf BK225 5) | ((with_reducible refine gk 21 rfl ?_); refine gC 21 (some 23) Try.func21 #[.slice A0_5 l0_5.length c0_5] ((laws_toInt64S.calls k _ _ l0_5 t234 _ (Kd.C_below HR0_5.out (bw HB)) HC0_5.out A4.out).mono ?_); rintro e w21 ⟨v235, rfl, ho0, hb⟩; refine ⟨_, rfl, ?_⟩; have HO236 := am (Kd.R_lower (Kd.R_new' (Kd.R_new' ho0 (Kd.R_lt (by (with_reducible repeat (first | apply Kd.R_alloc | apply Kd.R_drewN | apply Kd.R_drew)); exact (Kd.R_mono (Kd.R_far (p := ⟨gb227, 4, none⟩) (Kd.R_types HO230.out BK227.out (by decide)) (fun _ hk => hk.2) (.slice Ao18 t231.length co18)) (fun _ h_ => h_.1))))) (Kd.R_lt (by (with_reducible repeat (first | apply Kd.R_alloc | apply Kd.R_drewN | apply Kd.R_drew)); exact (Kd.R_mono (Kd.R_far (p := ⟨gb227, 4, none⟩) (Kd.R_types HO233.out BK227.out (by decide)) (fun _ hk => hk.2) (.slice Ao18 t231.length co18)) (fun _ h_ => h_.1))))) (below_size (bw HB))); replace HO230 := am (Kd.R_elder' (by (with_reducible repeat (first | apply Kd.R_alloc | apply Kd.R_drewN | apply Kd.R_drew)); exact (Kd.R_mono (Kd.R_far (p := ⟨gb227, 4, none⟩) (Kd.R_types HO230.out BK227.out (by decide)) (fun _ hk => hk.2) (.slice Ao18 t231.length co18)) (fun _ h_ => h_.1))) (Kd.R_base ho0) hb); replace HO233 := am (Kd.R_elder' (by (with_reducible repeat (first | apply Kd.R_alloc | apply Kd.R_drewN | apply Kd.R_drew)); exact (Kd.R_mono (Kd.R_far (p := ⟨gb227, 4, none⟩) (Kd.R_types HO233.out BK227.out (by decide)) (fun _ hk => hk.2) (.slice Ao18 t231.length co18)) (fun _ h_ => h_.1))) (Kd.R_base ho0) hb); replace BK225 := bb2 BK225 hb; replace BK226 := bb2 BK226 hb; replace BK227 := bo #[.bool a0_0, .int .i64 a0_1, .int .i64 a0_2, .slice Ao14 t228.length co14, .slice Ao18 t231.length co18, .slice none 0 0] BK227 hb; replace HB := bs HB hb; clear hb; (try clear ho0); obtain ⟨Ao22, co22, eo22⟩ := Kd.R_slice HO236.out; subst eo22; have hcz23_0 := bk w21 BK227 0; have hcz23_1 := bk w21 BK227 1; have hcz23_2 := bk w21 BK227 2; have hcz23_3 := bk w21 BK227 3; have hcz23_4 := bk w21 BK227 4; have hcz23_5 := bk w21 BK227 5; have hfz23_0 := bf BK227 0; have hfz23_1 := bf BK227 1; have hfz23_2 := bf BK227 2; have hfz23_3 := bf BK227 3; have hfz23_4 := bf BK227 4; have hfz23_5 := bf BK227 5; have hcz24_0 := bk w21 BK226 0; have hcz24_1 := bk w21 BK226 1; have hcz24_2 := bk w21 BK226 2; have hcz24_3 := bk w21 BK226 3; have hcz24_4 := bk w21 BK226 4; have hcz24_5 := bk w21 BK226 5; have hfz24_0 := bf BK226 0; have hfz24_1 := bf BK226 1; have hfz24_2 := bf BK226 2; have hfz24_3 := bf BK226 3; have hfz24_4 := bf BK226 4; have hfz24_5 := bf BK226 5))
 refine bodyPost_ret (results_cell_row rfl _ _ gb226 75 #[.bool a0_0, .int .i64 a0_1, .int .i64 a0_2, .slice Ao14 t228.length co14, .slice Ao18 t231.length co18, .slice Ao22 t234.length co22] (0, 0) _ rfl (bt BK226) Try.underlying75 rfl (by kernel_rfl)) rfl ?_
 exact ⟨_, _, _, er, by (with_reducible repeat (first | apply Kd.R_alloc | apply Kd.R_drewN | apply Kd.R_drew)); exact Kd.R_mono (Kd.R_far (p := ⟨gb226, 5, none⟩) (Kd.R_far (p := ⟨gb226, 4, none⟩) (Kd.R_far (p := ⟨gb226, 3, none⟩) (Kd.R_far (p := ⟨gb226, 2, none⟩) (Kd.R_far (p := ⟨gb226, 1, none⟩) (Kd.R_far (p := ⟨gb226, 0, none⟩) (Kd.R_far (p := ⟨gb227, 5, none⟩) (Kd.R_types (Kd.R_types HO230.out BK227.out (by decide)) BK226.out (by decide)) (fun _ hk => hk.1.2) (.slice Ao22 t234.length co22)) (fun _ hk => hk.2) (.bool a0_0)) (fun _ hk => hk.2) (.int .i64 a0_1)) (fun _ hk => hk.2) (.int .i64 a0_2)) (fun _ hk => hk.2) (.slice Ao14 t228.length co14)) (fun _ hk => hk.2) (.slice Ao18 t231.length co18)) (fun _ hk => hk.2) (.slice Ao22 t234.length co22)) (fun _ hk => ⟨hk.1.1.1.2, hk.1.1.2⟩), by (with_reducible repeat (first | apply Kd.R_alloc | apply Kd.R_drewN | apply Kd.R_drew)); exact Kd.R_mono (Kd.R_far (p := ⟨gb226, 5, none⟩) (Kd.R_far (p := ⟨gb226, 4, none⟩) (Kd.R_far (p := ⟨gb226, 3, none⟩) (Kd.R_far (p := ⟨gb226, 2, none⟩) (Kd.R_far (p := ⟨gb226, 1, none⟩) (Kd.R_far (p := ⟨gb226, 0, none⟩) (Kd.R_far (p := ⟨gb227, 5, none⟩) (Kd.R_types (Kd.R_types HO233.out BK227.out (by decide)) BK226.out (by decide)) (fun _ hk => hk.1.2) (.slice Ao22 t234.length co22)) (fun _ hk => hk.2) (.bool a0_0)) (fun _ hk => hk.2) (.int .i64 a0_1)) (fun _ hk => hk.2) (.int .i64 a0_2)) (fun _ hk => hk.2) (.slice Ao14 t228.length co14)) (fun _ hk => hk.2) (.slice Ao18 t231.length co18)) (fun _ hk => hk.2) (.slice Ao22 t234.length co22)) (fun _ hk => ⟨hk.1.1.1.2, hk.1.1.2⟩), by (with_reducible repeat (first | apply Kd.R_alloc | apply Kd.R_drewN | apply Kd.R_drew)); exact Kd.R_mono (Kd.R_far (p := ⟨gb226, 5, none⟩) (Kd.R_far (p := ⟨gb226, 4, none⟩) (Kd.R_far (p := ⟨gb226, 3, none⟩) (Kd.R_far (p := ⟨gb226, 2, none⟩) (Kd.R_far (p := ⟨gb226, 1, none⟩) (Kd.R_far (p := ⟨gb226, 0, none⟩) (Kd.R_far (p := ⟨gb227, 5, none⟩) (Kd.R_types (Kd.R_types HO236.out BK227.out (by decide)) BK226.out (by decide)) (fun _ hk => hk.1.2) (.slice Ao22 t234.length co22)) (fun _ hk => hk.2) (.bool a0_0)) (fun _ hk => hk.2) (.int .i64 a0_1)) (fun _ hk => hk.2) (.int .i64 a0_2)) (fun _ hk => hk.2) (.slice Ao14 t228.length co14)) (fun _ hk => hk.2) (.slice Ao18 t231.length co18)) (fun _ hk => hk.2) (.slice Ao22 t234.length co22)) (fun _ hk => ⟨hk.1.1.1.2, hk.1.1.2⟩), bw HB⟩

end Go.Proofs.Yticdldoijkdffaa.QFnExactMixTold
