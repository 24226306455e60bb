import Derived.Test.YtkhpiicijkhpkaaCFnExactAsmBytesx0
import Derived.Test.YtkhpiicijkhpkaaCFnExactAsmBytesx13
namespace Go.Proofs.Ytkhpiicijkhpkaa.QFnExactAsmBytes
open Go.RowKit Go.Proofs.YtkhpiicijkhpkaaW
open PrintWords PrintLast PrintMore PrintShort PrintIsh
attribute [local go_sem] max2_int min2_int max_two min_two max_three min_three max_four min_four
set_option linter.unusedVariables false
set_option maxHeartbeats 8000000
set_option maxRecDepth 100000
set_option linter.unusedSimpArgs false

def laws_toMovS.l0 : Nat → List (S201) → List (S84) → Int → Option ((List (S84)))
 | 0, _, _, _ => none
 | k + 1, x0, x3, x4 => if x4 < (x0.length : Int) then (if 0 ≤ x4 then ((laws_toMov.f ((rd_T201 x0 x4).f0) ((rd_T201 x0 x4).f1.f0) ((rd_T201 x0 x4).f1.f1)).bind fun bt397 => (if x4 < (x3.length : Int) then (laws_toMovS.l0 k x0 (x3.set (x4 : Int).toNat (⟨bt397.1, (⟨bt397.2.1, bt397.2.2⟩ : S82)⟩ : S84)) (wrap64 (x4 + 1))) else (none))) else (none)) else (some x3)
def laws_toMovS.f (k : Nat) (l0 : List (S201)) : Option ((List (S84))) := if 0 ≤ (l0.length : Int) then (if ((l0.length : Int) : Int).toNat ≤ 11728124029610 then (laws_toMovS.l0 k l0 (List.replicate ((l0.length : Int) : Int).toNat z84) 0) else (none)) else (none)
theorem laws_toMovS.calls (k : Nat) (A0 : Option Addr) (c0 : Nat) (l0 : List (S201)) (r : List (S84)) (w : World) (hr0 : Kd.C k201 w A0 l0.length l0) (hc0 : l0.length ≤ c0) (h : laws_toMovS.f k l0 = some r) :
  Calls Try.prog 133 #[.slice A0 l0.length c0] w fun e w' => ∃ v0_ : Value, e = .returned (v0_) ∧ Kd.R k84 84 w' w.heap.size (fun _ => True) v0_ r ∧ Below w.heap.size w w' := by
 have hu201 := Try.underlying201
 have hu84 := Try.underlying84
 have HR0 := am hr0
 have HC0 := am hc0
 clear hr0 hc0
 have HB := am (Below.refl w.heap.size w)
 have H : (if 0 ≤ (l0.length : Int) then (if ((l0.length : Int) : Int).toNat ≤ 11728124029610 then (laws_toMovS.l0 k l0 (List.replicate ((l0.length : Int) : Int).toNat z84) 0) else (none)) else (none)) = some r := h
 clear h
 refine iN H ?_; clear H; intro c2 H
 have c2b0 := eq_true c2
 have c2b1 := decide_eq_true c2
 clear c2
 refine iN H ?_; clear H; intro c3 H
 have c3b0 := eq_true c3
 have c3b1 := decide_eq_true c3
 clear c3
 obtain ⟨y393, hy393⟩ : ∃ y_ : List (S84), y_ = (List.replicate ((l0.length : Int) : Int).toNat z84) := ⟨_, rfl⟩
 replace H : (laws_toMovS.l0 k l0 y393 0) = some r := cg hy393 H
 have Ny393 := am hy393
 clear hy393
 have H' := am H
 clear H
 go_enter Try.func133, Try.ntmps133
 go_wp2_with (first | ((with_reducible refine gate_dst (N := 7) rfl ?_); refine Kd.R_make k84 _ 84 rfl (N := 7) rfl 77 _ _ rfl (l0.length : Int) rfl rfl Try.underlying77 (.agg #[(.int .i64 0), (.int .i64 0), (.int .i64 0)]) 24 info84 rfl (by decide) (by omega) z84 (ok := fun _ => True) (okp := fun _ => True) (k84_mkM _ _ _ z84 ) (fun _ hk => hk) trivial (of_decide_eq_true as1) (Nat.le_trans (Nat.mul_le_mul_right _ (of_decide_eq_true as1 : (l0.length : Int).toNat ≤ 11728124029610)) (by omega)) (Below.refl _ _) (Nat.le_refl _) ?_; intro v394 w4 ho5 hb hg_ hnew_; clear hg_ hnew_; (first | rw [← Ny393.out] at ho5 | (simp only [Int.reduceToNat] at ho5; rw [← Ny393.out] at ho5)); have HO395 := am (Kd.R_lower ho5 (below_size (bw HB))); replace HB := bs HB hb; clear hb ho5))
 go_loopg [4] k (fun kq v4 w' => ∃ (x3_1 : List (S84)) (x4_1 : Int), v4 = .int .i64 x4_1 ∧ Aside0 (laws_toMovS.l0 kq l0 x3_1 x4_1 = some r) ∧ Aside0 (kq ≤ k) ∧ Aside0 (Kd.R k84 84 w' w.heap.size (fun _ => True) v394 x3_1) ∧ Aside0 (Below w.heap.size w w'))
 case atStart => exact ⟨(y393), (0), dr, H', ⟨Nat.le_refl _⟩, ⟨kR HO395⟩, ⟨bw HB⟩⟩
 clear H'
 obtain ⟨x3_1, x4_1, rfl, HA, HK1, HO_3, HB⟩ := hrel
 rcases gk with _ | k1
 ·exact absurd HA.out (by simp [laws_toMovS.l0])
 have H := HA.out
 clear HA
 simp only [laws_toMovS.l0] at H
 refine qI H ?_ ?_ <;> clear H <;> intro c6b0 H
 ·refine iM H ?_; clear H; intro c7b0 H
  replace H := Option.bind_eq_some_iff.mp H
  obtain ⟨⟨t397, t398, t399⟩, A80, H⟩ := H
  replace H : (if x4_1 < (x3_1.length : Int) then (laws_toMovS.l0 k1 l0 (x3_1.set (x4_1 : Int).toNat (⟨t397, (⟨t398, t399⟩ : S82)⟩ : S84)) (wrap64 (x4_1 + 1))) else (none)) = some r := H
  have A8 := am A80
  clear A80
  refine iM H ?_; clear H; intro c9b0 H
  obtain ⟨y400, hy400⟩ : ∃ y_ : List (S84), y_ = (x3_1.set (x4_1 : Int).toNat (⟨t397, (⟨t398, t399⟩ : S82)⟩ : S84)) := ⟨_, rfl⟩
  replace H : (laws_toMovS.l0 k1 l0 y400 (wrap64 (x4_1 + 1))) = some r := cg hy400 H
  have Ny400 := am hy400
  clear hy400
  have H' := am H
  clear H
  have p396 : 0 ≤ (x4_1 : Int) := dt
  have q396 : x4_1 < (l0.length : Int) := dt
  obtain ⟨ad396, e396, hx396_0, hx396_1, hx396_2⟩ := at_T201 HR0.out x4_1 p396 q396
  cases e396
  replace hx396_0 := cl HB hx396_0
  replace hx396_1 := cl HB hx396_1
  replace hx396_2 := cl HB hx396_2
  replace p396 := eq_true p396
  replace q396 := eq_true q396
  go_wp2_with (first | ((with_reducible refine gate_callee (f := 157) rfl ?_); refine goesL_ (some 20) rfl rfl Try.func157 (by kernel_rfl) rfl #[.agg #[.int .i64 ((rd_T201 l0 x4_1).f0), .int .i64 ((rd_T201 l0 x4_1).f1.f0), .int .i64 ((rd_T201 l0 x4_1).f1.f1)]] rfl gl ?_; (with_reducible refine (laws_toMov.calls ((rd_T201 l0 x4_1).f0) ((rd_T201 l0 x4_1).f1.f0) ((rd_T201 l0 x4_1).f1.f1) t397 t398 t399 _ A8.out).mono ?_); rintro e w11 ⟨rfl, hb⟩; refine ⟨_, rfl, ?_⟩; replace HO_3 := am (Kd.R_below (kR HO_3) hb); replace HB := bs HB hb; clear hb; have p10 : 0 ≤ (x4_1 : Int) := dt; have q10 : (x4_1 : Int) < ((x3_1.length : Int) : Int) := dt; obtain ⟨go10, co10, eo10, gb10, gl10, cl10, HG10⟩ := Kd.R_form HO_3.out (by omega); (first | cases eo10 | (injection eo10 with ea_ en_ ec_; (first | subst ea_ | (injection ea_ with ea_; subst ea_)); subst ec_; clear en_)); have GB10 := am gb10; have GG10 := am HG10; clear gb10 gl10 HG10; obtain ⟨ce10, hcl10, hM10, hcc10, hfr10⟩ := Kd.R_elem HO_3.out z84 (x4_1 : Int) p10 q10; obtain rfl := k84_openM hM10; have hx10_0 : w11.cell? ⟨go10, (x4_1 : Int).toNat * 3, none⟩ = some (.int .i64 ((rd_T84 x3_1 x4_1).f0)) := hcc10 0 _ rfl; have hx10_1 : w11.cell? ⟨go10, (x4_1 : Int).toNat * 3 + 1, none⟩ = some (.int .i64 ((rd_T84 x3_1 x4_1).f1.f0)) := hcc10 1 _ rfl; have hx10_2 : w11.cell? ⟨go10, (x4_1 : Int).toNat * 3 + 2, none⟩ = some (.int .i64 ((rd_T84 x3_1 x4_1).f1.f1)) := hcc10 2 _ rfl; have hf10_0 : w11.frozen? ⟨go10, (x4_1 : Int).toNat * 3, none⟩ = false := hfr10 0; have hf10_1 : w11.frozen? ⟨go10, (x4_1 : Int).toNat * 3 + 1, none⟩ = false := hfr10 1; have hf10_2 : w11.frozen? ⟨go10, (x4_1 : Int).toNat * 3 + 2, none⟩ = false := hfr10 2; replace p10 := eq_true p10; replace q10 := eq_true q10; have HX12 := am (show Kd.R k84 84 w11 w.heap.size (fun _ => True) (.slice (some ⟨go10, 0, none⟩) x3_1.length co10) x3_1 from (kR HO_3)); obtain ⟨ce12, hcl12, hM12, hcc12, hfr12⟩ := Kd.R_elem HX12.out z84 (x4_1 : Int) (of_decide_eq_true as1) (by have h_ : (x4_1 : Int) < ((x3_1.length : Int) : Int) := dt; first | exact h_ | (have e_ := (Kd.R_reads' HO_3.out).1; omega) | simpa using h_); obtain rfl := k84_openM hM12; have HP12 := Kd.R_seg HX12.out (x4_1 : Int) (of_decide_eq_true as1) (by have h_ : (x4_1 : Int) < ((x3_1.length : Int) : Int) := dt; first | exact h_ | (have e_ := (Kd.R_reads' HO_3.out).1; omega) | simpa using h_) (seg := [.int .i64 t397, .int .i64 t398, .int .i64 t399]) (j := 0) hcl12 hcc12 (show 3 ≤ 3 from by decide) (x' := (⟨t397, (⟨t398, t399⟩ : S82)⟩ : S84)) (k84_mkM _ _ _ (⟨t397, (⟨t398, t399⟩ : S82)⟩ : S84) ) (fun _ hk => hk); have hx12_0 := hcc12 0 _ rfl; (try simp only [show (k84).sz = 3 from rfl, Nat.mul_one, Nat.add_zero] at hx12_0); have hf12_0 := hfr12 0; (try simp only [show (k84).sz = 3 from rfl, Nat.mul_one, Nat.add_zero] at hf12_0); have hx12_1 := hcc12 1 _ rfl; (try simp only [show (k84).sz = 3 from rfl, Nat.mul_one, Nat.add_zero] at hx12_1); have hf12_1 := hfr12 1; (try simp only [show (k84).sz = 3 from rfl, Nat.mul_one, Nat.add_zero] at hf12_1); have hx12_2 := hcc12 2 _ rfl; (try simp only [show (k84).sz = 3 from rfl, Nat.mul_one, Nat.add_zero] at hx12_2); have hf12_2 := hfr12 2; (try simp only [show (k84).sz = 3 from rfl, Nat.mul_one, Nat.add_zero] at hf12_2)) | ((with_reducible refine gt 84 21 rfl ?_); refine sE 84 21 (((w11.setCell ⟨go10, (x4_1 : Int).toNat * 3, none⟩ (.int .i64 t397)).setCell ⟨go10, (x4_1 : Int).toNat * 3 + 1, none⟩ (.int .i64 t398)).setCell ⟨go10, (x4_1 : Int).toNat * 3 + 2, none⟩ (.int .i64 t399)) ?_; intro w13 hw; have hg : w11.grownBy w13 (some go10) := (by rw [hw]; exact HP12.2); have hp_ : Kd.R k84 84 w13 w.heap.size (fun _ => True) (.slice (some ⟨go10, 0, none⟩) x3_1.length co10) y400 := (by rw [hw, Ny400.out]; exact HP12.1); clear HP12; replace HO_3 := am (hp_); replace HB := am ((by rw [hw]; exact below_set (below_set (below_set (HB.out) GB10.out) GB10.out) GB10.out : Below w.heap.size w w13)); clear hg hw hp_))
  go_roundg k1
  case measure => have := HK1.out; omega
  case rel => exact ⟨(y400), (wrap64 (x4_1 + 1)), dr, H', ⟨by have := HK1.out; omega⟩, ⟨kR HO_3⟩, ⟨bw HB⟩⟩
 obtain rfl := oi H
 go_wp2
 go_ret
 exact ⟨_, er, kR HO_3, bw HB⟩

def laws_toAsmIns.f (k : Nat) (l0_0 : List (S201)) (a0_1 : Int) (a0_2 : Int) (l0_3 : List (S185)) (a0_4 : Int) : Option ((List (S84)) × Int × Int × (List (S82)) × Int) := (laws_toMovS.f k l0_0).bind fun t404 => ((laws_toValS.f k l0_3).bind fun t407 => (some (t404, a0_1, a0_2, t407, a0_4)))
theorem laws_toAsmIns.calls (k : Nat) (A0_0 : Option Addr) (c0_0 : Nat) (l0_0 : List (S201)) (a0_1 : Int) (a0_2 : Int) (A0_3 : Option Addr) (c0_3 : Nat) (l0_3 : List (S185)) (a0_4 : Int) (r1 : List (S84)) (r2 : Int) (r3 : Int) (r4 : List (S82)) (r5 : Int) (w : World) (hr0_0 : Kd.C k201 w A0_0 l0_0.length l0_0) (hc0_0 : l0_0.length ≤ c0_0) (hr0_3 : Kd.C k185 w A0_3 l0_3.length l0_3) (hc0_3 : l0_3.length ≤ c0_3) (h : laws_toAsmIns.f k l0_0 a0_1 a0_2 l0_3 a0_4 = some (r1, r2, r3, r4, r5)) :
  Calls Try.prog 88 #[.agg #[.slice A0_0 l0_0.length c0_0, .int .i64 a0_1, .int .i64 a0_2, .slice A0_3 l0_3.length c0_3, .int .i64 a0_4]] w fun e w' => ∃ v0_ v3_ : Value, e = .returned (.agg #[v0_, .int .i64 r2, .int .i64 r3, v3_, .int .i64 r5]) ∧ Kd.R k84 84 w' w.heap.size (fun _ => True) v0_ r1 ∧ Kd.R k82 82 w' w.heap.size (fun _ => True) v3_ r4 ∧ Below w.heap.size w w' := by
 have hu134 := Try.underlying134
 have hu80 := Try.underlying80
 have HR0_0 := am hr0_0
 have HC0_0 := am hc0_0
 clear hr0_0 hc0_0
 have HR0_3 := am hr0_3
 have HC0_3 := am hc0_3
 clear hr0_3 hc0_3
 have HB := am (Below.refl w.heap.size w)
 have H : ((laws_toMovS.f k l0_0).bind fun t404 => ((laws_toValS.f k l0_3).bind fun t407 => (some (t404, a0_1, a0_2, t407, a0_4)))) = some (r1, r2, r3, r4, r5) := h
 clear h
 refine be H ?_; clear H; intro t404 A2 H
 refine be H ?_; clear H; intro t407 A3 H
 simp only [Option.some.injEq, Prod.mk.injEq] at H
 obtain ⟨rfl, rfl, rfl, rfl, rfl⟩ := H
 go_enter Try.func88, Try.ntmps88
 go_wp2_with (first | ((with_reducible refine gd 1 rfl ?_); refine bX 1 #[.slice A0_0 l0_0.length c0_0, .int .i64 a0_1, .int .i64 a0_2, .slice A0_3 l0_3.length c0_3, .int .i64 a0_4] 134 HB ?_; clear HB; intro gb401 w4 hg hb BK401 GW401 HB; clear hb hg) | ((with_reducible refine gd 2 rfl ?_); refine bX 2 #[.slice none 0 0, .int .i64 0, .int .i64 0, .slice none 0 0, .int .i64 0] 80 HB ?_; clear HB; intro gb402 w5 hg hb BK402 GW402 HB; obtain ⟨NB401_402, NB402_401, BK401⟩ := b3 hg BK401 hb; clear hb hg) | ((with_reducible refine gd 3 rfl ?_); refine bX 3 #[.slice none 0 0, .int .i64 0, .int .i64 0, .slice none 0 0, .int .i64 0] 80 HB ?_; clear HB; intro gb403 w6 hg hb BK403 GW403 HB; obtain ⟨NB401_403, NB403_401, BK401⟩ := b3 hg BK401 hb; obtain ⟨NB402_403, NB403_402, BK402⟩ := b3 hg BK402 hb; clear hb hg; have hnb7 := NB401_402.out; have hnc7 := NB402_401.out; have hnb8 := NB401_403.out; have hnc8 := NB403_401.out; have hcz9_0 := bk w6 BK401 0; have hcz9_1 := bk w6 BK401 1; have hcz9_2 := bk w6 BK401 2; have hcz9_3 := bk w6 BK401 3; have hcz9_4 := bk w6 BK401 4; have hfz9_0 := bf BK401 0; have hfz9_1 := bf BK401 1; have hfz9_2 := bf BK401 2; have hfz9_3 := bf BK401 3; have hfz9_4 := bf BK401 4) | ((with_reducible refine gk 133 rfl ?_); refine gC 133 (some 6) Try.func133 #[.slice A0_0 l0_0.length c0_0] ((laws_toMovS.calls k _ _ l0_0 t404 _ (cc (Kd.C_below HR0_0.out HB.out)) HC0_0.out A2.out).mono ?_); rintro e w10 ⟨v405, rfl, ho0, hb⟩; refine ⟨_, rfl, ?_⟩; have HO406 := am (Kd.R_lower ho0 (below_size (bw HB))); replace BK401 := bb BK401 hb; replace BK402 := bb BK402 hb; replace BK403 := bb BK403 hb; replace HB := bs HB hb; clear hb; obtain ⟨Ao11, co11, eo11⟩ := Kd.R_slice HO406.out; subst eo11; have hnb12 := NB403_402.out; have hnc12 := NB402_403.out; have hcz13_0 := bk w10 BK403 0; have hcz13_1 := bk w10 BK403 1; have hcz13_2 := bk w10 BK403 2; have hcz13_3 := bk w10 BK403 3; have hcz13_4 := bk w10 BK403 4; have hfz13_0 := bf BK403 0; have hfz13_1 := bf BK403 1; have hfz13_2 := bf BK403 2; have hfz13_3 := bf BK403 3; have hfz13_4 := bf BK403 4; have hcz14_0 := bk w10 BK401 0; have hcz14_1 := bk w10 BK401 1; have hcz14_2 := bk w10 BK401 2; have hcz14_3 := bk w10 BK401 3; have hcz14_4 := bk w10 BK401 4; have hfz14_0 := bf BK401 0; have hfz14_1 := bf BK401 1; have hfz14_2 := bf BK401 2; have hfz14_3 := bf BK401 3; have hfz14_4 := bf BK401 4) | ((with_reducible refine gk 89 rfl ?_); refine gC 89 (some 16) Try.func89 #[.slice A0_3 l0_3.length c0_3] ((laws_toValS.calls k _ _ l0_3 t407 _ (Kd.C_below HR0_3.out (bw HB)) HC0_3.out A3.out).mono ?_); rintro e w15 ⟨v408, rfl, ho0, hb⟩; refine ⟨_, rfl, ?_⟩; replace HO406 := am (Kd.R_below (by (with_reducible repeat (first | apply Kd.R_alloc | apply Kd.R_drewN | apply Kd.R_drew)); exact (Kd.R_mono (Kd.R_far (p := ⟨gb403, 2, none⟩) (Kd.R_far (p := ⟨gb403, 1, none⟩) (Kd.R_far (p := ⟨gb403, 0, none⟩) (Kd.R_types HO406.out BK403.out (by decide)) (fun _ hk => hk.2) (.slice Ao11 t404.length co11)) (fun _ hk => hk.2) (.int .i64 a0_1)) (fun _ hk => hk.2) (.int .i64 a0_2)) (fun _ h_ => h_.1))) hb); have HO409 := am (Kd.R_lower ho0 (below_size (bw HB))); replace BK401 := bb2 BK401 hb; replace BK402 := bb2 BK402 hb; replace BK403 := bo #[.slice Ao11 t404.length co11, .int .i64 a0_1, .int .i64 a0_2, .slice none 0 0, .int .i64 0] BK403 hb; replace HB := bs HB hb; clear hb; obtain ⟨Ao16, co16, eo16⟩ := Kd.R_slice HO409.out; subst eo16; have hcz17_0 := bk w15 BK403 0; have hcz17_1 := bk w15 BK403 1; have hcz17_2 := bk w15 BK403 2; have hcz17_3 := bk w15 BK403 3; have hcz17_4 := bk w15 BK403 4; have hfz17_0 := bf BK403 0; have hfz17_1 := bf BK403 1; have hfz17_2 := bf BK403 2; have hfz17_3 := bf BK403 3; have hfz17_4 := bf BK403 4; have hcz18_0 := bk w15 BK401 0; have hcz18_1 := bk w15 BK401 1; have hcz18_2 := bk w15 BK401 2; have hcz18_3 := bk w15 BK401 3; have hcz18_4 := bk w15 BK401 4; have hfz18_0 := bf BK401 0; have hfz18_1 := bf BK401 1; have hfz18_2 := bf BK401 2; have hfz18_3 := bf BK401 3; have hfz18_4 := bf BK401 4; have hcz19_0 := bk w15 BK402 0; have hcz19_1 := bk w15 BK402 1; have hcz19_2 := bk w15 BK402 2; have hcz19_3 := bk w15 BK402 3; have hcz19_4 := bk w15 BK402 4; have hfz19_0 := bf BK402 0; have hfz19_1 := bf BK402 1; have hfz19_2 := bf BK402 2; have hfz19_3 := bf BK402 3; have hfz19_4 := bf BK402 4))
 refine bodyPost_ret (results_cell_row rfl _ _ gb402 80 #[.slice Ao11 t404.length co11, .int .i64 a0_1, .int .i64 a0_2, .slice Ao16 t407.length co16, .int .i64 a0_4] (0, 0) _ rfl (bt BK402) Try.underlying80 rfl (by kernel_rfl)) rfl ?_
 exact ⟨_, _, er, by (with_reducible repeat (first | apply Kd.R_alloc | apply Kd.R_drewN | apply Kd.R_drew)); exact Kd.R_mono (Kd.R_far (p := ⟨gb402, 4, none⟩) (Kd.R_far (p := ⟨gb402, 3, none⟩) (Kd.R_far (p := ⟨gb402, 2, none⟩) (Kd.R_far (p := ⟨gb402, 1, none⟩) (Kd.R_far (p := ⟨gb402, 0, none⟩) (Kd.R_far (p := ⟨gb403, 4, none⟩) (Kd.R_far (p := ⟨gb403, 3, none⟩) (Kd.R_types (Kd.R_types HO406.out BK403.out (by decide)) BK402.out (by decide)) (fun _ hk => hk.1.2) (.slice Ao16 t407.length co16)) (fun _ hk => hk.1.2) (.int .i64 a0_4)) (fun _ hk => hk.2) (.slice Ao11 t404.length co11)) (fun _ hk => hk.2) (.int .i64 a0_1)) (fun _ hk => hk.2) (.int .i64 a0_2)) (fun _ hk => hk.2) (.slice Ao16 t407.length co16)) (fun _ hk => hk.2) (.int .i64 a0_4)) (fun _ hk => trivial), by (with_reducible repeat (first | apply Kd.R_alloc | apply Kd.R_drewN | apply Kd.R_drew)); exact Kd.R_mono (Kd.R_far (p := ⟨gb402, 4, none⟩) (Kd.R_far (p := ⟨gb402, 3, none⟩) (Kd.R_far (p := ⟨gb402, 2, none⟩) (Kd.R_far (p := ⟨gb402, 1, none⟩) (Kd.R_far (p := ⟨gb402, 0, none⟩) (Kd.R_far (p := ⟨gb403, 4, none⟩) (Kd.R_far (p := ⟨gb403, 3, none⟩) (Kd.R_types (Kd.R_types HO409.out BK403.out (by decide)) BK402.out (by decide)) (fun _ hk => hk.1.2) (.slice Ao16 t407.length co16)) (fun _ hk => hk.1.2) (.int .i64 a0_4)) (fun _ hk => hk.2) (.slice Ao11 t404.length co11)) (fun _ hk => hk.2) (.int .i64 a0_1)) (fun _ hk => hk.2) (.int .i64 a0_2)) (fun _ hk => hk.2) (.slice Ao16 t407.length co16)) (fun _ hk => hk.2) (.int .i64 a0_4)) (fun _ hk => trivial), bw HB⟩

def laws_toAsmInsS.l0 : Nat → List (S134) → List (S80) → Int → Option ((List (S80)))
 | 0, _, _, _ => none
 | k + 1, x0, x3, x4 => if x4 < (x0.length : Int) then (if 0 ≤ x4 then ((laws_toAsmIns.f k ((rd_T134 x0 x4).f0) ((rd_T134 x0 x4).f1) ((rd_T134 x0 x4).f2) ((rd_T134 x0 x4).f3) ((rd_T134 x0 x4).f4)).bind fun bt414 => (if x4 < (x3.length : Int) then (laws_toAsmInsS.l0 k x0 (x3.set (x4 : Int).toNat (⟨bt414.1, bt414.2.1, bt414.2.2.1, bt414.2.2.2.1, bt414.2.2.2.2⟩ : S80)) (wrap64 (x4 + 1))) else (none))) else (none)) else (some x3)
def laws_toAsmInsS.f (k : Nat) (l0 : List (S134)) : Option ((List (S80))) := if 0 ≤ (l0.length : Int) then (if ((l0.length : Int) : Int).toNat ≤ 3909374676536 then (laws_toAsmInsS.l0 k l0 (List.replicate ((l0.length : Int) : Int).toNat z80) 0) else (none)) else (none)
theorem laws_toAsmInsS.calls (k : Nat) (A0 : Option Addr) (c0 : Nat) (l0 : List (S134)) (r : List (S80)) (w : World) (hr0 : Kd.C k134 w A0 l0.length l0) (hc0 : l0.length ≤ c0) (h : laws_toAsmInsS.f k l0 = some r) :
  Calls Try.prog 46 #[.slice A0 l0.length c0] w fun e w' => ∃ v0_ : Value, e = .returned (v0_) ∧ Kd.S k80 80 w' w.heap.size (fun _ => True) v0_ r ∧ Below w.heap.size w w' := by
 have hu134 := Try.underlying134
 have hu80 := Try.underlying80
 have HR0 := am hr0
 have HC0 := am hc0
 clear hr0 hc0
 have HB := am (Below.refl w.heap.size w)
 have H : (if 0 ≤ (l0.length : Int) then (if ((l0.length : Int) : Int).toNat ≤ 3909374676536 then (laws_toAsmInsS.l0 k l0 (List.replicate ((l0.length : Int) : Int).toNat z80) 0) else (none)) else (none)) = some r := h
 clear h
 refine iN H ?_; clear H; intro c2 H
 have c2b0 := eq_true c2
 have c2b1 := decide_eq_true c2
 clear c2
 refine iN H ?_; clear H; intro c3 H
 have c3b0 := eq_true c3
 have c3b1 := decide_eq_true c3
 clear c3
 obtain ⟨y410, hy410⟩ : ∃ y_ : List (S80), y_ = (List.replicate ((l0.length : Int) : Int).toNat z80) := ⟨_, rfl⟩
 replace H : (laws_toAsmInsS.l0 k l0 y410 0) = some r := cg hy410 H
 have Ny410 := am hy410
 clear hy410
 have H' := am H
 clear H
 go_enter Try.func46, Try.ntmps46
 go_wp2_with (first | ((with_reducible refine gate_dst (N := 7) rfl ?_); refine Kd.S_make k80 _ 80 rfl (N := 7) rfl 46 _ _ rfl (l0.length : Int) rfl rfl Try.underlying46 (.agg #[(.slice none 0 0), (.int .i64 0), (.int .i64 0), (.slice none 0 0), (.int .i64 0)]) 72 info80 rfl (by decide) (by omega) z80 (ok := fun _ => True) (okp := fun _ => True) (k80_mkM _ _ _ z80 (Kd.R_nil _ _ _ _ _) (Kd.R_nil _ _ _ _ _)) (fun _ hk => hk) trivial (of_decide_eq_true as1) (Nat.le_trans (Nat.mul_le_mul_right _ (of_decide_eq_true as1 : (l0.length : Int).toNat ≤ 3909374676536)) (by omega)) (Below.refl _ _) (Nat.le_refl _) ?_; intro v411 w4 ho5 hb hg_ hnew_; clear hg_ hnew_; (first | rw [← Ny410.out] at ho5 | (simp only [Int.reduceToNat] at ho5; rw [← Ny410.out] at ho5)); have HO412 := am (Kd.S_lower ho5 (below_size (bw HB))); replace HB := bs HB hb; clear hb ho5))
 go_loopg [4] k (fun kq v4 w' => ∃ (x3_1 : List (S80)) (x4_1 : Int), v4 = .int .i64 x4_1 ∧ Aside0 (laws_toAsmInsS.l0 kq l0 x3_1 x4_1 = some r) ∧ Aside0 (kq ≤ k) ∧ Aside0 (Kd.S k80 80 w' w.heap.size (fun _ => True) v411 x3_1) ∧ Aside0 (Below w.heap.size w w'))
 case atStart => exact ⟨(y410), (0), dr, H', ⟨Nat.le_refl _⟩, ⟨kS HO412⟩, ⟨bw HB⟩⟩
 clear H'
 obtain ⟨x3_1, x4_1, rfl, HA, HK1, HO_3, HB⟩ := hrel
 rcases gk with _ | k1
 ·exact absurd HA.out (by simp [laws_toAsmInsS.l0])
 have H := HA.out
 clear HA
 simp only [laws_toAsmInsS.l0] at H
 refine qI H ?_ ?_ <;> clear H <;> intro c6b0 H
 ·refine iM H ?_; clear H; intro c7b0 H
  replace H := Option.bind_eq_some_iff.mp H
  obtain ⟨⟨t414, t417, t418, t419, t422⟩, A80, H⟩ := H
  replace H : (if x4_1 < (x3_1.length : Int) then (laws_toAsmInsS.l0 k1 l0 (x3_1.set (x4_1 : Int).toNat (⟨t414, t417, t418, t419, t422⟩ : S80)) (wrap64 (x4_1 + 1))) else (none)) = some r := H
  have A8 := am A80
  clear A80
  refine iM H ?_; clear H; intro c9b0 H
  obtain ⟨y423, hy423⟩ : ∃ y_ : List (S80), y_ = (x3_1.set (x4_1 : Int).toNat (⟨t414, t417, t418, t419, t422⟩ : S80)) := ⟨_, rfl⟩
  replace H : (laws_toAsmInsS.l0 k1 l0 y423 (wrap64 (x4_1 + 1))) = some r := cg hy423 H
  have Ny423 := am hy423
  clear hy423
  have H' := am H
  clear H
  have p413 : 0 ≤ (x4_1 : Int) := dt
  have q413 : x4_1 < (l0.length : Int) := dt
  obtain ⟨ad413, A413_0, c413_0, A413_3, c413_3, e413, hx413_0, hx413_1, hx413_2, hx413_3, hx413_4, hl413_0, hi413_0, hl413_3, hi413_3⟩ := at_T134 HR0.out x4_1 p413 q413
  cases e413
  replace hx413_0 := cl HB hx413_0
  replace hx413_1 := cl HB hx413_1
  replace hx413_2 := cl HB hx413_2
  replace hx413_3 := cl HB hx413_3
  replace hx413_4 := cl HB hx413_4
  have HR413_0 := am hi413_0
  have HC413_0 := am hl413_0
  clear hi413_0 hl413_0
  have HR413_3 := am hi413_3
  have HC413_3 := am hl413_3
  clear hi413_3 hl413_3
  replace p413 := eq_true p413
  replace q413 := eq_true q413
  go_wp2_with (first | ((with_reducible refine gk 88 rfl ?_); refine gC 88 (some 20) Try.func88 #[.agg #[.slice A413_0 ((rd_T134 l0 x4_1).f0).length c413_0, .int .i64 ((rd_T134 l0 x4_1).f1), .int .i64 ((rd_T134 l0 x4_1).f2), .slice A413_3 ((rd_T134 l0 x4_1).f3).length c413_3, .int .i64 ((rd_T134 l0 x4_1).f4)]] ((laws_toAsmIns.calls k1 _ _ ((rd_T134 l0 x4_1).f0) ((rd_T134 l0 x4_1).f1) ((rd_T134 l0 x4_1).f2) _ _ ((rd_T134 l0 x4_1).f3) ((rd_T134 l0 x4_1).f4) t414 t417 t418 t419 t422 _ (cc (Kd.C_below HR413_0.out HB.out)) HC413_0.out (cc (Kd.C_below HR413_3.out HB.out)) HC413_3.out A8.out).mono ?_); rintro e w11 ⟨v415, v420, rfl, ho0, ho1, hb⟩; refine ⟨_, rfl, ?_⟩; replace HO_3 := am (Kd.S_mono (Kd.S_told (Kd.S_told (Kd.S_old (kS HO_3) hb) (Kd.R_base ho0)) (Kd.R_base ho1)) (fun _ h_ => h_.1)); have HO416 := am (Kd.R_lower ho0 (below_size (bw HB))); have HO421 := am (Kd.R_lower ho1 (below_size (bw HB))); replace HB := bs HB hb; clear hb; have p10 : 0 ≤ (x4_1 : Int) := dt; have q10 : (x4_1 : Int) < ((x3_1.length : Int) : Int) := dt; obtain ⟨go10, co10, eo10, gb10, gl10, cl10, HG10⟩ := Kd.S_form HO_3.out (by omega); (first | cases eo10 | (injection eo10 with ea_ en_ ec_; (first | subst ea_ | (injection ea_ with ea_; subst ea_)); subst ec_; clear en_)); have GB10 := am gb10; have GG10 := am HG10; clear gb10 gl10 HG10; obtain ⟨_, ce10, hcl10, hM10, hcc10, hfr10, _, _⟩ := Kd.S_elem HO_3.out z80 (x4_1 : Int) p10 q10; obtain ⟨ve10_0, ve10_3, rfl, ge10_0, ge10_3⟩ := k80_openM hM10; have hx10_0 : w11.cell? ⟨go10, (x4_1 : Int).toNat * 5, none⟩ = some (ve10_0) := hcc10 0 _ rfl; have hx10_1 : w11.cell? ⟨go10, (x4_1 : Int).toNat * 5 + 1, none⟩ = some (.int .i64 ((rd_T80 x3_1 x4_1).f1)) := hcc10 1 _ rfl; have hx10_2 : w11.cell? ⟨go10, (x4_1 : Int).toNat * 5 + 2, none⟩ = some (.int .i64 ((rd_T80 x3_1 x4_1).f2)) := hcc10 2 _ rfl; have hx10_3 : w11.cell? ⟨go10, (x4_1 : Int).toNat * 5 + 3, none⟩ = some (ve10_3) := hcc10 3 _ rfl; have hx10_4 : w11.cell? ⟨go10, (x4_1 : Int).toNat * 5 + 4, none⟩ = some (.int .i64 ((rd_T80 x3_1 x4_1).f4)) := hcc10 4 _ rfl; have hf10_0 : w11.frozen? ⟨go10, (x4_1 : Int).toNat * 5, none⟩ = false := hfr10 0; have hf10_1 : w11.frozen? ⟨go10, (x4_1 : Int).toNat * 5 + 1, none⟩ = false := hfr10 1; have hf10_2 : w11.frozen? ⟨go10, (x4_1 : Int).toNat * 5 + 2, none⟩ = false := hfr10 2; have hf10_3 : w11.frozen? ⟨go10, (x4_1 : Int).toNat * 5 + 3, none⟩ = false := hfr10 3; have hf10_4 : w11.frozen? ⟨go10, (x4_1 : Int).toNat * 5 + 4, none⟩ = false := hfr10 4; replace p10 := eq_true p10; replace q10 := eq_true q10; obtain ⟨Ao14, co14, eo14⟩ := Kd.R_slice HO416.out; subst eo14; obtain ⟨Ao15, co15, eo15⟩ := Kd.R_slice HO421.out; subst eo15; have n_ := am (Kd.S_mono (ok' := (fun k_ => some k_ ≠ (.slice Ao14 t414.length co14 : Value).ownBlock ∧ some k_ ≠ (.slice Ao15 t419.length co15 : Value).ownBlock)) HO_3.out (fun k_ hk => ⟨hk.1.2, hk.2⟩)); clear HO_3; have HO_3 := n_; clear n_; have HX12 := am (show Kd.S k80 80 w11 w.heap.size (fun k_ => ((fun _ => True)) k_ ∧ ¬ ((fun k_ => some k_ = (.slice Ao14 t414.length co14 : Value).ownBlock ∨ some k_ = (.slice Ao15 t419.length co15 : Value).ownBlock)) k_) (.slice (some ⟨go10, 0, none⟩) x3_1.length co10) x3_1 from (by (with_reducible repeat (first | apply Kd.S_alloc | apply Kd.S_drewN | apply Kd.S_drew)); exact Kd.S_mono HO_3.out (fun k_ hk => ⟨trivial, fun e_ => e_.elim (fun h_ => hk.1 h_) (fun h_ => hk.2 h_)⟩))); obtain ⟨oki12, ce12, hcl12, hM12, hcc12, hfr12, hoki12, hH12⟩ := Kd.S_elem HX12.out z80 (x4_1 : Int) (of_decide_eq_true as1) (by have h_ : (x4_1 : Int) < ((x3_1.length : Int) : Int) := dt; first | exact h_ | (have e_ := (Kd.S_reads' HO_3.out).1; omega) | simpa using h_); obtain ⟨ve12_0, ve12_3, rfl, ge12_0, ge12_3⟩ := k80_openM hM12; have HP12 := Kd.S_seg hH12 (of_decide_eq_true as1) (by have h_ : (x4_1 : Int) < ((x3_1.length : Int) : Int) := dt; first | exact h_ | (have e_ := (Kd.S_reads' HO_3.out).1; omega) | simpa using h_) (seg := [.slice Ao14 t414.length co14, .int .i64 t417, .int .i64 t418, .slice Ao15 t419.length co15, .int .i64 t422]) (j := 0) (show 5 ≤ 5 from by decide) (x' := (⟨t414, t417, t418, t419, t422⟩ : S80)) (k80_mkM _ _ _ (⟨t414, t417, t418, t419, t422⟩ : S80) (Kd.R_mono (Kd.R_tight rfl (Kd.R_mono (ok' := fun k_ => ((fun _ => True)) k_ ∧ k_ ≠ go10) (Kd.R_apart' (HO416.out) (Kd.S_typed HO_3.out) (by decide)) (fun k_ hk => ⟨trivial, fun e_ => (hk.2) (by rw [e_]; rfl)⟩))) (fun _ h_ => Or.inr (Or.inl h_))) (Kd.R_mono (Kd.R_tight rfl (Kd.R_mono (ok' := fun k_ => ((fun _ => True)) k_ ∧ k_ ≠ go10) (Kd.R_apart' (HO421.out) (Kd.S_typed HO_3.out) (by decide)) (fun k_ hk => ⟨trivial, fun e_ => (hk.2) (by rw [e_]; rfl)⟩))) (fun _ h_ => Or.inr (Or.inr (h_))))) (fun _ hk => hk) (fun k_ hk_ => hk_.elim (fun h_ => ((Kd.R_mono (ok' := fun k_ => ((fun _ => True)) k_ ∧ k_ ≠ go10) (Kd.R_apart' (HO416.out) (Kd.S_typed HO_3.out) (by decide)) (fun k_ hk => ⟨trivial, fun e_ => (hk.2) (by rw [e_]; rfl)⟩))).1 k_ h_.symm) (fun h_ => ((Kd.R_mono (ok' := fun k_ => ((fun _ => True)) k_ ∧ k_ ≠ go10) (Kd.R_apart' (HO421.out) (Kd.S_typed HO_3.out) (by decide)) (fun k_ hk => ⟨trivial, fun e_ => (hk.2) (by rw [e_]; rfl)⟩))).1 k_ h_.symm)); have hx12_0 := hcc12 0 _ rfl; (try simp only [show (k80).sz = 5 from rfl, Nat.mul_one, Nat.add_zero] at hx12_0); have hf12_0 := hfr12 0; (try simp only [show (k80).sz = 5 from rfl, Nat.mul_one, Nat.add_zero] at hf12_0); have hx12_1 := hcc12 1 _ rfl; (try simp only [show (k80).sz = 5 from rfl, Nat.mul_one, Nat.add_zero] at hx12_1); have hf12_1 := hfr12 1; (try simp only [show (k80).sz = 5 from rfl, Nat.mul_one, Nat.add_zero] at hf12_1); have hx12_2 := hcc12 2 _ rfl; (try simp only [show (k80).sz = 5 from rfl, Nat.mul_one, Nat.add_zero] at hx12_2); have hf12_2 := hfr12 2; (try simp only [show (k80).sz = 5 from rfl, Nat.mul_one, Nat.add_zero] at hf12_2); have hx12_3 := hcc12 3 _ rfl; (try simp only [show (k80).sz = 5 from rfl, Nat.mul_one, Nat.add_zero] at hx12_3); have hf12_3 := hfr12 3; (try simp only [show (k80).sz = 5 from rfl, Nat.mul_one, Nat.add_zero] at hf12_3); have hx12_4 := hcc12 4 _ rfl; (try simp only [show (k80).sz = 5 from rfl, Nat.mul_one, Nat.add_zero] at hx12_4); have hf12_4 := hfr12 4; (try simp only [show (k80).sz = 5 from rfl, Nat.mul_one, Nat.add_zero] at hf12_4)) | ((with_reducible refine gt 80 21 rfl ?_); refine sE 80 21 (((((w11.setCell ⟨go10, (x4_1 : Int).toNat * 5, none⟩ (.slice Ao14 t414.length co14)).setCell ⟨go10, (x4_1 : Int).toNat * 5 + 1, none⟩ (.int .i64 t417)).setCell ⟨go10, (x4_1 : Int).toNat * 5 + 2, none⟩ (.int .i64 t418)).setCell ⟨go10, (x4_1 : Int).toNat * 5 + 3, none⟩ (.slice Ao15 t419.length co15)).setCell ⟨go10, (x4_1 : Int).toNat * 5 + 4, none⟩ (.int .i64 t422)) ?_; intro w13 hw; have hg : w11.grownBy w13 (some go10) := (by rw [hw]; exact HP12.2); have hp_ : Kd.S k80 80 w13 w.heap.size (fun _ => True) (.slice (some ⟨go10, 0, none⟩) x3_1.length co10) y423 := (by rw [hw, Ny423.out]; exact HP12.1); clear HP12; replace HO_3 := am (hp_); replace HB := am ((by rw [hw]; exact below_set (below_set (below_set (below_set (below_set (HB.out) GB10.out) GB10.out) GB10.out) GB10.out) GB10.out : Below w.heap.size w w13)); clear HO416; clear HO421; clear hg hw hp_))
  go_roundg k1
  case measure => have := HK1.out; omega
  case rel => exact ⟨(y423), (wrap64 (x4_1 + 1)), dr, H', ⟨by have := HK1.out; omega⟩, ⟨kS HO_3⟩, ⟨bw HB⟩⟩
 obtain rfl := oi H
 go_wp2
 go_ret
 exact ⟨_, er, kS HO_3, bw HB⟩

def laws_toValSS.l0 : Nat → List (List (S185)) → List (List (S82)) → Int → Option ((List (List (S82))))
 | 0, _, _, _ => none
 | k + 1, x0, x3, x4 => if x4 < (x0.length : Int) then (if 0 ≤ x4 then ((laws_toValS.f k (rd_L10 x0 x4)).bind fun t428 => (if x4 < (x3.length : Int) then (laws_toValSS.l0 k x0 (x3.set (x4 : Int).toNat t428) (wrap64 (x4 + 1))) else (none))) else (none)) else (some x3)
def laws_toValSS.f (k : Nat) (l0 : List (List (S185))) : Option ((List (List (S82)))) := if 0 ≤ (l0.length : Int) then (if ((l0.length : Int) : Int).toNat ≤ 11728124029610 then (laws_toValSS.l0 k l0 (List.replicate ((l0.length : Int) : Int).toNat []) 0) else (none)) else (none)
theorem laws_toValSS.calls (k : Nat) (A0 : Option Addr) (c0 : Nat) (l0 : List (List (S185))) (r : List (List (S82))) (w : World) (hr0 : Kd.C (Kd.slice 185 k185) w A0 l0.length l0) (hc0 : l0.length ≤ c0) (h : laws_toValSS.f k l0 = some r) :
  Calls Try.prog 47 #[.slice A0 l0.length c0] w fun e w' => ∃ v0_ : Value, e = .returned (v0_) ∧ Kd.S (Kd.slice 82 k82) 78 w' w.heap.size (fun _ => True) v0_ r ∧ Below w.heap.size w w' := by
 have HR0 := am hr0
 have HC0 := am hc0
 clear hr0 hc0
 have HB := am (Below.refl w.heap.size w)
 have H : (if 0 ≤ (l0.length : Int) then (if ((l0.length : Int) : Int).toNat ≤ 11728124029610 then (laws_toValSS.l0 k l0 (List.replicate ((l0.length : Int) : Int).toNat []) 0) else (none)) else (none)) = some r := h
 clear h
 refine iN H ?_; clear H; intro c2 H
 have c2b0 := eq_true c2
 have c2b1 := decide_eq_true c2
 clear c2
 refine iN H ?_; clear H; intro c3 H
 have c3b0 := eq_true c3
 have c3b1 := decide_eq_true c3
 clear c3
 obtain ⟨y424, hy424⟩ : ∃ y_ : List (List (S82)), y_ = (List.replicate ((l0.length : Int) : Int).toNat []) := ⟨_, rfl⟩
 replace H : (laws_toValSS.l0 k l0 y424 0) = some r := cg hy424 H
 have Ny424 := am hy424
 clear hy424
 have H' := am H
 clear H
 go_enter Try.func47, Try.ntmps47
 go_wp2_with (first | ((with_reducible refine gate_dst (N := 7) rfl ?_); refine Kd.S_make (Kd.slice 82 k82) _ 78 rfl (N := 7) rfl 47 _ _ rfl (l0.length : Int) rfl rfl Try.underlying47 (.slice none 0 0) 24 info78 rfl (by decide) (by omega) [] (ok := fun _ => True) (okp := fun _ => True) ⟨_, rfl, Kd.R_nil _ _ _ _ _⟩ (fun _ hk => hk) trivial (of_decide_eq_true as1) (Nat.le_trans (Nat.mul_le_mul_right _ (of_decide_eq_true as1 : (l0.length : Int).toNat ≤ 11728124029610)) (by omega)) (Below.refl _ _) (Nat.le_refl _) ?_; intro v425 w4 ho5 hb hg_ hnew_; clear hg_ hnew_; (first | rw [← Ny424.out] at ho5 | (simp only [Int.reduceToNat] at ho5; rw [← Ny424.out] at ho5)); have HO426 := am (Kd.S_lower ho5 (below_size (bw HB))); replace HB := bs HB hb; clear hb ho5))
 go_loopg [4] k (fun kq v4 w' => ∃ (x3_1 : List (List (S82))) (x4_1 : Int), v4 = .int .i64 x4_1 ∧ Aside0 (laws_toValSS.l0 kq l0 x3_1 x4_1 = some r) ∧ Aside0 (kq ≤ k) ∧ Aside0 (Kd.S (Kd.slice 82 k82) 78 w' w.heap.size (fun _ => True) v425 x3_1) ∧ Aside0 (Below w.heap.size w w'))
 case atStart => exact ⟨(y424), (0), dr, H', ⟨Nat.le_refl _⟩, ⟨kS HO426⟩, ⟨bw HB⟩⟩
 clear H'
 obtain ⟨x3_1, x4_1, rfl, HA, HK1, HO_3, HB⟩ := hrel
 rcases gk with _ | k1
 ·exact absurd HA.out (by simp [laws_toValSS.l0])
 have H := HA.out
 clear HA
 simp only [laws_toValSS.l0] at H
 refine qI H ?_ ?_ <;> clear H <;> intro c6b0 H
 ·refine iM H ?_; clear H; intro c7b0 H
  refine be H ?_; clear H; intro t428 A8 H
  refine iM H ?_; clear H; intro c9b0 H
  obtain ⟨y431, hy431⟩ : ∃ y_ : List (List (S82)), y_ = (x3_1.set (x4_1 : Int).toNat t428) := ⟨_, rfl⟩
  replace H : (laws_toValSS.l0 k1 l0 y431 (wrap64 (x4_1 + 1))) = some r := cg hy431 H
  have Ny431 := am hy431
  clear hy431
  have H' := am H
  clear H
  have p427 : 0 ≤ (x4_1 : Int) := dt
  have q427 : x4_1 < (l0.length : Int) := dt
  obtain ⟨ad427, A427_0, c427_0, e427, hx427_0, hl427_0, hi427_0⟩ := at_L10 HR0.out x4_1 p427 q427
  cases e427
  replace hx427_0 := cl HB hx427_0
  have HR427_0 := am hi427_0
  have HC427_0 := am hl427_0
  clear hi427_0 hl427_0
  replace p427 := eq_true p427
  replace q427 := eq_true q427
  go_wp2_with (first | ((with_reducible refine gk 89 rfl ?_); refine gC 89 (some 20) Try.func89 #[.slice A427_0 (rd_L10 l0 x4_1).length c427_0] ((laws_toValS.calls k1 _ _ (rd_L10 l0 x4_1) t428 _ (cc (Kd.C_below HR427_0.out HB.out)) HC427_0.out A8.out).mono ?_); rintro e w11 ⟨v429, rfl, ho0, hb⟩; refine ⟨_, rfl, ?_⟩; replace HO_3 := am (Kd.S_elder' (kS HO_3) (Kd.R_base ho0) hb); have HO430 := am (Kd.R_lower ho0 (below_size (bw HB))); replace HB := bs HB hb; clear hb; have p10 : 0 ≤ (x4_1 : Int) := dt; have q10 : (x4_1 : Int) < ((x3_1.length : Int) : Int) := dt; obtain ⟨go10, co10, eo10, gb10, gl10, cl10, HG10⟩ := Kd.S_form HO_3.out (by omega); (first | cases eo10 | (injection eo10 with ea_ en_ ec_; (first | subst ea_ | (injection ea_ with ea_; subst ea_)); subst ec_; clear en_)); have GB10 := am gb10; have GG10 := am HG10; clear gb10 gl10 HG10; obtain ⟨_, ce10, hcl10, hM10, hcc10, hfr10, _, _⟩ := Kd.S_elem HO_3.out [] (x4_1 : Int) p10 q10; obtain ⟨ve10_0, rfl, ge10_0⟩ := hM10; have hx10_0 := hcc10 0 _ rfl; have hf10_0 := hfr10 0; (try simp only [show ((Kd.slice 82 k82)).sz = 1 from rfl, Nat.mul_one, Nat.add_zero] at hx10_0); (try simp only [show ((Kd.slice 82 k82)).sz = 1 from rfl, Nat.mul_one, Nat.add_zero] at hf10_0); replace p10 := eq_true p10; replace q10 := eq_true q10; obtain ⟨Ao14, co14, eo14⟩ := Kd.R_slice HO430.out; subst eo14; have n_ := am (Kd.S_mono (ok' := (fun k_ => some k_ ≠ (.slice Ao14 t428.length co14 : Value).ownBlock)) HO_3.out (fun k_ hk => hk.2)); clear HO_3; have HO_3 := n_; clear n_; have HX12 := am (show Kd.S (Kd.slice 82 k82) 78 w11 w.heap.size (fun k_ => ((fun _ => True)) k_ ∧ ¬ ((fun k_ => some k_ = (.slice Ao14 t428.length co14 : Value).ownBlock)) k_) (.slice (some ⟨go10, 0, none⟩) x3_1.length co10) x3_1 from (by (with_reducible repeat (first | apply Kd.S_alloc | apply Kd.S_drewN | apply Kd.S_drew)); exact Kd.S_mono HO_3.out (fun k_ hk => ⟨trivial, fun e_ => hk e_⟩))); obtain ⟨oki12, ce12, hcl12, hM12, hcc12, hfr12, hoki12, hH12⟩ := Kd.S_elem HX12.out [] (x4_1 : Int) (of_decide_eq_true as1) (by have h_ : (x4_1 : Int) < ((x3_1.length : Int) : Int) := dt; first | exact h_ | (have e_ := (Kd.S_reads' HO_3.out).1; omega) | simpa using h_); obtain ⟨ve12_0, rfl, ge12_0⟩ := hM12; have HP12 := Kd.S_seg hH12 (of_decide_eq_true as1) (by have h_ : (x4_1 : Int) < ((x3_1.length : Int) : Int) := dt; first | exact h_ | (have e_ := (Kd.S_reads' HO_3.out).1; omega) | simpa using h_) (seg := [.slice Ao14 t428.length co14]) (j := 0) (show 1 ≤ 1 from by decide) (x' := t428) (Kd.M_row (Kd.R_mono (Kd.R_tight rfl (Kd.R_mono (ok' := fun k_ => ((fun _ => True)) k_ ∧ k_ ≠ go10) (Kd.R_apart' (HO430.out) (Kd.S_typed HO_3.out) (by decide)) (fun k_ hk => ⟨trivial, fun e_ => (hk.2) (by rw [e_]; rfl)⟩))) (fun _ h_ => Or.inr (h_)))) (fun _ hk => hk) (fun k_ hk_ => ((Kd.R_mono (ok' := fun k_ => ((fun _ => True)) k_ ∧ k_ ≠ go10) (Kd.R_apart' (HO430.out) (Kd.S_typed HO_3.out) (by decide)) (fun k_ hk => ⟨trivial, fun e_ => (hk.2) (by rw [e_]; rfl)⟩))).1 k_ hk_.symm); have hx12_0 := hcc12 0 _ rfl; (try simp only [show ((Kd.slice 82 k82)).sz = 1 from rfl, Nat.mul_one, Nat.add_zero] at hx12_0); have hf12_0 := hfr12 0; (try simp only [show ((Kd.slice 82 k82)).sz = 1 from rfl, Nat.mul_one, Nat.add_zero] at hf12_0); (try simp only [show ((Kd.slice 82 k82)).sz = 1 from rfl, Nat.mul_one, Nat.add_zero] at HP12)) | ((with_reducible refine gt 78 21 rfl ?_); refine sE 78 21 (w11.setCell ⟨go10, (x4_1 : Int).toNat, none⟩ (.slice Ao14 t428.length co14)) ?_; intro w13 hw; have hg : w11.grownBy w13 (some go10) := (by rw [hw]; exact HP12.2); have hp_ : Kd.S (Kd.slice 82 k82) 78 w13 w.heap.size (fun _ => True) (.slice (some ⟨go10, 0, none⟩) x3_1.length co10) y431 := (by rw [hw, Ny431.out]; exact HP12.1); clear HP12; replace HO_3 := am (hp_); replace HB := am ((by rw [hw]; exact below_set (HB.out) GB10.out : Below w.heap.size w w13)); clear HO430; clear hg hw hp_))
  go_roundg k1
  case measure => have := HK1.out; omega
  case rel => exact ⟨(y431), (wrap64 (x4_1 + 1)), dr, H', ⟨by have := HK1.out; omega⟩, ⟨kS HO_3⟩, ⟨bw HB⟩⟩
 obtain rfl := oi H
 go_wp2
 go_ret
 exact ⟨_, er, kS HO_3, bw HB⟩

def laws_toAsm.f (k : Nat) (a0_0 : Int) (l0_1 : List (S134)) (l0_2 : List (List (S185))) : Option (Int × (List (S80)) × (List (List (S82)))) := (laws_toAsmInsS.f k l0_1).bind fun t435 => ((laws_toValSS.f k l0_2).bind fun t438 => (some (a0_0, t435, t438)))
theorem laws_toAsm.calls (k : Nat) (a0_0 : Int) (A0_1 : Option Addr) (c0_1 : Nat) (l0_1 : List (S134)) (A0_2 : Option Addr) (c0_2 : Nat) (l0_2 : List (List (S185))) (r1 : Int) (r2 : List (S80)) (r3 : List (List (S82))) (w : World) (hr0_1 : Kd.C k134 w A0_1 l0_1.length l0_1) (hc0_1 : l0_1.length ≤ c0_1) (hr0_2 : Kd.C (Kd.slice 185 k185) w A0_2 l0_2.length l0_2) (hc0_2 : l0_2.length ≤ c0_2) (h : laws_toAsm.f k a0_0 l0_1 l0_2 = some (r1, r2, r3)) :
  Calls Try.prog 20 #[.agg #[.int .i64 a0_0, .slice A0_1 l0_1.length c0_1, .slice A0_2 l0_2.length c0_2]] w fun e w' => ∃ v1_ v2_ : Value, e = .returned (.agg #[.int .i64 r1, v1_, v2_]) ∧ Kd.S k80 80 w' w.heap.size (fun _ => True) v1_ r2 ∧ Kd.S (Kd.slice 82 k82) 78 w' w.heap.size (fun _ => True) v2_ r3 ∧ Below w.heap.size w w' := by
 have hu43 := Try.underlying43
 have hu49 := Try.underlying49
 have HR0_1 := am hr0_1
 have HC0_1 := am hc0_1
 clear hr0_1 hc0_1
 have HR0_2 := am hr0_2
 have HC0_2 := am hc0_2
 clear hr0_2 hc0_2
 have HB := am (Below.refl w.heap.size w)
 have H : ((laws_toAsmInsS.f k l0_1).bind fun t435 => ((laws_toValSS.f k l0_2).bind fun t438 => (some (a0_0, t435, t438)))) = some (r1, r2, r3) := h
 clear h
 refine be H ?_; clear H; intro t435 A2 H
 refine be H ?_; clear H; intro t438 A3 H
 simp only [Option.some.injEq, Prod.mk.injEq] at H
 obtain ⟨rfl, rfl, rfl⟩ := H
 go_enter Try.func20, Try.ntmps20
 go_wp2_with (first | ((with_reducible refine gd 1 rfl ?_); refine bX 1 #[.int .i64 a0_0, .slice A0_1 l0_1.length c0_1, .slice A0_2 l0_2.length c0_2] 43 HB ?_; clear HB; intro gb432 w4 hg hb BK432 GW432 HB; clear hb hg) | ((with_reducible refine gd 2 rfl ?_); refine bX 2 #[.int .i64 0, .slice none 0 0, .slice none 0 0] 49 HB ?_; clear HB; intro gb433 w5 hg hb BK433 GW433 HB; obtain ⟨NB432_433, NB433_432, BK432⟩ := b3 hg BK432 hb; clear hb hg) | ((with_reducible refine gd 3 rfl ?_); refine bX 3 #[.int .i64 0, .slice none 0 0, .slice none 0 0] 49 HB ?_; clear HB; intro gb434 w6 hg hb BK434 GW434 HB; obtain ⟨NB432_434, NB434_432, BK432⟩ := b3 hg BK432 hb; obtain ⟨NB433_434, NB434_433, BK433⟩ := b3 hg BK433 hb; clear hb hg; have hnb7 := NB432_433.out; have hnc7 := NB433_432.out; have hnb8 := NB432_434.out; have hnc8 := NB434_432.out; have hcz9 := bK w6 BK432; have hfz9 := bF BK432; have hnb10 := NB434_433.out; have hnc10 := NB433_434.out; have hcz11 := bK w6 BK434; have hfz11 := bF BK434) | ((with_reducible refine gk 46 rfl ?_); refine gC 46 (some 9) Try.func46 #[.slice A0_1 l0_1.length c0_1] ((laws_toAsmInsS.calls k _ _ l0_1 t435 _ (Kd.C_below HR0_1.out (bw HB)) HC0_1.out A2.out).mono ?_); rintro e w12 ⟨v436, rfl, ho0, hb⟩; refine ⟨_, rfl, ?_⟩; have HO437 := am (Kd.S_lower ho0 (below_size (bw HB))); replace BK432 := bb2 BK432 hb; replace BK433 := bb2 BK433 hb; replace BK434 := bo #[.int .i64 a0_0, .slice none 0 0, .slice none 0 0] BK434 hb; replace HB := bs HB hb; clear hb; obtain ⟨Ao13, co13, eo13⟩ := Kd.S_slice HO437.out; subst eo13; have hcz14 := bK w12 BK434; have hfz14 := bF BK434; have hcz15 := bK w12 BK432; have hfz15 := bF BK432) | ((with_reducible refine gk 47 rfl ?_); refine gC 47 (some 13) Try.func47 #[.slice A0_2 l0_2.length c0_2] ((laws_toValSS.calls k _ _ l0_2 t438 _ (Kd.C_below HR0_2.out (bw HB)) HC0_2.out A3.out).mono ?_); rintro e w16 ⟨v439, rfl, ho0, hb⟩; refine ⟨_, rfl, ?_⟩; replace HO437 := am (Kd.S_below (by (with_reducible repeat (first | apply Kd.S_alloc | apply Kd.S_drewN | apply Kd.S_drew)); exact (Kd.S_mono (Kd.S_far (p := ⟨gb434, 1, none⟩) (Kd.S_types HO437.out BK434.out (by decide)) (fun _ hk => hk.2) (.slice Ao13 t435.length co13)) (fun _ h_ => h_.1))) hb); have HO440 := am (Kd.S_lower ho0 (below_size (bw HB))); replace BK432 := bb2 BK432 hb; replace BK433 := bb2 BK433 hb; replace BK434 := bo #[.int .i64 a0_0, .slice Ao13 t435.length co13, .slice none 0 0] BK434 hb; replace HB := bs HB hb; clear hb; obtain ⟨Ao17, co17, eo17⟩ := Kd.S_slice HO440.out; subst eo17; have hcz18 := bK w16 BK434; have hfz18 := bF BK434; have hcz19 := bK w16 BK433; have hfz19 := bF BK433))
 refine bodyPost_ret (results_cell_row rfl _ _ gb433 49 #[.int .i64 a0_0, .slice Ao13 t435.length co13, .slice Ao17 t438.length co17] (0, 0) _ rfl (bt BK433) Try.underlying49 rfl (by kernel_rfl)) rfl ?_
 exact ⟨_, _, er, by (with_reducible repeat (first | apply Kd.S_alloc | apply Kd.S_drewN | apply Kd.S_drew)); exact Kd.S_mono (Kd.S_far (p := ⟨gb433, 2, none⟩) (Kd.S_far (p := ⟨gb433, 1, none⟩) (Kd.S_far (p := ⟨gb433, 0, none⟩) (Kd.S_far (p := ⟨gb434, 2, none⟩) (Kd.S_types (Kd.S_types HO437.out BK434.out (by decide)) BK433.out (by decide)) (fun _ hk => hk.1.2) (.slice Ao17 t438.length co17)) (fun _ hk => hk.2) (.int .i64 a0_0)) (fun _ hk => hk.2) (.slice Ao13 t435.length co13)) (fun _ hk => hk.2) (.slice Ao17 t438.length co17)) (fun _ hk => trivial), by (with_reducible repeat (first | apply Kd.S_alloc | apply Kd.S_drewN | apply Kd.S_drew)); exact Kd.S_mono (Kd.S_far (p := ⟨gb433, 2, none⟩) (Kd.S_far (p := ⟨gb433, 1, none⟩) (Kd.S_far (p := ⟨gb433, 0, none⟩) (Kd.S_far (p := ⟨gb434, 2, none⟩) (Kd.S_types (Kd.S_types HO440.out BK434.out (by decide)) BK433.out (by decide)) (fun _ hk => hk.1.2) (.slice Ao17 t438.length co17)) (fun _ hk => hk.2) (.int .i64 a0_0)) (fun _ hk => hk.2) (.slice Ao13 t435.length co13)) (fun _ hk => hk.2) (.slice Ao17 t438.length co17)) (fun _ hk => trivial), bw HB⟩

def impl_in.f (a0 : Int) (a1 : Int) (a2 : Int) : Option (Bool) := if a0 ≥ a1 then (some (decide (a0 ≤ a2))) else (some false)
theorem impl_in.calls (a0 : Int) (a1 : Int) (a2 : Int) (r : Bool) (w : World) (h : impl_in.f a0 a1 a2 = some r) :
  Calls Try.prog 113 #[.int .i64 a0, .int .i64 a1, .int .i64 a2] w fun e w' => e = .returned (.bool r) ∧ Drawn0 w w' := by
 have H : (if a0 ≥ a1 then (some (decide (a0 ≤ a2))) else (some false)) = some r := h
 clear h
 refine qL H ?_ ?_ <;> clear H <;> intro c4b0 H
 ·obtain rfl := oi H
  go_enter Try.func113, Try.ntmps113
  go_wp2
  go_ret
  exact ⟨by first | rfl | (simp; done) | (simp [*]; done), by repeat (first | exact Drawn0.refl _ | apply Drawn0.step)⟩
 obtain rfl := oi H
 go_enter Try.func113, Try.ntmps113
 go_wp2
 go_ret
 exact ⟨by first | rfl | (simp; done) | (simp [*]; done), by repeat (first | exact Drawn0.refl _ | apply Drawn0.step)⟩

def impl_hasFunc.f (l0_0 : List (S121)) (a1 : Int) : Option (Bool) := if a1 ≥ 0 then (some (decide (a1 < (l0_0.length : Int)))) else (some false)
theorem impl_hasFunc.calls (A0_0 : Option Addr) (c0_0 : Nat) (l0_0 : List (S121)) (a1 : Int) (r : Bool) (w : World) (hr0_0 : Kd.C k121 w A0_0 l0_0.length l0_0) (hc0_0 : l0_0.length ≤ c0_0) (h : impl_hasFunc.f l0_0 a1 = some r) :
  Calls Try.prog 95 #[.agg #[.slice A0_0 l0_0.length c0_0], .int .i64 a1] w fun e w' => e = .returned (.bool r) ∧ Below w.heap.size w w' := by
 have hu32 := Try.underlying32
 have HR0_0 := am hr0_0
 have HC0_0 := am hc0_0
 clear hr0_0 hc0_0
 have HB := am (Below.refl w.heap.size w)
 have H : (if a1 ≥ 0 then (some (decide (a1 < (l0_0.length : Int)))) else (some false)) = some r := h
 clear h
 refine qL H ?_ ?_ <;> clear H <;> intro c3b0 H
 ·obtain rfl := oi H
  go_enter Try.func95, Try.ntmps95
  go_wp2_with (first | ((with_reducible refine gate_dst (N := 2) rfl ?_); (try (refine gate_guard (by rfl) ?_; dsimp only)); refine box_event ?hg (N := 2) ?hd (cs := #[.slice A0_0 l0_0.length c0_0]) (t := 32) ?hr ?_; (case hd => rfl); (case hg => rfl); (case hr => exact gs); intro gb441 hg w4 hbox hb; have BK441 := am (hbox); have GW441 := gw hg HB; replace HB := bs HB hb; clear hb hbox hg; have hcz5 := bK w4 BK441; have hfz5 := bF BK441))
  go_ret
  exact ⟨er, bw HB⟩
 obtain rfl := oi H
 go_enter Try.func95, Try.ntmps95
 go_wp2_with (first | ((with_reducible refine gate_dst (N := 2) rfl ?_); (try (refine gate_guard (by rfl) ?_; dsimp only)); refine box_event ?hg (N := 2) ?hd (cs := #[.slice A0_0 l0_0.length c0_0]) (t := 32) ?hr ?_; (case hd => rfl); (case hg => rfl); (case hr => exact gs); intro gb441 hg w6 hbox hb; have BK441 := am (hbox); have GW441 := gw hg HB; replace HB := bs HB hb; clear hb hbox hg))
 go_ret
 exact ⟨er, bw HB⟩

def impl_opNames.f  : Option (List ByteArray) := some (([⟨#[]⟩, ⟨#[112, 117, 115, 104]⟩, ⟨#[108, 111, 97, 100]⟩, ⟨#[115, 116, 111, 114, 101]⟩, ⟨#[100, 117, 112]⟩, ⟨#[112, 111, 112]⟩, ⟨#[]⟩, ⟨#[]⟩, ⟨#[]⟩, ⟨#[]⟩, ⟨#[97, 100, 100]⟩, ⟨#[115, 117, 98]⟩, ⟨#[109, 117, 108]⟩, ⟨#[100, 105, 118]⟩, ⟨#[114, 101, 109]⟩, ⟨#[97, 110, 100]⟩, ⟨#[111, 114]⟩, ⟨#[120, 111, 114]⟩, ⟨#[115, 104, 108]⟩, ⟨#[115, 104, 114]⟩, ⟨#[117, 115, 104, 114]⟩, ⟨#[108, 101, 115, 115]⟩, ⟨#[97, 116, 109, 111, 115, 116]⟩, ⟨#[115, 97, 109, 101]⟩, ⟨#[110, 101, 103]⟩, ⟨#[110, 111, 116]⟩, ⟨#[98, 121, 116, 101]⟩, ⟨#[115, 104, 111, 114, 116]⟩, ⟨#[105, 110, 116]⟩, ⟨#[119, 111, 114, 100]⟩, ⟨#[106, 117, 109, 112]⟩, ⟨#[106, 122]⟩, ⟨#[99, 97, 108, 108]⟩, ⟨#[114, 101, 116]⟩, ⟨#[110, 101, 119]⟩, ⟨#[103, 101, 116]⟩, ⟨#[115, 101, 116]⟩, ⟨#[108, 101, 110]⟩, ⟨#[111, 117, 116]⟩] : List ByteArray))
theorem impl_opNames.calls  (r : List ByteArray) (w : World) (h : impl_opNames.f  = some r) :
  Calls Try.prog 163 #[] w fun e w' => ∃ v0_ : Value, e = .returned (v0_) ∧ Kd.R Kd.string 9 w' w.heap.size (fun _ => True) v0_ r ∧ Below w.heap.size w w' := by
 have HB := am (Below.refl w.heap.size w)
 have H : (some (([⟨#[]⟩, ⟨#[112, 117, 115, 104]⟩, ⟨#[108, 111, 97, 100]⟩, ⟨#[115, 116, 111, 114, 101]⟩, ⟨#[100, 117, 112]⟩, ⟨#[112, 111, 112]⟩, ⟨#[]⟩, ⟨#[]⟩, ⟨#[]⟩, ⟨#[]⟩, ⟨#[97, 100, 100]⟩, ⟨#[115, 117, 98]⟩, ⟨#[109, 117, 108]⟩, ⟨#[100, 105, 118]⟩, ⟨#[114, 101, 109]⟩, ⟨#[97, 110, 100]⟩, ⟨#[111, 114]⟩, ⟨#[120, 111, 114]⟩, ⟨#[115, 104, 108]⟩, ⟨#[115, 104, 114]⟩, ⟨#[117, 115, 104, 114]⟩, ⟨#[108, 101, 115, 115]⟩, ⟨#[97, 116, 109, 111, 115, 116]⟩, ⟨#[115, 97, 109, 101]⟩, ⟨#[110, 101, 103]⟩, ⟨#[110, 111, 116]⟩, ⟨#[98, 121, 116, 101]⟩, ⟨#[115, 104, 111, 114, 116]⟩, ⟨#[105, 110, 116]⟩, ⟨#[119, 111, 114, 100]⟩, ⟨#[106, 117, 109, 112]⟩, ⟨#[106, 122]⟩, ⟨#[99, 97, 108, 108]⟩, ⟨#[114, 101, 116]⟩, ⟨#[110, 101, 119]⟩, ⟨#[103, 101, 116]⟩, ⟨#[115, 101, 116]⟩, ⟨#[108, 101, 110]⟩, ⟨#[111, 117, 116]⟩] : List ByteArray))) = some r := h
 clear h
 obtain ⟨y442, hy442⟩ : ∃ y_ : List ByteArray, y_ = (([⟨#[]⟩, ⟨#[112, 117, 115, 104]⟩, ⟨#[108, 111, 97, 100]⟩, ⟨#[115, 116, 111, 114, 101]⟩, ⟨#[100, 117, 112]⟩, ⟨#[112, 111, 112]⟩, ⟨#[]⟩, ⟨#[]⟩, ⟨#[]⟩, ⟨#[]⟩, ⟨#[97, 100, 100]⟩, ⟨#[115, 117, 98]⟩, ⟨#[109, 117, 108]⟩, ⟨#[100, 105, 118]⟩, ⟨#[114, 101, 109]⟩, ⟨#[97, 110, 100]⟩, ⟨#[111, 114]⟩, ⟨#[120, 111, 114]⟩, ⟨#[115, 104, 108]⟩, ⟨#[115, 104, 114]⟩, ⟨#[117, 115, 104, 114]⟩, ⟨#[108, 101, 115, 115]⟩, ⟨#[97, 116, 109, 111, 115, 116]⟩, ⟨#[115, 97, 109, 101]⟩, ⟨#[110, 101, 103]⟩, ⟨#[110, 111, 116]⟩, ⟨#[98, 121, 116, 101]⟩, ⟨#[115, 104, 111, 114, 116]⟩, ⟨#[105, 110, 116]⟩, ⟨#[119, 111, 114, 100]⟩, ⟨#[106, 117, 109, 112]⟩, ⟨#[106, 122]⟩, ⟨#[99, 97, 108, 108]⟩, ⟨#[114, 101, 116]⟩, ⟨#[110, 101, 119]⟩, ⟨#[103, 101, 116]⟩, ⟨#[115, 101, 116]⟩, ⟨#[108, 101, 110]⟩, ⟨#[111, 117, 116]⟩] : List ByteArray)) := ⟨_, rfl⟩
 replace H : (some y442) = some r := cg hy442 H
 have Ny442 := am hy442
 clear hy442
 obtain rfl := oi H
 go_enter Try.func163, Try.ntmps163
 go_wp2_with (first | ((with_reducible refine gate_dst (N := 1) rfl ?_); refine Kd.R_lit Kd.string _ 9 ?hg (N := 1) ?hd (xs := ([⟨#[]⟩, ⟨#[112, 117, 115, 104]⟩, ⟨#[108, 111, 97, 100]⟩, ⟨#[115, 116, 111, 114, 101]⟩, ⟨#[100, 117, 112]⟩, ⟨#[112, 111, 112]⟩, ⟨#[]⟩, ⟨#[]⟩, ⟨#[]⟩, ⟨#[]⟩, ⟨#[97, 100, 100]⟩, ⟨#[115, 117, 98]⟩, ⟨#[109, 117, 108]⟩, ⟨#[100, 105, 118]⟩, ⟨#[114, 101, 109]⟩, ⟨#[97, 110, 100]⟩, ⟨#[111, 114]⟩, ⟨#[120, 111, 114]⟩, ⟨#[115, 104, 108]⟩, ⟨#[115, 104, 114]⟩, ⟨#[117, 115, 104, 114]⟩, ⟨#[108, 101, 115, 115]⟩, ⟨#[97, 116, 109, 111, 115, 116]⟩, ⟨#[115, 97, 109, 101]⟩, ⟨#[110, 101, 103]⟩, ⟨#[110, 111, 116]⟩, ⟨#[98, 121, 116, 101]⟩, ⟨#[115, 104, 111, 114, 116]⟩, ⟨#[105, 110, 116]⟩, ⟨#[119, 111, 114, 100]⟩, ⟨#[106, 117, 109, 112]⟩, ⟨#[106, 122]⟩, ⟨#[99, 97, 108, 108]⟩, ⟨#[114, 101, 116]⟩, ⟨#[110, 101, 119]⟩, ⟨#[103, 101, 116]⟩, ⟨#[115, 101, 116]⟩, ⟨#[108, 101, 110]⟩, ⟨#[111, 117, 116]⟩] : List ByteArray)) (inner := [.string (⟨#[]⟩ : ByteArray), .string (⟨#[112, 117, 115, 104]⟩ : ByteArray), .string (⟨#[108, 111, 97, 100]⟩ : ByteArray), .string (⟨#[115, 116, 111, 114, 101]⟩ : ByteArray), .string (⟨#[100, 117, 112]⟩ : ByteArray), .string (⟨#[112, 111, 112]⟩ : ByteArray), .string (⟨#[]⟩ : ByteArray), .string (⟨#[]⟩ : ByteArray), .string (⟨#[]⟩ : ByteArray), .string (⟨#[]⟩ : ByteArray), .string (⟨#[97, 100, 100]⟩ : ByteArray), .string (⟨#[115, 117, 98]⟩ : ByteArray), .string (⟨#[109, 117, 108]⟩ : ByteArray), .string (⟨#[100, 105, 118]⟩ : ByteArray), .string (⟨#[114, 101, 109]⟩ : ByteArray), .string (⟨#[97, 110, 100]⟩ : ByteArray), .string (⟨#[111, 114]⟩ : ByteArray), .string (⟨#[120, 111, 114]⟩ : ByteArray), .string (⟨#[115, 104, 108]⟩ : ByteArray), .string (⟨#[115, 104, 114]⟩ : ByteArray), .string (⟨#[117, 115, 104, 114]⟩ : ByteArray), .string (⟨#[108, 101, 115, 115]⟩ : ByteArray), .string (⟨#[97, 116, 109, 111, 115, 116]⟩ : ByteArray), .string (⟨#[115, 97, 109, 101]⟩ : ByteArray), .string (⟨#[110, 101, 103]⟩ : ByteArray), .string (⟨#[110, 111, 116]⟩ : ByteArray), .string (⟨#[98, 121, 116, 101]⟩ : ByteArray), .string (⟨#[115, 104, 111, 114, 116]⟩ : ByteArray), .string (⟨#[105, 110, 116]⟩ : ByteArray), .string (⟨#[119, 111, 114, 100]⟩ : ByteArray), .string (⟨#[106, 117, 109, 112]⟩ : ByteArray), .string (⟨#[106, 122]⟩ : ByteArray), .string (⟨#[99, 97, 108, 108]⟩ : ByteArray), .string (⟨#[114, 101, 116]⟩ : ByteArray), .string (⟨#[110, 101, 119]⟩ : ByteArray), .string (⟨#[103, 101, 116]⟩ : ByteArray), .string (⟨#[115, 101, 116]⟩ : ByteArray), .string (⟨#[108, 101, 110]⟩ : ByteArray), .string (⟨#[111, 117, 116]⟩ : ByteArray)]) (ok := fun _ => True) (okp := fun _ => True) ?hr ?hp (fun _ hk => hk) trivial (Below.refl _ _) (Nat.le_refl _) (by simp) ?_; (case hd => rfl); (case hg => rfl); (case hr => exact gs); (case hp => exact (Reps.one (show Kd.M Kd.string _ _ _ (⟨#[]⟩ : ByteArray) [.string (⟨#[]⟩ : ByteArray)] from rfl) (Reps.one (show Kd.M Kd.string _ _ _ (⟨#[112, 117, 115, 104]⟩ : ByteArray) [.string (⟨#[112, 117, 115, 104]⟩ : ByteArray)] from rfl) (Reps.one (show Kd.M Kd.string _ _ _ (⟨#[108, 111, 97, 100]⟩ : ByteArray) [.string (⟨#[108, 111, 97, 100]⟩ : ByteArray)] from rfl) (Reps.one (show Kd.M Kd.string _ _ _ (⟨#[115, 116, 111, 114, 101]⟩ : ByteArray) [.string (⟨#[115, 116, 111, 114, 101]⟩ : ByteArray)] from rfl) (Reps.one (show Kd.M Kd.string _ _ _ (⟨#[100, 117, 112]⟩ : ByteArray) [.string (⟨#[100, 117, 112]⟩ : ByteArray)] from rfl) (Reps.one (show Kd.M Kd.string _ _ _ (⟨#[112, 111, 112]⟩ : ByteArray) [.string (⟨#[112, 111, 112]⟩ : ByteArray)] from rfl) (Reps.one (show Kd.M Kd.string _ _ _ (⟨#[]⟩ : ByteArray) [.string (⟨#[]⟩ : ByteArray)] from rfl) (Reps.one (show Kd.M Kd.string _ _ _ (⟨#[]⟩ : ByteArray) [.string (⟨#[]⟩ : ByteArray)] from rfl) (Reps.one (show Kd.M Kd.string _ _ _ (⟨#[]⟩ : ByteArray) [.string (⟨#[]⟩ : ByteArray)] from rfl) (Reps.one (show Kd.M Kd.string _ _ _ (⟨#[]⟩ : ByteArray) [.string (⟨#[]⟩ : ByteArray)] from rfl) (Reps.one (show Kd.M Kd.string _ _ _ (⟨#[97, 100, 100]⟩ : ByteArray) [.string (⟨#[97, 100, 100]⟩ : ByteArray)] from rfl) (Reps.one (show Kd.M Kd.string _ _ _ (⟨#[115, 117, 98]⟩ : ByteArray) [.string (⟨#[115, 117, 98]⟩ : ByteArray)] from rfl) (Reps.one (show Kd.M Kd.string _ _ _ (⟨#[109, 117, 108]⟩ : ByteArray) [.string (⟨#[109, 117, 108]⟩ : ByteArray)] from rfl) (Reps.one (show Kd.M Kd.string _ _ _ (⟨#[100, 105, 118]⟩ : ByteArray) [.string (⟨#[100, 105, 118]⟩ : ByteArray)] from rfl) (Reps.one (show Kd.M Kd.string _ _ _ (⟨#[114, 101, 109]⟩ : ByteArray) [.string (⟨#[114, 101, 109]⟩ : ByteArray)] from rfl) (Reps.one (show Kd.M Kd.string _ _ _ (⟨#[97, 110, 100]⟩ : ByteArray) [.string (⟨#[97, 110, 100]⟩ : ByteArray)] from rfl) (Reps.one (show Kd.M Kd.string _ _ _ (⟨#[111, 114]⟩ : ByteArray) [.string (⟨#[111, 114]⟩ : ByteArray)] from rfl) (Reps.one (show Kd.M Kd.string _ _ _ (⟨#[120, 111, 114]⟩ : ByteArray) [.string (⟨#[120, 111, 114]⟩ : ByteArray)] from rfl) (Reps.one (show Kd.M Kd.string _ _ _ (⟨#[115, 104, 108]⟩ : ByteArray) [.string (⟨#[115, 104, 108]⟩ : ByteArray)] from rfl) (Reps.one (show Kd.M Kd.string _ _ _ (⟨#[115, 104, 114]⟩ : ByteArray) [.string (⟨#[115, 104, 114]⟩ : ByteArray)] from rfl) (Reps.one (show Kd.M Kd.string _ _ _ (⟨#[117, 115, 104, 114]⟩ : ByteArray) [.string (⟨#[117, 115, 104, 114]⟩ : ByteArray)] from rfl) (Reps.one (show Kd.M Kd.string _ _ _ (⟨#[108, 101, 115, 115]⟩ : ByteArray) [.string (⟨#[108, 101, 115, 115]⟩ : ByteArray)] from rfl) (Reps.one (show Kd.M Kd.string _ _ _ (⟨#[97, 116, 109, 111, 115, 116]⟩ : ByteArray) [.string (⟨#[97, 116, 109, 111, 115, 116]⟩ : ByteArray)] from rfl) (Reps.one (show Kd.M Kd.string _ _ _ (⟨#[115, 97, 109, 101]⟩ : ByteArray) [.string (⟨#[115, 97, 109, 101]⟩ : ByteArray)] from rfl) (Reps.one (show Kd.M Kd.string _ _ _ (⟨#[110, 101, 103]⟩ : ByteArray) [.string (⟨#[110, 101, 103]⟩ : ByteArray)] from rfl) (Reps.one (show Kd.M Kd.string _ _ _ (⟨#[110, 111, 116]⟩ : ByteArray) [.string (⟨#[110, 111, 116]⟩ : ByteArray)] from rfl) (Reps.one (show Kd.M Kd.string _ _ _ (⟨#[98, 121, 116, 101]⟩ : ByteArray) [.string (⟨#[98, 121, 116, 101]⟩ : ByteArray)] from rfl) (Reps.one (show Kd.M Kd.string _ _ _ (⟨#[115, 104, 111, 114, 116]⟩ : ByteArray) [.string (⟨#[115, 104, 111, 114, 116]⟩ : ByteArray)] from rfl) (Reps.one (show Kd.M Kd.string _ _ _ (⟨#[105, 110, 116]⟩ : ByteArray) [.string (⟨#[105, 110, 116]⟩ : ByteArray)] from rfl) (Reps.one (show Kd.M Kd.string _ _ _ (⟨#[119, 111, 114, 100]⟩ : ByteArray) [.string (⟨#[119, 111, 114, 100]⟩ : ByteArray)] from rfl) (Reps.one (show Kd.M Kd.string _ _ _ (⟨#[106, 117, 109, 112]⟩ : ByteArray) [.string (⟨#[106, 117, 109, 112]⟩ : ByteArray)] from rfl) (Reps.one (show Kd.M Kd.string _ _ _ (⟨#[106, 122]⟩ : ByteArray) [.string (⟨#[106, 122]⟩ : ByteArray)] from rfl) (Reps.one (show Kd.M Kd.string _ _ _ (⟨#[99, 97, 108, 108]⟩ : ByteArray) [.string (⟨#[99, 97, 108, 108]⟩ : ByteArray)] from rfl) (Reps.one (show Kd.M Kd.string _ _ _ (⟨#[114, 101, 116]⟩ : ByteArray) [.string (⟨#[114, 101, 116]⟩ : ByteArray)] from rfl) (Reps.one (show Kd.M Kd.string _ _ _ (⟨#[110, 101, 119]⟩ : ByteArray) [.string (⟨#[110, 101, 119]⟩ : ByteArray)] from rfl) (Reps.one (show Kd.M Kd.string _ _ _ (⟨#[103, 101, 116]⟩ : ByteArray) [.string (⟨#[103, 101, 116]⟩ : ByteArray)] from rfl) (Reps.one (show Kd.M Kd.string _ _ _ (⟨#[115, 101, 116]⟩ : ByteArray) [.string (⟨#[115, 101, 116]⟩ : ByteArray)] from rfl) (Reps.one (show Kd.M Kd.string _ _ _ (⟨#[108, 101, 110]⟩ : ByteArray) [.string (⟨#[108, 101, 110]⟩ : ByteArray)] from rfl) (Reps.one (show Kd.M Kd.string _ _ _ (⟨#[111, 117, 116]⟩ : ByteArray) [.string (⟨#[111, 117, 116]⟩ : ByteArray)] from rfl) (Reps.none _ _))))))))))))))))))))))))))))))))))))))))); intro v443 w1 ho2 hb hg_ hnew_; clear hg_ hnew_; (first | rw [← Ny442.out] at ho2 | (simp only [Int.reduceToNat] at ho2; rw [← Ny442.out] at ho2)); have HO444 := am (Kd.R_lower ho2 (below_size (bw HB))); replace HB := bs HB hb; clear hb ho2))
 go_ret
 exact ⟨_, er, kR HO444, bw HB⟩

def impl_OpName.f (a0 : Int) : Option (ByteArray) := (impl_in.f a0 0 38).bind fun t445 => (if t445 = true then ((impl_opNames.f).bind fun t446 => (if 0 ≤ a0 then (if a0 < (t446.length : Int) then (some (rdOf ByteArray.empty t446 a0)) else (none)) else (none))) else (some (⟨#[]⟩ : ByteArray)))
theorem impl_OpName.calls (a0 : Int) (r : ByteArray) (w : World) (h : impl_OpName.f a0 = some r) :
  Calls Try.prog 159 #[.int .i64 a0] w fun e w' => e = .returned (.string r) ∧ Below w.heap.size w w' := by
 have HB := am (Below.refl w.heap.size w)
 have H : ((impl_in.f a0 0 38).bind fun t445 => (if t445 = true then ((impl_opNames.f).bind fun t446 => (if 0 ≤ a0 then (if a0 < (t446.length : Int) then (some (rdOf ByteArray.empty t446 a0)) else (none)) else (none))) else (some (⟨#[]⟩ : ByteArray)))) = some r := h
 clear h
 refine be H ?_; clear H; intro t445 A2 H
 have HC3 := am H
 clear H
 go_enter Try.func159, Try.ntmps159
 go_upto_if 5 with (first | ((with_reducible refine gate_callee (f := 113) rfl ?_); refine goesL_ (some 4) rfl rfl Try.func113 (by kernel_rfl) rfl #[.int .i64 a0, .int .i64 0, .int .i64 38] rfl gl ?_; (with_reducible refine (impl_in.calls a0 0 38 t445 _ A2.out).mono ?_); rintro e w' ⟨rfl, ⟨nd, rfl⟩⟩; refine ⟨_, rfl, ?_⟩))
 (try simp only [Act.put, sa, sz, ss])
 (try simp only [World.drewN_drewN])
 generalize hq_ : World.drewN w _ = w4
 replace HB : Aside0 (Below w.heap.size w w4) := ⟨by rw [← hq_]; exact (bw HB)⟩
 clear hq_
 have H := HC3.out
 clear HC3
 refine qT H ?_ ?_ <;> clear H <;> intro c5 H <;> subst c5
 ·refine be H ?_; clear H; intro t446 A6 H
  refine iM H ?_; clear H; intro c7b0 H
  (first | rw [c7b0] | (simp only [i64_w, i32_w]; rw [c7b0]) | skip)
  refine iM H ?_; clear H; intro c8b0 H
  obtain rfl := oi H
  go_wp2_with (first | ((with_reducible refine gate_callee (f := 163) rfl ?_); refine goesL_ (some 6) rfl rfl Try.func163 (by kernel_rfl) rfl #[] rfl gl ?_; (with_reducible refine (impl_opNames.calls  t446 _ A6.out).mono ?_); rintro e w9 ⟨v447, rfl, ho0, hb⟩; refine ⟨_, rfl, ?_⟩; have HO448 := am (Kd.R_lower ho0 (below_size (bw HB))); replace HB := bs HB hb; clear hb; obtain ⟨Ao10, co10, eo10⟩ := Kd.R_slice HO448.out; subst eo10; have p449 : 0 ≤ (a0 : Int) := dt; have q449 : a0 < (t446.length : Int) := dt; obtain ⟨ad449, e449, hx449_0⟩ := Kd.at_string (Kd.R_reads' HO448.out).2.2 a0 p449 q449; cases e449; replace p449 := eq_true p449; replace q449 := eq_true q449))
  go_ret
  exact ⟨er, bw HB⟩
 obtain rfl := oi H
 go_wp2
 go_ret
 exact ⟨er, bw HB⟩

end Go.Proofs.Ytkhpiicijkhpkaa.QFnExactAsmBytes
