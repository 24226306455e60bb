import Derived.Test.YticdldoijkdffaaCFnExactMixToldx0
import Derived.Test.YticdldoijkdffaaCFnExactMixToldx4
namespace Go.Proofs.Yticdldoijkdffaa.QFnExactMixTold
open Go.RowKit Go.Proofs.YticdldoijkdffaaW
open PrintWords PrintLast PrintMore PrintShort PrintIsh
attribute [local go_sem] max2_int min2_int max_two min_two max_three min_three max_four min_four   -- for this text's walks alone
set_option linter.unusedVariables false
set_option maxHeartbeats 8000000
set_option maxRecDepth 100000
set_option linter.unusedSimpArgs false

def laws_toMixFrameS.l0 : Nat → List (S69) → List (S75) → Int → Option ((List (S75)))
 | 0, _, _, _ => none
 | k + 1, x0, x3, x4 => if x4 < (x0.length : Int) then (if 0 ≤ x4 then ((laws_toMixFrame.f k ((rd_T69 x0 x4).f0) ((rd_T69 x0 x4).f1) ((rd_T69 x0 x4).f2) ((rd_T69 x0 x4).f3) ((rd_T69 x0 x4).f4) ((rd_T69 x0 x4).f5)).bind fun bt241 => (if x4 < (x3.length : Int) then (laws_toMixFrameS.l0 k x0 (x3.set (x4 : Int).toNat (⟨bt241.1, bt241.2.1, bt241.2.2.1, bt241.2.2.2.1, bt241.2.2.2.2.1, bt241.2.2.2.2.2⟩ : S75)) (wrap64 (x4 + 1))) else (none))) else (none)) else (some x3)
def laws_toMixFrameS.f (k : Nat) (l0 : List (S69)) : Option ((List (S75))) := if 0 ≤ (l0.length : Int) then (if ((l0.length : Int) : Int).toNat ≤ 2932031007402 then (laws_toMixFrameS.l0 k l0 (List.replicate ((l0.length : Int) : Int).toNat z75) 0) else (none)) else (none)
theorem laws_toMixFrameS.mono_l : ∀ k, (∀ y0 y1 y2, LeO (laws_toMixFrameS.l0 k y0 y1 y2) (laws_toMixFrameS.l0 (k + 1) y0 y1 y2))
 | 0 => fun _ _ _ r h => by simp [laws_toMixFrameS.l0] at h
 | k + 1 => by
  have ih0 := laws_toMixFrameS.mono_l k
  ·intro y0 y1 y2
   unfold laws_toMixFrameS.l0
   with_reducible repeat' first | exact ih0 .. | exact laws_toMixFrame.mono .. | exact LeO.refl _ | exact LeO.none _ | refine LeO.ite ?_ ?_ | refine LeO.bind ?_ (fun _ => ?_)
theorem laws_toMixFrameS.mono : ∀ a0 k, LeO (laws_toMixFrameS.f k a0) (laws_toMixFrameS.f (k + 1) a0) := by
 intro a0 k
 have ih0 := laws_toMixFrameS.mono_l k
 unfold laws_toMixFrameS.f
 with_reducible repeat' first | exact ih0 .. | exact laws_toMixFrame.mono .. | exact LeO.refl _ | exact LeO.none _ | refine LeO.ite ?_ ?_ | refine LeO.bind ?_ (fun _ => ?_)
theorem laws_toMixFrameS.calls (k : Nat) (A0 : Option Addr) (c0 : Nat) (l0 : List (S69)) (r : List (S75)) (w : World) (hr0 : Kd.C k69 w A0 l0.length l0) (hc0 : l0.length ≤ c0) (h : laws_toMixFrameS.f k l0 = some r) :
  Calls Try.prog 19 #[.slice A0 l0.length c0] w fun e w' => ∃ v0_ : Value, e = .returned (v0_) ∧ Kd.S k75 75 w' w.heap.size (fun _ => True) v0_ r ∧ Below w.heap.size w w' := by
 have hu69 := Try.underlying69
 have hu75 := Try.underlying75
 have HR0 := am hr0
 have HC0 := am hc0
 clear hr0 hc0
 have HB := am (Below.refl w.heap.size w)
 have H : (if 0 ≤ (l0.length : Int) then (if ((l0.length : Int) : Int).toNat ≤ 2932031007402 then (laws_toMixFrameS.l0 k l0 (List.replicate ((l0.length : Int) : Int).toNat z75) 0) else (none)) else (none)) = some r := h
 clear h
 refine iN H ?_; clear H; intro c2 H
 have c2b0 := eq_true c2
 have c2b1 := decide_eq_true c2
 clear c2
 refine iN H ?_; clear H; intro c3 H
 have c3b0 := eq_true c3
 have c3b1 := decide_eq_true c3
 clear c3
 obtain ⟨y237, hy237⟩ : ∃ y_ : List (S75), y_ = (List.replicate ((l0.length : Int) : Int).toNat z75) := ⟨_, rfl⟩
 replace H : (laws_toMixFrameS.l0 k l0 y237 0) = some r := by first | (rw [hy237]; with_reducible exact H) | (have H2_ := (Option.bind_some _ _).symm.trans H; rw [hy237]; with_reducible exact H2_) | (have H2_ := (Option.bind_some _ _).symm.trans H; with_reducible exact H2_) | with_reducible exact H | (rw [hy237]; exact H) | exact H
 have Ny237 := am hy237
 clear hy237
 have H' := am H
 clear H
 go_enter Try.func19, Try.ntmps19
 go_wp2_with (first | ((with_reducible refine gate_dst (N := 7) rfl ?_); refine Kd.S_make k75 _ 75 rfl (N := 7) rfl 34 _ _ rfl (l0.length : Int) rfl rfl Try.underlying34 (.agg #[(.bool false), (.int .i64 0), (.int .i64 0), (.slice none 0 0), (.slice none 0 0), (.slice none 0 0)]) 96 info75 rfl (by decide) (by omega) z75 (ok := fun _ => True) (okp := fun _ => True) (k75_mkM _ _ _ z75 (Kd.R_nil _ _ _ _ _) (Kd.R_nil _ _ _ _ _) (Kd.R_nil _ _ _ _ _)) (fun _ hk => hk) trivial (of_decide_eq_true as1) (Nat.le_trans (Nat.mul_le_mul_right _ (of_decide_eq_true as1 : (l0.length : Int).toNat ≤ 2932031007402)) (by omega)) (Below.refl _ _) (Nat.le_refl _) ?_; intro v238 w4 ho5 hb hg_ hnew_; clear hg_ hnew_; (first | rw [← Ny237.out] at ho5 | (simp only [Int.reduceToNat] at ho5; rw [← Ny237.out] at ho5)); have HO239 := am (Kd.S_lower ho5 (below_size (bw HB))); replace HB := bs HB hb; clear hb ho5))
 go_loopg [4] k (fun kq v4 w' => ∃ (x3_1 : List (S75)) (x4_1 : Int), v4 = .int .i64 x4_1 ∧ Aside0 (laws_toMixFrameS.l0 kq l0 x3_1 x4_1 = some r) ∧ Aside0 (kq ≤ k) ∧ Aside0 (Kd.S k75 75 w' w.heap.size (fun _ => True) v238 x3_1) ∧ Aside0 (Below w.heap.size w w'))
 case atStart => exact ⟨(y237), (0), dr, H', ⟨Nat.le_refl _⟩, ⟨kS HO239⟩, ⟨bw HB⟩⟩
 clear H'
 (try clear c1); (try clear c2); (try clear c2b0); (try clear c2b1); (try clear p2); (try clear c3); (try clear c3b0); (try clear c3b1)
 obtain ⟨x3_1, x4_1, rfl, HA, HK1, HO_3, HB⟩ := hrel
 rcases gk with _ | k1
 ·exact absurd HA.out (by simp [laws_toMixFrameS.l0])
 have H := HA.out
 clear HA
 simp only [laws_toMixFrameS.l0] at H
 refine qI H ?_ ?_ <;> clear H <;> intro c6b0 H
 ·refine iM H ?_; clear H; intro c7b0 H
  replace H := Option.bind_eq_some_iff.mp H
  obtain ⟨⟨t241, t242, t243, t244, t247, t250⟩, A80, H⟩ := H
  replace H : (if x4_1 < (x3_1.length : Int) then (laws_toMixFrameS.l0 k1 l0 (x3_1.set (x4_1 : Int).toNat (⟨t241, t242, t243, t244, t247, t250⟩ : S75)) (wrap64 (x4_1 + 1))) else (none)) = some r := H
  have A8 := am A80
  clear A80
  refine iM H ?_; clear H; intro c9b0 H
  obtain ⟨y253, hy253⟩ : ∃ y_ : List (S75), y_ = (x3_1.set (x4_1 : Int).toNat (⟨t241, t242, t243, t244, t247, t250⟩ : S75)) := ⟨_, rfl⟩
  replace H : (laws_toMixFrameS.l0 k1 l0 y253 (wrap64 (x4_1 + 1))) = some r := by first | (rw [hy253]; with_reducible exact H) | (have H2_ := (Option.bind_some _ _).symm.trans H; rw [hy253]; with_reducible exact H2_) | (have H2_ := (Option.bind_some _ _).symm.trans H; with_reducible exact H2_) | with_reducible exact H | (rw [hy253]; exact H) | exact H
  have Ny253 := am hy253
  clear hy253
  have H' := am H
  clear H
  have p240 : 0 ≤ (x4_1 : Int) := of_decide_eq_true as1
  have q240 : x4_1 < (l0.length : Int) := of_decide_eq_true as1
  obtain ⟨ad240, A240_3, c240_3, A240_4, c240_4, A240_5, c240_5, e240, hx240_0, hx240_1, hx240_2, hx240_3, hx240_4, hx240_5, hl240_3, hi240_3, hl240_4, hi240_4, hl240_5, hi240_5⟩ := at_T69 HR0.out x4_1 p240 q240
  cases e240
  replace hx240_0 := cl HB hx240_0
  replace hx240_1 := cl HB hx240_1
  replace hx240_2 := cl HB hx240_2
  replace hx240_3 := cl HB hx240_3
  replace hx240_4 := cl HB hx240_4
  replace hx240_5 := cl HB hx240_5
  have HR240_3 := am hi240_3
  have HC240_3 := am hl240_3
  clear hi240_3 hl240_3
  have HR240_4 := am hi240_4
  have HC240_4 := am hl240_4
  clear hi240_4 hl240_4
  have HR240_5 := am hi240_5
  have HC240_5 := am hl240_5
  clear hi240_5 hl240_5
  replace p240 := eq_true p240
  replace q240 := eq_true q240
  go_wp2_with (first | ((with_reducible refine gk 39 rfl ?_); refine gC 39 (some 20) Try.func39 #[.agg #[.bool ((rd_T69 l0 x4_1).f0), .int .i64 ((rd_T69 l0 x4_1).f1), .int .i64 ((rd_T69 l0 x4_1).f2), .slice A240_3 ((rd_T69 l0 x4_1).f3).length c240_3, .slice A240_4 ((rd_T69 l0 x4_1).f4).length c240_4, .slice A240_5 ((rd_T69 l0 x4_1).f5).length c240_5]] ((laws_toMixFrame.calls k1 ((rd_T69 l0 x4_1).f0) ((rd_T69 l0 x4_1).f1) ((rd_T69 l0 x4_1).f2) _ _ ((rd_T69 l0 x4_1).f3) _ _ ((rd_T69 l0 x4_1).f4) _ _ ((rd_T69 l0 x4_1).f5) t241 t242 t243 t244 t247 t250 _ (cc (Kd.C_below HR240_3.out HB.out)) HC240_3.out (cc (Kd.C_below HR240_4.out HB.out)) HC240_4.out (cc (Kd.C_below HR240_5.out HB.out)) HC240_5.out A8.out).mono ?_); rintro e w11 ⟨v245, v248, v251, rfl, ho0, ho1, ho2, hb⟩; refine ⟨_, rfl, ?_⟩; replace HO_3 := am (Kd.S_mono (Kd.S_told (Kd.S_told (Kd.S_told (Kd.S_old (kS HO_3) hb) (Kd.R_base ho0)) (Kd.R_base ho1)) (Kd.R_base ho2)) (fun _ h_ => h_.1)); have HO246 := am (Kd.R_lower ho0 (below_size (bw HB))); have HO249 := am (Kd.R_lower ho1 (below_size (bw HB))); have HO252 := am (Kd.R_lower ho2 (below_size (bw HB))); replace HB := bs HB hb; clear hb; (try clear ho0); (try clear ho1); (try clear ho2); have p10 : 0 ≤ (x4_1 : Int) := of_decide_eq_true as1; have q10 : (x4_1 : Int) < ((x3_1.length : Int) : Int) := of_decide_eq_true as1; obtain ⟨go10, co10, eo10, gb10, gl10, cl10, HG10⟩ := Kd.S_form HO_3.out (by omega); (first | cases eo10 | (injection eo10 with ea_ en_ ec_; (first | subst ea_ | (injection ea_ with ea_; subst ea_)); subst ec_; clear en_)); have GB10 := am gb10; have GG10 := am HG10; clear gb10 gl10 HG10; obtain ⟨_, ce10, hcl10, hM10, hcc10, hfr10, _, _⟩ := Kd.S_elem HO_3.out z75 (x4_1 : Int) p10 q10; obtain ⟨ve10_3, ve10_4, ve10_5, rfl, ge10_3, ge10_4, ge10_5⟩ := k75_openM hM10; have hx10_0 : w11.cell? ⟨go10, (x4_1 : Int).toNat * 6, none⟩ = some (.bool ((rd_T75 x3_1 x4_1).f0)) := hcc10 0 _ rfl; have hx10_1 : w11.cell? ⟨go10, (x4_1 : Int).toNat * 6 + 1, none⟩ = some (.int .i64 ((rd_T75 x3_1 x4_1).f1)) := hcc10 1 _ rfl; have hx10_2 : w11.cell? ⟨go10, (x4_1 : Int).toNat * 6 + 2, none⟩ = some (.int .i64 ((rd_T75 x3_1 x4_1).f2)) := hcc10 2 _ rfl; have hx10_3 : w11.cell? ⟨go10, (x4_1 : Int).toNat * 6 + 3, none⟩ = some (ve10_3) := hcc10 3 _ rfl; have hx10_4 : w11.cell? ⟨go10, (x4_1 : Int).toNat * 6 + 4, none⟩ = some (ve10_4) := hcc10 4 _ rfl; have hx10_5 : w11.cell? ⟨go10, (x4_1 : Int).toNat * 6 + 5, none⟩ = some (ve10_5) := hcc10 5 _ rfl; have hf10_0 : w11.frozen? ⟨go10, (x4_1 : Int).toNat * 6, none⟩ = false := hfr10 0; have hf10_1 : w11.frozen? ⟨go10, (x4_1 : Int).toNat * 6 + 1, none⟩ = false := hfr10 1; have hf10_2 : w11.frozen? ⟨go10, (x4_1 : Int).toNat * 6 + 2, none⟩ = false := hfr10 2; have hf10_3 : w11.frozen? ⟨go10, (x4_1 : Int).toNat * 6 + 3, none⟩ = false := hfr10 3; have hf10_4 : w11.frozen? ⟨go10, (x4_1 : Int).toNat * 6 + 4, none⟩ = false := hfr10 4; have hf10_5 : w11.frozen? ⟨go10, (x4_1 : Int).toNat * 6 + 5, none⟩ = false := hfr10 5; (try clear hM10); (try clear hfr10); (try clear hcc10); (try clear hcl10); replace p10 := eq_true p10; replace q10 := eq_true q10; obtain ⟨Ao14, co14, eo14⟩ := Kd.R_slice HO246.out; subst eo14; obtain ⟨Ao15, co15, eo15⟩ := Kd.R_slice HO249.out; subst eo15; obtain ⟨Ao16, co16, eo16⟩ := Kd.R_slice HO252.out; subst eo16; have n_ := am (Kd.S_mono (ok' := (fun k_ => some k_ ≠ (.slice Ao14 t244.length co14 : Value).ownBlock ∧ some k_ ≠ (.slice Ao15 t247.length co15 : Value).ownBlock ∧ some k_ ≠ (.slice Ao16 t250.length co16 : Value).ownBlock)) HO_3.out (fun k_ hk => ⟨hk.1.1.2, ⟨hk.1.2, hk.2⟩⟩)); clear HO_3; have HO_3 := n_; clear n_; have HX12 := am (show Kd.S k75 75 w11 w.heap.size (fun k_ => ((fun _ => True)) k_ ∧ ¬ ((fun k_ => some k_ = (.slice Ao14 t244.length co14 : Value).ownBlock ∨ some k_ = (.slice Ao15 t247.length co15 : Value).ownBlock ∨ some k_ = (.slice Ao16 t250.length co16 : Value).ownBlock)) k_) (.slice (some ⟨go10, 0, none⟩) x3_1.length co10) x3_1 from (by (with_reducible repeat (first | apply Kd.S_alloc | apply Kd.S_drewN | apply Kd.S_drew)); exact Kd.S_mono HO_3.out (fun k_ hk => ⟨trivial, fun e_ => e_.elim (fun h_ => hk.1 h_) (fun h_ => h_.elim (fun h_ => hk.2.1 h_) (fun h_ => hk.2.2 h_))⟩))); obtain ⟨oki12, ce12, hcl12, hM12, hcc12, hfr12, hoki12, hH12⟩ := Kd.S_elem HX12.out z75 (x4_1 : Int) (of_decide_eq_true as1) (by have h_ : (x4_1 : Int) < ((x3_1.length : Int) : Int) := of_decide_eq_true as1; first | exact h_ | (have e_ := (Kd.S_reads' HO_3.out).1; omega) | simpa using h_); obtain ⟨ve12_3, ve12_4, ve12_5, rfl, ge12_3, ge12_4, ge12_5⟩ := k75_openM hM12; have HP12 := Kd.S_seg hH12 (of_decide_eq_true as1) (by have h_ : (x4_1 : Int) < ((x3_1.length : Int) : Int) := of_decide_eq_true as1; first | exact h_ | (have e_ := (Kd.S_reads' HO_3.out).1; omega) | simpa using h_) (seg := [.bool t241, .int .i64 t242, .int .i64 t243, .slice Ao14 t244.length co14, .slice Ao15 t247.length co15, .slice Ao16 t250.length co16]) (j := 0) (show 6 ≤ 6 from by decide) (x' := (⟨t241, t242, t243, t244, t247, t250⟩ : S75)) (k75_mkM _ _ _ (⟨t241, t242, t243, t244, t247, t250⟩ : S75) (Kd.R_mono (Kd.R_tight rfl (Kd.R_mono (ok' := fun k_ => ((fun _ => True)) k_ ∧ k_ ≠ go10) (Kd.R_apart' (HO246.out) (Kd.S_typed HO_3.out) (by decide)) (fun k_ hk => ⟨trivial, fun e_ => (hk.2) (by rw [e_]; rfl)⟩))) (fun _ h_ => Or.inr (Or.inl h_))) (Kd.R_mono (Kd.R_tight rfl (Kd.R_mono (ok' := fun k_ => ((fun _ => True)) k_ ∧ k_ ≠ go10) (Kd.R_apart' (HO249.out) (Kd.S_typed HO_3.out) (by decide)) (fun k_ hk => ⟨trivial, fun e_ => (hk.2) (by rw [e_]; rfl)⟩))) (fun _ h_ => Or.inr (Or.inr (Or.inl h_)))) (Kd.R_mono (Kd.R_tight rfl (Kd.R_mono (ok' := fun k_ => ((fun _ => True)) k_ ∧ k_ ≠ go10) (Kd.R_apart' (HO252.out) (Kd.S_typed HO_3.out) (by decide)) (fun k_ hk => ⟨trivial, fun e_ => (hk.2) (by rw [e_]; rfl)⟩))) (fun _ h_ => Or.inr (Or.inr (Or.inr (h_)))))) (fun _ hk => hk) (fun k_ hk_ => hk_.elim (fun h_ => ((Kd.R_mono (ok' := fun k_ => ((fun _ => True)) k_ ∧ k_ ≠ go10) (Kd.R_apart' (HO246.out) (Kd.S_typed HO_3.out) (by decide)) (fun k_ hk => ⟨trivial, fun e_ => (hk.2) (by rw [e_]; rfl)⟩))).1 k_ h_.symm) (fun h_ => h_.elim (fun h_ => ((Kd.R_mono (ok' := fun k_ => ((fun _ => True)) k_ ∧ k_ ≠ go10) (Kd.R_apart' (HO249.out) (Kd.S_typed HO_3.out) (by decide)) (fun k_ hk => ⟨trivial, fun e_ => (hk.2) (by rw [e_]; rfl)⟩))).1 k_ h_.symm) (fun h_ => ((Kd.R_mono (ok' := fun k_ => ((fun _ => True)) k_ ∧ k_ ≠ go10) (Kd.R_apart' (HO252.out) (Kd.S_typed HO_3.out) (by decide)) (fun k_ hk => ⟨trivial, fun e_ => (hk.2) (by rw [e_]; rfl)⟩))).1 k_ h_.symm))); have hx12_0 := hcc12 0 _ rfl; (try simp only [show (k75).sz = 6 from rfl, Nat.mul_one, Nat.add_zero] at hx12_0); have hf12_0 := hfr12 0; (try simp only [show (k75).sz = 6 from rfl, Nat.mul_one, Nat.add_zero] at hf12_0); have hx12_1 := hcc12 1 _ rfl; (try simp only [show (k75).sz = 6 from rfl, Nat.mul_one, Nat.add_zero] at hx12_1); have hf12_1 := hfr12 1; (try simp only [show (k75).sz = 6 from rfl, Nat.mul_one, Nat.add_zero] at hf12_1); have hx12_2 := hcc12 2 _ rfl; (try simp only [show (k75).sz = 6 from rfl, Nat.mul_one, Nat.add_zero] at hx12_2); have hf12_2 := hfr12 2; (try simp only [show (k75).sz = 6 from rfl, Nat.mul_one, Nat.add_zero] at hf12_2); have hx12_3 := hcc12 3 _ rfl; (try simp only [show (k75).sz = 6 from rfl, Nat.mul_one, Nat.add_zero] at hx12_3); have hf12_3 := hfr12 3; (try simp only [show (k75).sz = 6 from rfl, Nat.mul_one, Nat.add_zero] at hf12_3); have hx12_4 := hcc12 4 _ rfl; (try simp only [show (k75).sz = 6 from rfl, Nat.mul_one, Nat.add_zero] at hx12_4); have hf12_4 := hfr12 4; (try simp only [show (k75).sz = 6 from rfl, Nat.mul_one, Nat.add_zero] at hf12_4); have hx12_5 := hcc12 5 _ rfl; (try simp only [show (k75).sz = 6 from rfl, Nat.mul_one, Nat.add_zero] at hx12_5); have hf12_5 := hfr12 5; (try simp only [show (k75).sz = 6 from rfl, Nat.mul_one, Nat.add_zero] at hf12_5); (try clear hH12); (try clear hoki12); (try clear hM12); (try clear hfr12); (try clear hcc12); (try clear hcl12)) | ((with_reducible refine gt 75 21 rfl ?_); refine sE 75 21 ((((((w11.setCell ⟨go10, (x4_1 : Int).toNat * 6, none⟩ (.bool t241)).setCell ⟨go10, (x4_1 : Int).toNat * 6 + 1, none⟩ (.int .i64 t242)).setCell ⟨go10, (x4_1 : Int).toNat * 6 + 2, none⟩ (.int .i64 t243)).setCell ⟨go10, (x4_1 : Int).toNat * 6 + 3, none⟩ (.slice Ao14 t244.length co14)).setCell ⟨go10, (x4_1 : Int).toNat * 6 + 4, none⟩ (.slice Ao15 t247.length co15)).setCell ⟨go10, (x4_1 : Int).toNat * 6 + 5, none⟩ (.slice Ao16 t250.length co16)) ?_; intro w13 hw; have hg : w11.grownBy w13 (some go10) := (by rw [hw]; exact HP12.2); have hp_ : Kd.S k75 75 w13 w.heap.size (fun _ => True) (.slice (some ⟨go10, 0, none⟩) x3_1.length co10) y253 := (by rw [hw, Ny253.out]; exact HP12.1); clear HP12; replace HO_3 := am (hp_); replace HB := am ((by rw [hw]; exact below_set (below_set (below_set (below_set (below_set (below_set (HB.out) GB10.out) GB10.out) GB10.out) GB10.out) GB10.out) GB10.out : Below w.heap.size w w13)); clear HO246; clear HO249; clear HO252; clear hg hw hp_))
  go_roundg k1
  case measure => have := HK1.out; omega
  case rel => exact ⟨(y253), (wrap64 (x4_1 + 1)), dr, H', ⟨by have := HK1.out; omega⟩, ⟨kS HO_3⟩, ⟨bw HB⟩⟩
 obtain rfl := Option.some.inj H
 go_wp2
 go_ret
 exact ⟨_, er, kS HO_3, bw HB⟩

def laws_toInt64SS.l0 : Nat → List (List Int) → List (List Int) → Int → Option ((List (List Int)))
 | 0, _, _, _ => none
 | k + 1, x0, x3, x4 => if x4 < (x0.length : Int) then (if 0 ≤ x4 then ((laws_toInt64S.f k (rd_L10 x0 x4)).bind fun t258 => (if x4 < (x3.length : Int) then (laws_toInt64SS.l0 k x0 (x3.set (x4 : Int).toNat t258) (wrap64 (x4 + 1))) else (none))) else (none)) else (some x3)
def laws_toInt64SS.f (k : Nat) (l0 : List (List Int)) : Option ((List (List Int))) := if 0 ≤ (l0.length : Int) then (if ((l0.length : Int) : Int).toNat ≤ 11728124029610 then (laws_toInt64SS.l0 k l0 (List.replicate ((l0.length : Int) : Int).toNat []) 0) else (none)) else (none)
theorem laws_toInt64SS.mono_l : ∀ k, (∀ y0 y1 y2, LeO (laws_toInt64SS.l0 k y0 y1 y2) (laws_toInt64SS.l0 (k + 1) y0 y1 y2))
 | 0 => fun _ _ _ r h => by simp [laws_toInt64SS.l0] at h
 | k + 1 => by
  have ih0 := laws_toInt64SS.mono_l k
  ·intro y0 y1 y2
   unfold laws_toInt64SS.l0
   with_reducible repeat' first | exact ih0 .. | exact laws_toInt64S.mono .. | exact LeO.refl _ | exact LeO.none _ | refine LeO.ite ?_ ?_ | refine LeO.bind ?_ (fun _ => ?_)
theorem laws_toInt64SS.mono : ∀ a0 k, LeO (laws_toInt64SS.f k a0) (laws_toInt64SS.f (k + 1) a0) := by
 intro a0 k
 have ih0 := laws_toInt64SS.mono_l k
 unfold laws_toInt64SS.f
 with_reducible repeat' first | exact ih0 .. | exact laws_toInt64S.mono .. | exact LeO.refl _ | exact LeO.none _ | refine LeO.ite ?_ ?_ | refine LeO.bind ?_ (fun _ => ?_)
theorem laws_toInt64SS.calls (k : Nat) (A0 : Option Addr) (c0 : Nat) (l0 : List (List Int)) (r : List (List Int)) (w : World) (hr0 : Kd.C (Kd.slice 2 (Kd.int .i64)) w A0 l0.length l0) (hc0 : l0.length ≤ c0) (h : laws_toInt64SS.f k l0 = some r) :
  Calls Try.prog 20 #[.slice A0 l0.length c0] w fun e w' => ∃ v0_ : Value, e = .returned (v0_) ∧ Kd.S (Kd.slice 2 (Kd.int .i64)) 25 w' w.heap.size (fun _ => True) v0_ r ∧ Below w.heap.size w w' := by
 have HR0 := am hr0
 have HC0 := am hc0
 clear hr0 hc0
 have HB := am (Below.refl w.heap.size w)
 have H : (if 0 ≤ (l0.length : Int) then (if ((l0.length : Int) : Int).toNat ≤ 11728124029610 then (laws_toInt64SS.l0 k l0 (List.replicate ((l0.length : Int) : Int).toNat []) 0) else (none)) else (none)) = some r := h
 clear h
 refine iN H ?_; clear H; intro c2 H
 have c2b0 := eq_true c2
 have c2b1 := decide_eq_true c2
 clear c2
 refine iN H ?_; clear H; intro c3 H
 have c3b0 := eq_true c3
 have c3b1 := decide_eq_true c3
 clear c3
 obtain ⟨y254, hy254⟩ : ∃ y_ : List (List Int), y_ = (List.replicate ((l0.length : Int) : Int).toNat []) := ⟨_, rfl⟩
 replace H : (laws_toInt64SS.l0 k l0 y254 0) = some r := by first | (rw [hy254]; with_reducible exact H) | (have H2_ := (Option.bind_some _ _).symm.trans H; rw [hy254]; with_reducible exact H2_) | (have H2_ := (Option.bind_some _ _).symm.trans H; with_reducible exact H2_) | with_reducible exact H | (rw [hy254]; exact H) | exact H
 have Ny254 := am hy254
 clear hy254
 have H' := am H
 clear H
 go_enter Try.func20, Try.ntmps20
 go_wp2_with (first | ((with_reducible refine gate_dst (N := 7) rfl ?_); refine Kd.S_make (Kd.slice 2 (Kd.int .i64)) _ 25 rfl (N := 7) rfl 24 _ _ rfl (l0.length : Int) rfl rfl Try.underlying24 (.slice none 0 0) 24 info25 rfl (by decide) (by omega) [] (ok := fun _ => True) (okp := fun _ => True) ⟨_, rfl, Kd.R_nil _ _ _ _ _⟩ (fun _ hk => hk) trivial (of_decide_eq_true as1) (Nat.le_trans (Nat.mul_le_mul_right _ (of_decide_eq_true as1 : (l0.length : Int).toNat ≤ 11728124029610)) (by omega)) (Below.refl _ _) (Nat.le_refl _) ?_; intro v255 w4 ho5 hb hg_ hnew_; clear hg_ hnew_; (first | rw [← Ny254.out] at ho5 | (simp only [Int.reduceToNat] at ho5; rw [← Ny254.out] at ho5)); have HO256 := am (Kd.S_lower ho5 (below_size (bw HB))); replace HB := bs HB hb; clear hb ho5))
 go_loopg [4] k (fun kq v4 w' => ∃ (x3_1 : List (List Int)) (x4_1 : Int), v4 = .int .i64 x4_1 ∧ Aside0 (laws_toInt64SS.l0 kq l0 x3_1 x4_1 = some r) ∧ Aside0 (kq ≤ k) ∧ Aside0 (Kd.S (Kd.slice 2 (Kd.int .i64)) 25 w' w.heap.size (fun _ => True) v255 x3_1) ∧ Aside0 (Below w.heap.size w w'))
 case atStart => exact ⟨(y254), (0), dr, H', ⟨Nat.le_refl _⟩, ⟨kS HO256⟩, ⟨bw HB⟩⟩
 clear H'
 (try clear c2); (try clear c2b0); (try clear c2b1); (try clear p2); (try clear c3); (try clear c3b0); (try clear c3b1)
 obtain ⟨x3_1, x4_1, rfl, HA, HK1, HO_3, HB⟩ := hrel
 rcases gk with _ | k1
 ·exact absurd HA.out (by simp [laws_toInt64SS.l0])
 have H := HA.out
 clear HA
 simp only [laws_toInt64SS.l0] at H
 refine qI H ?_ ?_ <;> clear H <;> intro c6b0 H
 ·refine iM H ?_; clear H; intro c7b0 H
  refine be H ?_; clear H; intro t258 A8 H
  refine iM H ?_; clear H; intro c9b0 H
  obtain ⟨y261, hy261⟩ : ∃ y_ : List (List Int), y_ = (x3_1.set (x4_1 : Int).toNat t258) := ⟨_, rfl⟩
  replace H : (laws_toInt64SS.l0 k1 l0 y261 (wrap64 (x4_1 + 1))) = some r := by first | (rw [hy261]; with_reducible exact H) | (have H2_ := (Option.bind_some _ _).symm.trans H; rw [hy261]; with_reducible exact H2_) | (have H2_ := (Option.bind_some _ _).symm.trans H; with_reducible exact H2_) | with_reducible exact H | (rw [hy261]; exact H) | exact H
  have Ny261 := am hy261
  clear hy261
  have H' := am H
  clear H
  have p257 : 0 ≤ (x4_1 : Int) := of_decide_eq_true as1
  have q257 : x4_1 < (l0.length : Int) := of_decide_eq_true as1
  obtain ⟨ad257, A257_0, c257_0, e257, hx257_0, hl257_0, hi257_0⟩ := at_L10 HR0.out x4_1 p257 q257
  cases e257
  replace hx257_0 := cl HB hx257_0
  have HR257_0 := am hi257_0
  have HC257_0 := am hl257_0
  clear hi257_0 hl257_0
  replace p257 := eq_true p257
  replace q257 := eq_true q257
  go_wp2_with (first | ((with_reducible refine gk 21 rfl ?_); refine gC 21 (some 20) Try.func21 #[.slice A257_0 (rd_L10 l0 x4_1).length c257_0] ((laws_toInt64S.calls k1 _ _ (rd_L10 l0 x4_1) t258 _ (cc (Kd.C_below HR257_0.out HB.out)) HC257_0.out A8.out).mono ?_); rintro e w11 ⟨v259, rfl, ho0, hb⟩; refine ⟨_, rfl, ?_⟩; replace HO_3 := am (Kd.S_elder' (kS HO_3) (Kd.R_base ho0) hb); have HO260 := am (Kd.R_lower ho0 (below_size (bw HB))); replace HB := bs HB hb; clear hb; (try clear ho0); have p10 : 0 ≤ (x4_1 : Int) := of_decide_eq_true as1; have q10 : (x4_1 : Int) < ((x3_1.length : Int) : Int) := of_decide_eq_true as1; obtain ⟨go10, co10, eo10, gb10, gl10, cl10, HG10⟩ := Kd.S_form HO_3.out (by omega); (first | cases eo10 | (injection eo10 with ea_ en_ ec_; (first | subst ea_ | (injection ea_ with ea_; subst ea_)); subst ec_; clear en_)); have GB10 := am gb10; have GG10 := am HG10; clear gb10 gl10 HG10; obtain ⟨_, ce10, hcl10, hM10, hcc10, hfr10, _, _⟩ := Kd.S_elem HO_3.out [] (x4_1 : Int) p10 q10; obtain ⟨ve10_0, rfl, ge10_0⟩ := hM10; have hx10_0 := hcc10 0 _ rfl; have hf10_0 := hfr10 0; (try simp only [show ((Kd.slice 2 (Kd.int .i64))).sz = 1 from rfl, Nat.mul_one, Nat.add_zero] at hx10_0); (try simp only [show ((Kd.slice 2 (Kd.int .i64))).sz = 1 from rfl, Nat.mul_one, Nat.add_zero] at hf10_0); (try clear hM10); (try clear hfr10); (try clear hcc10); (try clear hcl10); replace p10 := eq_true p10; replace q10 := eq_true q10; obtain ⟨Ao14, co14, eo14⟩ := Kd.R_slice HO260.out; subst eo14; have n_ := am (Kd.S_mono (ok' := (fun k_ => some k_ ≠ (.slice Ao14 t258.length co14 : Value).ownBlock)) HO_3.out (fun k_ hk => hk.2)); clear HO_3; have HO_3 := n_; clear n_; have HX12 := am (show Kd.S (Kd.slice 2 (Kd.int .i64)) 25 w11 w.heap.size (fun k_ => ((fun _ => True)) k_ ∧ ¬ ((fun k_ => some k_ = (.slice Ao14 t258.length co14 : Value).ownBlock)) k_) (.slice (some ⟨go10, 0, none⟩) x3_1.length co10) x3_1 from (by (with_reducible repeat (first | apply Kd.S_alloc | apply Kd.S_drewN | apply Kd.S_drew)); exact Kd.S_mono HO_3.out (fun k_ hk => ⟨trivial, fun e_ => hk e_⟩))); obtain ⟨oki12, ce12, hcl12, hM12, hcc12, hfr12, hoki12, hH12⟩ := Kd.S_elem HX12.out [] (x4_1 : Int) (of_decide_eq_true as1) (by have h_ : (x4_1 : Int) < ((x3_1.length : Int) : Int) := of_decide_eq_true as1; first | exact h_ | (have e_ := (Kd.S_reads' HO_3.out).1; omega) | simpa using h_); obtain ⟨ve12_0, rfl, ge12_0⟩ := hM12; have HP12 := Kd.S_seg hH12 (of_decide_eq_true as1) (by have h_ : (x4_1 : Int) < ((x3_1.length : Int) : Int) := of_decide_eq_true as1; first | exact h_ | (have e_ := (Kd.S_reads' HO_3.out).1; omega) | simpa using h_) (seg := [.slice Ao14 t258.length co14]) (j := 0) (show 1 ≤ 1 from by decide) (x' := t258) (Kd.M_row (Kd.R_mono (Kd.R_tight rfl (Kd.R_mono (ok' := fun k_ => ((fun _ => True)) k_ ∧ k_ ≠ go10) (Kd.R_apart' (HO260.out) (Kd.S_typed HO_3.out) (by decide)) (fun k_ hk => ⟨trivial, fun e_ => (hk.2) (by rw [e_]; rfl)⟩))) (fun _ h_ => Or.inr (h_)))) (fun _ hk => hk) (fun k_ hk_ => ((Kd.R_mono (ok' := fun k_ => ((fun _ => True)) k_ ∧ k_ ≠ go10) (Kd.R_apart' (HO260.out) (Kd.S_typed HO_3.out) (by decide)) (fun k_ hk => ⟨trivial, fun e_ => (hk.2) (by rw [e_]; rfl)⟩))).1 k_ hk_.symm); have hx12_0 := hcc12 0 _ rfl; (try simp only [show ((Kd.slice 2 (Kd.int .i64))).sz = 1 from rfl, Nat.mul_one, Nat.add_zero] at hx12_0); have hf12_0 := hfr12 0; (try simp only [show ((Kd.slice 2 (Kd.int .i64))).sz = 1 from rfl, Nat.mul_one, Nat.add_zero] at hf12_0); (try clear hH12); (try clear hoki12); (try clear hM12); (try clear hfr12); (try clear hcc12); (try clear hcl12); (try simp only [show ((Kd.slice 2 (Kd.int .i64))).sz = 1 from rfl, Nat.mul_one, Nat.add_zero] at HP12)) | ((with_reducible refine gt 25 21 rfl ?_); refine sE 25 21 (w11.setCell ⟨go10, (x4_1 : Int).toNat, none⟩ (.slice Ao14 t258.length co14)) ?_; intro w13 hw; have hg : w11.grownBy w13 (some go10) := (by rw [hw]; exact HP12.2); have hp_ : Kd.S (Kd.slice 2 (Kd.int .i64)) 25 w13 w.heap.size (fun _ => True) (.slice (some ⟨go10, 0, none⟩) x3_1.length co10) y261 := (by rw [hw, Ny261.out]; exact HP12.1); clear HP12; replace HO_3 := am (hp_); replace HB := am ((by rw [hw]; exact below_set (HB.out) GB10.out : Below w.heap.size w w13)); clear HO260; clear hg hw hp_))
  go_roundg k1
  case measure => have := HK1.out; omega
  case rel => exact ⟨(y261), (wrap64 (x4_1 + 1)), dr, H', ⟨by have := HK1.out; omega⟩, ⟨kS HO_3⟩, ⟨bw HB⟩⟩
 obtain rfl := Option.some.inj H
 go_wp2
 go_ret
 exact ⟨_, er, kS HO_3, bw HB⟩

def laws_toMixed.f (k : Nat) (l0_0 : List (S66)) (l0_1 : List (S69)) (l0_2 : List (List Int)) (l0_3 : List Int) (a0_4 : Int) (a0_5 : Bool) (a0_6 : Int) (a0_7 : Int) : Option ((List (S73)) × (List (S75)) × (List (List Int)) × List Int × Int × Bool × Int × Int) := (laws_toAsmS.f k l0_0).bind fun t265 => ((laws_toMixFrameS.f k l0_1).bind fun t268 => ((laws_toInt64SS.f k l0_2).bind fun t271 => ((laws_toInt64S.f k l0_3).bind fun t274 => (some (t265, t268, t271, t274, a0_4, a0_5, a0_6, a0_7)))))
theorem laws_toMixed.mono : ∀ a0 a1 a2 a3 a4 a5 a6 a7 k, LeO (laws_toMixed.f k a0 a1 a2 a3 a4 a5 a6 a7) (laws_toMixed.f (k + 1) a0 a1 a2 a3 a4 a5 a6 a7) := by
 intro a0 a1 a2 a3 a4 a5 a6 a7 k
 unfold laws_toMixed.f
 with_reducible repeat' first | exact laws_toAsmS.mono .. | exact laws_toInt64S.mono .. | exact laws_toInt64SS.mono .. | exact laws_toMixFrameS.mono .. | exact LeO.refl _ | exact LeO.none _ | refine LeO.ite ?_ ?_ | refine LeO.bind ?_ (fun _ => ?_)
theorem laws_toMixed.calls (k : Nat) (A0_0 : Option Addr) (c0_0 : Nat) (l0_0 : List (S66)) (A0_1 : Option Addr) (c0_1 : Nat) (l0_1 : List (S69)) (A0_2 : Option Addr) (c0_2 : Nat) (l0_2 : List (List Int)) (A0_3 : Option Addr) (c0_3 : Nat) (l0_3 : List Int) (a0_4 : Int) (a0_5 : Bool) (a0_6 : Int) (a0_7 : Int) (r1 : List (S73)) (r2 : List (S75)) (r3 : List (List Int)) (r4 : List Int) (r5 : Int) (r6 : Bool) (r7 : Int) (r8 : Int) (w : World) (hr0_0 : Kd.C k66 w A0_0 l0_0.length l0_0) (hc0_0 : l0_0.length ≤ c0_0) (hr0_1 : Kd.C k69 w A0_1 l0_1.length l0_1) (hc0_1 : l0_1.length ≤ c0_1) (hr0_2 : Kd.C (Kd.slice 2 (Kd.int .i64)) w A0_2 l0_2.length l0_2) (hc0_2 : l0_2.length ≤ c0_2) (hr0_3 : Kd.C (Kd.int .i64) w A0_3 l0_3.length l0_3) (hc0_3 : l0_3.length ≤ c0_3) (h : laws_toMixed.f k l0_0 l0_1 l0_2 l0_3 a0_4 a0_5 a0_6 a0_7 = some (r1, r2, r3, r4, r5, r6, r7, r8)) :
  Calls Try.prog 6 #[.agg #[.slice A0_0 l0_0.length c0_0, .slice A0_1 l0_1.length c0_1, .slice A0_2 l0_2.length c0_2, .slice A0_3 l0_3.length c0_3, .int .i64 a0_4, .bool a0_5, .int .i64 a0_6, .int .i64 a0_7]] w fun e w' => ∃ v0_ v1_ v2_ v3_ : Value, e = .returned (.agg #[v0_, v1_, v2_, v3_, .int .i64 r5, .bool r6, .int .i64 r7, .int .i64 r8]) ∧ Kd.R k73 73 w' w.heap.size (fun _ => True) v0_ r1 ∧ Kd.S k75 75 w' w.heap.size (fun k_ => some k_ ≠ (v3_ : Value).ownBlock) v1_ r2 ∧ Kd.S (Kd.slice 2 (Kd.int .i64)) 25 w' w.heap.size (fun k_ => some k_ ≠ (v3_ : Value).ownBlock) v2_ r3 ∧ Kd.R (Kd.int .i64) 2 w' w.heap.size (fun _ => True) v3_ r4 ∧ Below w.heap.size w w' := by
 have hu27 := Try.underlying27
 have hu36 := Try.underlying36
 have HR0_0 := am hr0_0
 have HC0_0 := am hc0_0
 clear hr0_0 hc0_0
 have HR0_1 := am hr0_1
 have HC0_1 := am hc0_1
 clear hr0_1 hc0_1
 have HR0_2 := am hr0_2
 have HC0_2 := am hc0_2
 clear hr0_2 hc0_2
 have HR0_3 := am hr0_3
 have HC0_3 := am hc0_3
 clear hr0_3 hc0_3
 have HB := am (Below.refl w.heap.size w)
 have H : ((laws_toAsmS.f k l0_0).bind fun t265 => ((laws_toMixFrameS.f k l0_1).bind fun t268 => ((laws_toInt64SS.f k l0_2).bind fun t271 => ((laws_toInt64S.f k l0_3).bind fun t274 => (some (t265, t268, t271, t274, a0_4, a0_5, a0_6, a0_7)))))) = some (r1, r2, r3, r4, r5, r6, r7, r8) := h
 clear h
 refine be H ?_; clear H; intro t265 A2 H
 refine be H ?_; clear H; intro t268 A3 H
 refine be H ?_; clear H; intro t271 A4 H
 refine be H ?_; clear H; intro t274 A5 H
 simp only [Option.some.injEq, Prod.mk.injEq] at H
 obtain ⟨rfl, rfl, rfl, rfl, rfl, rfl, rfl, rfl⟩ := H
 go_enter Try.func6, Try.ntmps6
 go_wp2_with (first | ((with_reducible refine gd 1 rfl ?_); refine bX 1 #[.slice A0_0 l0_0.length c0_0, .slice A0_1 l0_1.length c0_1, .slice A0_2 l0_2.length c0_2, .slice A0_3 l0_3.length c0_3, .int .i64 a0_4, .bool a0_5, .int .i64 a0_6, .int .i64 a0_7] 27 HB ?_; clear HB; intro gb262 w6 hg hb BK262 GW262 HB; clear hb hg) | ((with_reducible refine gd 2 rfl ?_); refine bX 2 #[.slice none 0 0, .slice none 0 0, .slice none 0 0, .slice none 0 0, .int .i64 0, .bool false, .int .i64 0, .int .i64 0] 36 HB ?_; clear HB; intro gb263 w7 hg hb BK263 GW263 HB; obtain ⟨NB262_263, NB263_262, BK262⟩ := b3 hg BK262 hb; clear hb hg) | ((with_reducible refine gd 3 rfl ?_); refine bX 3 #[.slice none 0 0, .slice none 0 0, .slice none 0 0, .slice none 0 0, .int .i64 0, .bool false, .int .i64 0, .int .i64 0] 36 HB ?_; clear HB; intro gb264 w8 hg hb BK264 GW264 HB; obtain ⟨NB262_264, NB264_262, BK262⟩ := b3 hg BK262 hb; obtain ⟨NB263_264, NB264_263, BK263⟩ := b3 hg BK263 hb; clear hb hg; have hnb9 := NB262_263.out; have hnc9 := NB263_262.out; have hnb10 := NB262_264.out; have hnc10 := NB264_262.out; have hcz11_0 := bk w8 BK262 0; have hcz11_1 := bk w8 BK262 1; have hcz11_2 := bk w8 BK262 2; have hcz11_3 := bk w8 BK262 3; have hcz11_4 := bk w8 BK262 4; have hcz11_5 := bk w8 BK262 5; have hcz11_6 := bk w8 BK262 6; have hcz11_7 := bk w8 BK262 7; have hfz11_0 := bf BK262 0; have hfz11_1 := bf BK262 1; have hfz11_2 := bf BK262 2; have hfz11_3 := bf BK262 3; have hfz11_4 := bf BK262 4; have hfz11_5 := bf BK262 5; have hfz11_6 := bf BK262 6; have hfz11_7 := bf BK262 7) | ((with_reducible refine gk 18 rfl ?_); refine gC 18 (some 6) Try.func18 #[.slice A0_0 l0_0.length c0_0] ((laws_toAsmS.calls k _ _ l0_0 t265 _ (cc (Kd.C_below HR0_0.out HB.out)) HC0_0.out A2.out).mono ?_); rintro e w12 ⟨v266, rfl, ho0, hb⟩; refine ⟨_, rfl, ?_⟩; have HO267 := am (Kd.R_lower ho0 (below_size (bw HB))); replace BK262 := bb BK262 hb; replace BK263 := bb BK263 hb; replace BK264 := bb BK264 hb; replace HB := bs HB hb; clear hb; (try clear ho0); obtain ⟨Ao13, co13, eo13⟩ := Kd.R_slice HO267.out; subst eo13; have hnb14 := NB264_263.out; have hnc14 := NB263_264.out; have hcz15_0 := bk w12 BK264 0; have hcz15_1 := bk w12 BK264 1; have hcz15_2 := bk w12 BK264 2; have hcz15_3 := bk w12 BK264 3; have hcz15_4 := bk w12 BK264 4; have hcz15_5 := bk w12 BK264 5; have hcz15_6 := bk w12 BK264 6; have hcz15_7 := bk w12 BK264 7; have hfz15_0 := bf BK264 0; have hfz15_1 := bf BK264 1; have hfz15_2 := bf BK264 2; have hfz15_3 := bf BK264 3; have hfz15_4 := bf BK264 4; have hfz15_5 := bf BK264 5; have hfz15_6 := bf BK264 6; have hfz15_7 := bf BK264 7; have hcz16_0 := bk w12 BK262 0; have hcz16_1 := bk w12 BK262 1; have hcz16_2 := bk w12 BK262 2; have hcz16_3 := bk w12 BK262 3; have hcz16_4 := bk w12 BK262 4; have hcz16_5 := bk w12 BK262 5; have hcz16_6 := bk w12 BK262 6; have hcz16_7 := bk w12 BK262 7; have hfz16_0 := bf BK262 0; have hfz16_1 := bf BK262 1; have hfz16_2 := bf BK262 2; have hfz16_3 := bf BK262 3; have hfz16_4 := bf BK262 4; have hfz16_5 := bf BK262 5; have hfz16_6 := bf BK262 6; have hfz16_7 := bf BK262 7) | ((with_reducible refine gk 19 rfl ?_); refine gC 19 (some 10) Try.func19 #[.slice A0_1 l0_1.length c0_1] ((laws_toMixFrameS.calls k _ _ l0_1 t268 _ (Kd.C_below HR0_1.out (bw HB)) HC0_1.out A3.out).mono ?_); rintro e w17 ⟨v269, rfl, ho0, hb⟩; refine ⟨_, rfl, ?_⟩; replace HO267 := am (Kd.R_below (by (with_reducible repeat (first | apply Kd.R_alloc | apply Kd.R_drewN | apply Kd.R_drew)); exact (Kd.R_mono (Kd.R_far (p := ⟨gb264, 0, none⟩) (Kd.R_types HO267.out BK264.out (by decide)) (fun _ hk => hk.2) (.slice Ao13 t265.length co13)) (fun _ h_ => h_.1))) hb); have HO270 := am (Kd.S_lower ho0 (below_size (bw HB))); replace BK262 := bb2 BK262 hb; replace BK263 := bb2 BK263 hb; replace BK264 := bo #[.slice Ao13 t265.length co13, .slice none 0 0, .slice none 0 0, .slice none 0 0, .int .i64 0, .bool false, .int .i64 0, .int .i64 0] BK264 hb; replace HB := bs HB hb; clear hb; (try clear ho0); obtain ⟨Ao18, co18, eo18⟩ := Kd.S_slice HO270.out; subst eo18; have hcz19_0 := bk w17 BK264 0; have hcz19_1 := bk w17 BK264 1; have hcz19_2 := bk w17 BK264 2; have hcz19_3 := bk w17 BK264 3; have hcz19_4 := bk w17 BK264 4; have hcz19_5 := bk w17 BK264 5; have hcz19_6 := bk w17 BK264 6; have hcz19_7 := bk w17 BK264 7; have hfz19_0 := bf BK264 0; have hfz19_1 := bf BK264 1; have hfz19_2 := bf BK264 2; have hfz19_3 := bf BK264 3; have hfz19_4 := bf BK264 4; have hfz19_5 := bf BK264 5; have hfz19_6 := bf BK264 6; have hfz19_7 := bf BK264 7; have hcz20_0 := bk w17 BK262 0; have hcz20_1 := bk w17 BK262 1; have hcz20_2 := bk w17 BK262 2; have hcz20_3 := bk w17 BK262 3; have hcz20_4 := bk w17 BK262 4; have hcz20_5 := bk w17 BK262 5; have hcz20_6 := bk w17 BK262 6; have hcz20_7 := bk w17 BK262 7; have hfz20_0 := bf BK262 0; have hfz20_1 := bf BK262 1; have hfz20_2 := bf BK262 2; have hfz20_3 := bf BK262 3; have hfz20_4 := bf BK262 4; have hfz20_5 := bf BK262 5; have hfz20_6 := bf BK262 6; have hfz20_7 := bf BK262 7) | ((with_reducible refine gk 20 rfl ?_); refine gC 20 (some 14) Try.func20 #[.slice A0_2 l0_2.length c0_2] ((laws_toInt64SS.calls k _ _ l0_2 t271 _ (Kd.C_below HR0_2.out (bw HB)) HC0_2.out A4.out).mono ?_); rintro e w21 ⟨v272, rfl, ho0, hb⟩; refine ⟨_, rfl, ?_⟩; replace HO267 := am (Kd.R_below (by (with_reducible repeat (first | apply Kd.R_alloc | apply Kd.R_drewN | apply Kd.R_drew)); exact (Kd.R_mono (Kd.R_far (p := ⟨gb264, 1, none⟩) (Kd.R_types HO267.out BK264.out (by decide)) (fun _ hk => hk.2) (.slice Ao18 t268.length co18)) (fun _ h_ => h_.1))) hb); replace HO270 := am (Kd.S_below (by (with_reducible repeat (first | apply Kd.S_alloc | apply Kd.S_drewN | apply Kd.S_drew)); exact (Kd.S_mono (Kd.S_far (p := ⟨gb264, 1, none⟩) (Kd.S_types HO270.out BK264.out (by decide)) (fun _ hk => hk.2) (.slice Ao18 t268.length co18)) (fun _ h_ => h_.1))) hb); have HO273 := am (Kd.S_lower ho0 (below_size (bw HB))); replace BK262 := bb2 BK262 hb; replace BK263 := bb2 BK263 hb; replace BK264 := bo #[.slice Ao13 t265.length co13, .slice Ao18 t268.length co18, .slice none 0 0, .slice none 0 0, .int .i64 0, .bool false, .int .i64 0, .int .i64 0] BK264 hb; replace HB := bs HB hb; clear hb; (try clear ho0); obtain ⟨Ao22, co22, eo22⟩ := Kd.S_slice HO273.out; subst eo22; have hcz23_0 := bk w21 BK264 0; have hcz23_1 := bk w21 BK264 1; have hcz23_2 := bk w21 BK264 2; have hcz23_3 := bk w21 BK264 3; have hcz23_4 := bk w21 BK264 4; have hcz23_5 := bk w21 BK264 5; have hcz23_6 := bk w21 BK264 6; have hcz23_7 := bk w21 BK264 7; have hfz23_0 := bf BK264 0; have hfz23_1 := bf BK264 1; have hfz23_2 := bf BK264 2; have hfz23_3 := bf BK264 3; have hfz23_4 := bf BK264 4; have hfz23_5 := bf BK264 5; have hfz23_6 := bf BK264 6; have hfz23_7 := bf BK264 7; have hcz24_0 := bk w21 BK262 0; have hcz24_1 := bk w21 BK262 1; have hcz24_2 := bk w21 BK262 2; have hcz24_3 := bk w21 BK262 3; have hcz24_4 := bk w21 BK262 4; have hcz24_5 := bk w21 BK262 5; have hcz24_6 := bk w21 BK262 6; have hcz24_7 := bk w21 BK262 7; have hfz24_0 := bf BK262 0; have hfz24_1 := bf BK262 1; have hfz24_2 := bf BK262 2; have hfz24_3 := bf BK262 3; have hfz24_4 := bf BK262 4; have hfz24_5 := bf BK262 5; have hfz24_6 := bf BK262 6; have hfz24_7 := bf BK262 7) | ((with_reducible refine gk 21 rfl ?_); refine gC 21 (some 18) Try.func21 #[.slice A0_3 l0_3.length c0_3] ((laws_toInt64S.calls k _ _ l0_3 t274 _ (Kd.C_below HR0_3.out (bw HB)) HC0_3.out A5.out).mono ?_); rintro e w25 ⟨v275, rfl, ho0, hb⟩; refine ⟨_, rfl, ?_⟩; replace HO267 := am (Kd.R_below (by (with_reducible repeat (first | apply Kd.R_alloc | apply Kd.R_drewN | apply Kd.R_drew)); exact (Kd.R_mono (Kd.R_far (p := ⟨gb264, 2, none⟩) (Kd.R_types HO267.out BK264.out (by decide)) (fun _ hk => hk.2) (.slice Ao22 t271.length co22)) (fun _ h_ => h_.1))) hb); replace HO270 := am (Kd.S_elder' (by (with_reducible repeat (first | apply Kd.S_alloc | apply Kd.S_drewN | apply Kd.S_drew)); exact (Kd.S_mono (Kd.S_far (p := ⟨gb264, 2, none⟩) (Kd.S_types HO270.out BK264.out (by decide)) (fun _ hk => hk.2) (.slice Ao22 t271.length co22)) (fun _ h_ => h_.1))) (Kd.R_base ho0) hb); replace HO273 := am (Kd.S_elder' (by (with_reducible repeat (first | apply Kd.S_alloc | apply Kd.S_drewN | apply Kd.S_drew)); exact (Kd.S_mono (Kd.S_far (p := ⟨gb264, 2, none⟩) (Kd.S_types HO273.out BK264.out (by decide)) (fun _ hk => hk.2) (.slice Ao22 t271.length co22)) (fun _ h_ => h_.1))) (Kd.R_base ho0) hb); have HO276 := am (Kd.R_lower ho0 (below_size (bw HB))); replace BK262 := bb2 BK262 hb; replace BK263 := bb2 BK263 hb; replace BK264 := bo #[.slice Ao13 t265.length co13, .slice Ao18 t268.length co18, .slice Ao22 t271.length co22, .slice none 0 0, .int .i64 0, .bool false, .int .i64 0, .int .i64 0] BK264 hb; replace HB := bs HB hb; clear hb; (try clear ho0); obtain ⟨Ao26, co26, eo26⟩ := Kd.R_slice HO276.out; subst eo26; have hcz27_0 := bk w25 BK264 0; have hcz27_1 := bk w25 BK264 1; have hcz27_2 := bk w25 BK264 2; have hcz27_3 := bk w25 BK264 3; have hcz27_4 := bk w25 BK264 4; have hcz27_5 := bk w25 BK264 5; have hcz27_6 := bk w25 BK264 6; have hcz27_7 := bk w25 BK264 7; have hfz27_0 := bf BK264 0; have hfz27_1 := bf BK264 1; have hfz27_2 := bf BK264 2; have hfz27_3 := bf BK264 3; have hfz27_4 := bf BK264 4; have hfz27_5 := bf BK264 5; have hfz27_6 := bf BK264 6; have hfz27_7 := bf BK264 7; have hcz28_0 := bk w25 BK262 0; have hcz28_1 := bk w25 BK262 1; have hcz28_2 := bk w25 BK262 2; have hcz28_3 := bk w25 BK262 3; have hcz28_4 := bk w25 BK262 4; have hcz28_5 := bk w25 BK262 5; have hcz28_6 := bk w25 BK262 6; have hcz28_7 := bk w25 BK262 7; have hfz28_0 := bf BK262 0; have hfz28_1 := bf BK262 1; have hfz28_2 := bf BK262 2; have hfz28_3 := bf BK262 3; have hfz28_4 := bf BK262 4; have hfz28_5 := bf BK262 5; have hfz28_6 := bf BK262 6; have hfz28_7 := bf BK262 7; have hcz29_0 := bk w25 BK263 0; have hcz29_1 := bk w25 BK263 1; have hcz29_2 := bk w25 BK263 2; have hcz29_3 := bk w25 BK263 3; have hcz29_4 := bk w25 BK263 4; have hcz29_5 := bk w25 BK263 5; have hcz29_6 := bk w25 BK263 6; have hcz29_7 := bk w25 BK263 7; have hfz29_0 := bf BK263 0; have hfz29_1 := bf BK263 1; have hfz29_2 := bf BK263 2; have hfz29_3 := bf BK263 3; have hfz29_4 := bf BK263 4; have hfz29_5 := bf BK263 5; have hfz29_6 := bf BK263 6; have hfz29_7 := bf BK263 7))
 refine bodyPost_ret (results_cell_row rfl _ _ gb263 36 #[.slice Ao13 t265.length co13, .slice Ao18 t268.length co18, .slice Ao22 t271.length co22, .slice Ao26 t274.length co26, .int .i64 a0_4, .bool a0_5, .int .i64 a0_6, .int .i64 a0_7] (0, 0) _ rfl (bt BK263) Try.underlying36 rfl (by kernel_rfl)) rfl ?_
 exact ⟨_, _, _, _, er, by (with_reducible repeat (first | apply Kd.R_alloc | apply Kd.R_drewN | apply Kd.R_drew)); exact Kd.R_mono (Kd.R_far (p := ⟨gb263, 7, none⟩) (Kd.R_far (p := ⟨gb263, 6, none⟩) (Kd.R_far (p := ⟨gb263, 5, none⟩) (Kd.R_far (p := ⟨gb263, 4, none⟩) (Kd.R_far (p := ⟨gb263, 3, none⟩) (Kd.R_far (p := ⟨gb263, 2, none⟩) (Kd.R_far (p := ⟨gb263, 1, none⟩) (Kd.R_far (p := ⟨gb263, 0, none⟩) (Kd.R_far (p := ⟨gb264, 7, none⟩) (Kd.R_far (p := ⟨gb264, 6, none⟩) (Kd.R_far (p := ⟨gb264, 5, none⟩) (Kd.R_far (p := ⟨gb264, 4, none⟩) (Kd.R_far (p := ⟨gb264, 3, none⟩) (Kd.R_types (Kd.R_types HO267.out BK264.out (by decide)) BK263.out (by decide)) (fun _ hk => hk.1.2) (.slice Ao26 t274.length co26)) (fun _ hk => hk.1.2) (.int .i64 a0_4)) (fun _ hk => hk.1.2) (.bool a0_5)) (fun _ hk => hk.1.2) (.int .i64 a0_6)) (fun _ hk => hk.1.2) (.int .i64 a0_7)) (fun _ hk => hk.2) (.slice Ao13 t265.length co13)) (fun _ hk => hk.2) (.slice Ao18 t268.length co18)) (fun _ hk => hk.2) (.slice Ao22 t271.length co22)) (fun _ hk => hk.2) (.slice Ao26 t274.length co26)) (fun _ hk => hk.2) (.int .i64 a0_4)) (fun _ hk => hk.2) (.bool a0_5)) (fun _ hk => hk.2) (.int .i64 a0_6)) (fun _ hk => hk.2) (.int .i64 a0_7)) (fun _ hk => trivial), by (with_reducible repeat (first | apply Kd.S_alloc | apply Kd.S_drewN | apply Kd.S_drew)); exact Kd.S_mono (Kd.S_far (p := ⟨gb263, 7, none⟩) (Kd.S_far (p := ⟨gb263, 6, none⟩) (Kd.S_far (p := ⟨gb263, 5, none⟩) (Kd.S_far (p := ⟨gb263, 4, none⟩) (Kd.S_far (p := ⟨gb263, 3, none⟩) (Kd.S_far (p := ⟨gb263, 2, none⟩) (Kd.S_far (p := ⟨gb263, 1, none⟩) (Kd.S_far (p := ⟨gb263, 0, none⟩) (Kd.S_far (p := ⟨gb264, 7, none⟩) (Kd.S_far (p := ⟨gb264, 6, none⟩) (Kd.S_far (p := ⟨gb264, 5, none⟩) (Kd.S_far (p := ⟨gb264, 4, none⟩) (Kd.S_far (p := ⟨gb264, 3, none⟩) (Kd.S_types (Kd.S_types HO270.out BK264.out (by decide)) BK263.out (by decide)) (fun _ hk => hk.1.2) (.slice Ao26 t274.length co26)) (fun _ hk => hk.1.2) (.int .i64 a0_4)) (fun _ hk => hk.1.2) (.bool a0_5)) (fun _ hk => hk.1.2) (.int .i64 a0_6)) (fun _ hk => hk.1.2) (.int .i64 a0_7)) (fun _ hk => hk.2) (.slice Ao13 t265.length co13)) (fun _ hk => hk.2) (.slice Ao18 t268.length co18)) (fun _ hk => hk.2) (.slice Ao22 t271.length co22)) (fun _ hk => hk.2) (.slice Ao26 t274.length co26)) (fun _ hk => hk.2) (.int .i64 a0_4)) (fun _ hk => hk.2) (.bool a0_5)) (fun _ hk => hk.2) (.int .i64 a0_6)) (fun _ hk => hk.2) (.int .i64 a0_7)) (fun _ hk => hk.1.1.2), by (with_reducible repeat (first | apply Kd.S_alloc | apply Kd.S_drewN | apply Kd.S_drew)); exact Kd.S_mono (Kd.S_far (p := ⟨gb263, 7, none⟩) (Kd.S_far (p := ⟨gb263, 6, none⟩) (Kd.S_far (p := ⟨gb263, 5, none⟩) (Kd.S_far (p := ⟨gb263, 4, none⟩) (Kd.S_far (p := ⟨gb263, 3, none⟩) (Kd.S_far (p := ⟨gb263, 2, none⟩) (Kd.S_far (p := ⟨gb263, 1, none⟩) (Kd.S_far (p := ⟨gb263, 0, none⟩) (Kd.S_far (p := ⟨gb264, 7, none⟩) (Kd.S_far (p := ⟨gb264, 6, none⟩) (Kd.S_far (p := ⟨gb264, 5, none⟩) (Kd.S_far (p := ⟨gb264, 4, none⟩) (Kd.S_far (p := ⟨gb264, 3, none⟩) (Kd.S_types (Kd.S_types HO273.out BK264.out (by decide)) BK263.out (by decide)) (fun _ hk => hk.1.2) (.slice Ao26 t274.length co26)) (fun _ hk => hk.1.2) (.int .i64 a0_4)) (fun _ hk => hk.1.2) (.bool a0_5)) (fun _ hk => hk.1.2) (.int .i64 a0_6)) (fun _ hk => hk.1.2) (.int .i64 a0_7)) (fun _ hk => hk.2) (.slice Ao13 t265.length co13)) (fun _ hk => hk.2) (.slice Ao18 t268.length co18)) (fun _ hk => hk.2) (.slice Ao22 t271.length co22)) (fun _ hk => hk.2) (.slice Ao26 t274.length co26)) (fun _ hk => hk.2) (.int .i64 a0_4)) (fun _ hk => hk.2) (.bool a0_5)) (fun _ hk => hk.2) (.int .i64 a0_6)) (fun _ hk => hk.2) (.int .i64 a0_7)) (fun _ hk => hk.1.1.2), by (with_reducible repeat (first | apply Kd.R_alloc | apply Kd.R_drewN | apply Kd.R_drew)); exact Kd.R_mono (Kd.R_far (p := ⟨gb263, 7, none⟩) (Kd.R_far (p := ⟨gb263, 6, none⟩) (Kd.R_far (p := ⟨gb263, 5, none⟩) (Kd.R_far (p := ⟨gb263, 4, none⟩) (Kd.R_far (p := ⟨gb263, 3, none⟩) (Kd.R_far (p := ⟨gb263, 2, none⟩) (Kd.R_far (p := ⟨gb263, 1, none⟩) (Kd.R_far (p := ⟨gb263, 0, none⟩) (Kd.R_far (p := ⟨gb264, 7, none⟩) (Kd.R_far (p := ⟨gb264, 6, none⟩) (Kd.R_far (p := ⟨gb264, 5, none⟩) (Kd.R_far (p := ⟨gb264, 4, none⟩) (Kd.R_far (p := ⟨gb264, 3, none⟩) (Kd.R_types (Kd.R_types HO276.out BK264.out (by decide)) BK263.out (by decide)) (fun _ hk => hk.1.2) (.slice Ao26 t274.length co26)) (fun _ hk => hk.1.2) (.int .i64 a0_4)) (fun _ hk => hk.1.2) (.bool a0_5)) (fun _ hk => hk.1.2) (.int .i64 a0_6)) (fun _ hk => hk.1.2) (.int .i64 a0_7)) (fun _ hk => hk.2) (.slice Ao13 t265.length co13)) (fun _ hk => hk.2) (.slice Ao18 t268.length co18)) (fun _ hk => hk.2) (.slice Ao22 t271.length co22)) (fun _ hk => hk.2) (.slice Ao26 t274.length co26)) (fun _ hk => hk.2) (.int .i64 a0_4)) (fun _ hk => hk.2) (.bool a0_5)) (fun _ hk => hk.2) (.int .i64 a0_6)) (fun _ hk => hk.2) (.int .i64 a0_7)) (fun _ hk => trivial), bw HB⟩

def slices_Clone_int64_int64.f (l0 : List Int) : Option (List Int) := (some (([] : List Int) : List Int)).bind fun y277 => (if y277.length + l0.length < 17592186044416 then (some (y277 ++ l0)) else (none))
theorem slices_Clone_int64_int64.calls (A0 : Option Addr) (c0 : Nat) (l0 : List Int) (r : List Int) (w : World) (hr0 : Kd.C (Kd.int .i64) w A0 l0.length l0) (hc0 : l0.length ≤ c0) (h : slices_Clone_int64_int64.f l0 = some r) :
  Calls Try.prog 41 #[.slice A0 l0.length c0] w fun e w' => ∃ v0_ : Value, e = .returned (v0_) ∧ Kd.R (Kd.int .i64) 2 w' w.heap.size (fun _ => True) v0_ r ∧ Below w.heap.size w w' := by
 have HR0 := am hr0
 have HC0 := am hc0
 clear hr0 hc0
 have HB := am (Below.refl w.heap.size w)
 have H : ((some (([] : List Int) : List Int)).bind fun y277 => (if y277.length + l0.length < 17592186044416 then (some (y277 ++ l0)) else (none))) = some r := h
 clear h
 obtain ⟨y277, hy277⟩ : ∃ y_ : List Int, y_ = (([] : List Int)) := ⟨_, rfl⟩
 replace H : (if y277.length + l0.length < 17592186044416 then (some (y277 ++ l0)) else (none)) = some r := by first | (rw [hy277]; with_reducible exact H) | (have H2_ := (Option.bind_some _ _).symm.trans H; rw [hy277]; with_reducible exact H2_) | (have H2_ := (Option.bind_some _ _).symm.trans H; with_reducible exact H2_) | with_reducible exact H | (rw [hy277]; exact H) | exact H
 have Ny277 := am hy277
 clear hy277
 refine iN H ?_; clear H; intro c2 H
 have LMc2 := am c2
 clear c2
 obtain ⟨y280, hy280⟩ : ∃ y_ : List Int, y_ = (y277 ++ l0) := ⟨_, rfl⟩
 replace H : (some y280) = some r := by first | (rw [hy280]; with_reducible exact H) | (have H2_ := (Option.bind_some _ _).symm.trans H; rw [hy280]; with_reducible exact H2_) | (have H2_ := (Option.bind_some _ _).symm.trans H; with_reducible exact H2_) | with_reducible exact H | (rw [hy280]; exact H) | exact H
 have Ny280 := am hy280
 clear hy280
 obtain rfl := Option.some.inj H
 have qT : ∀ (w : World) (a : Option Addr) (n c n' c' : Nat), (binOp .eql 25 (.slice a n c) (.slice none n' c')).run Try.prog w = .ok (.bool a.isNone) w := fun w a n c n' c' => Go.Lib.run_eql_slice_nil w _ _ a n c n' c' Try.underlying25
 rcases A0 with _ | A0
 ·have e0 : l0 = [] := C_nil0 HR0.out
  subst e0
  have e1 : y280 = [] := by rw [Ny280.out, Ny277.out]; rfl
  go_enter Try.func41, Try.ntmps41
  go_wp2
  go_ret
  exact ⟨_, rfl, by first | exact Kd.R_nil _ _ _ _ _ | (rw [e1]; exact Kd.R_nil _ _ _ _ _), HB.out⟩
 go_enter Try.func41, Try.ntmps41
 go_wp2_with (first | ((with_reducible refine gate_dst (N := 5) rfl ?_); refine Kd.R_lit (Kd.int .i64) _ 2 ?hg (N := 5) ?hd (xs := ([] : List Int)) (inner := []) (ok := fun _ => True) (okp := fun _ => True) ?hr ?hp (fun _ hk => hk) trivial (Below.refl _ _) (Nat.le_refl _) (by simp) ?_; (case hd => rfl); (case hg => rfl); (case hr => exact gs); (case hp => exact (Reps.none _ _)); intro v278 w3 ho4 hb hg_ hnew_; clear hg_ hnew_; (first | rw [← Ny277.out] at ho4 | (simp only [Int.reduceToNat] at ho4; rw [← Ny277.out] at ho4)); have HO279 := am (Kd.R_lower ho4 (below_size (bw HB))); replace HB := bs HB hb; clear hb ho4) | ((with_reducible refine gate_builtin (b := .append) (xs := #[.tmp 5, .tmp 6]) rfl ?_); at_builtin; refine Kd.R_append_rows (Kd.int .i64) (w0 := w) w.heap.size rfl (.tmp 5) (.tmp 6) 25 2 (.int .i64 0) 8 rfl Try.underlying25 info2 rfl (by decide) (by omega) v278 y277 l0 _ _ _ (fun _ => True) (fun _ => False) rfl rfl ?aO ?aR (fun _ _ h => h) (fun _ h => h.elim) ?aF ?aB ?aS ?aL ?_; (case aR => exact cc (Kd.C_below HR0.out HB.out)); (case aB => exact (bw HB)); (case aF => exact (fun _ _ => trivial)); (case aO => exact (kR HO279)); (case aS => exact (below_size (bw HB))); (case aL => have := LMc2.out; omega); intro v281 w5 ho hb hg hat; rw [← Ny280.out] at ho; replace HB := am (hb); have HO282 := am (ho); clear HO279; clear ho hb hg hat))
 go_ret
 exact ⟨_, er, kR HO282, bw HB⟩

def impl_copies.l0 : Nat → List (List Int) → List (List Int) → Int → Int → Option ((List (List Int)))
 | 0, _, _, _, _ => none
 | k + 1, x3, x6, x7, x8 => if x8 < x7 then (if 0 ≤ x8 then (if x8 < (x6.length : Int) then ((slices_Clone_int64_int64.f (rd_L10 x6 x8)).bind fun t284 => (if x3.length < 5864062014805 then (impl_copies.l0 k (x3 ++ [t284]) x6 x7 (wrap64 (x8 + 1))) else (none))) else (none)) else (none)) else (some x3)
def impl_copies.f (k : Nat) (l0 : List (List Int)) : Option ((List (List Int))) := impl_copies.l0 k ([] : List (List Int)) l0 (l0.length : Int) 0
theorem impl_copies.mono_l : ∀ k, (∀ y0 y1 y2 y3, LeO (impl_copies.l0 k y0 y1 y2 y3) (impl_copies.l0 (k + 1) y0 y1 y2 y3))
 | 0 => fun _ _ _ _ r h => by simp [impl_copies.l0] at h
 | k + 1 => by
  have ih0 := impl_copies.mono_l k
  ·intro y0 y1 y2 y3
   unfold impl_copies.l0
   with_reducible repeat' first | exact ih0 .. | exact LeO.refl _ | exact LeO.none _ | refine LeO.ite ?_ ?_ | refine LeO.bind ?_ (fun _ => ?_)
theorem impl_copies.mono : ∀ a0 k, LeO (impl_copies.f k a0) (impl_copies.f (k + 1) a0) := by
 intro a0 k
 have ih0 := impl_copies.mono_l k
 unfold impl_copies.f
 with_reducible repeat' first | exact ih0 .. | exact LeO.refl _ | exact LeO.none _ | refine LeO.ite ?_ ?_ | refine LeO.bind ?_ (fun _ => ?_)
theorem impl_copies.calls (k : Nat) (A0 : Option Addr) (c0 : Nat) (l0 : List (List Int)) (r : List (List Int)) (w : World) (hr0 : Kd.C (Kd.slice 2 (Kd.int .i64)) w A0 l0.length l0) (hc0 : l0.length ≤ c0) (h : impl_copies.f k l0 = some r) :
  Calls Try.prog 40 #[.slice A0 l0.length c0] w fun e w' => ∃ v0_ : Value, e = .returned (v0_) ∧ Kd.S (Kd.slice 2 (Kd.int .i64)) 25 w' w.heap.size (fun _ => True) v0_ r ∧ Below w.heap.size w w' := by
 have HR0 := am hr0
 have HC0 := am hc0
 clear hr0 hc0
 have HB := am (Below.refl w.heap.size w)
 have H : (impl_copies.l0 k ([] : List (List Int)) l0 (l0.length : Int) 0) = some r := h
 clear h
 have H' := am H
 clear H
 go_enter Try.func40, Try.ntmps40
 go_wp2
 go_loopg [3, 8] k (fun kq v3 v8 w' => ∃ (x3_1 : List (List Int)) (x8_1 : Int), v8 = .int .i64 x8_1 ∧ Aside0 (impl_copies.l0 kq x3_1 l0 (l0.length : Int) x8_1 = some r) ∧ Aside0 (kq ≤ k) ∧ Aside0 (Kd.S (Kd.slice 2 (Kd.int .i64)) 25 w' w.heap.size (fun _ => True) v3 x3_1) ∧ Aside0 (Below w.heap.size w w'))
 case atStart => exact ⟨(([] : List (List Int))), (0), dr, H', ⟨Nat.le_refl _⟩, ⟨by first | exact Kd.S_nil _ _ _ _ _ | exact Kd.N_nil _ _ _ _ _ | exact Kd.V_nil _ _ _ _ _ | exact Kd.Q_nil _ _ _ _ _ | exact Kd.R_nil _ _ _ _ _⟩, ⟨bw HB⟩⟩
 clear H'
 obtain ⟨x3_1, x8_1, rfl, HA, HK1, HO_3, HB⟩ := hrel
 rcases gk with _ | k1
 ·exact absurd HA.out (by simp [impl_copies.l0])
 have H := HA.out
 clear HA
 simp only [impl_copies.l0] at H
 refine qI H ?_ ?_ <;> clear H <;> intro c2b0 H
 ·refine iM H ?_; clear H; intro c3b0 H
  refine iM H ?_; clear H; intro c4b0 H
  refine be H ?_; clear H; intro t284 A5 H
  refine iN H ?_; clear H; intro c6 H
  have LMc6 := am c6
  clear c6
  obtain ⟨y287, hy287⟩ : ∃ y_ : List (List Int), y_ = (x3_1 ++ [t284]) := ⟨_, rfl⟩
  replace H : (impl_copies.l0 k1 y287 l0 (l0.length : Int) (wrap64 (x8_1 + 1))) = some r := by first | (rw [hy287]; with_reducible exact H) | (have H2_ := (Option.bind_some _ _).symm.trans H; rw [hy287]; with_reducible exact H2_) | (have H2_ := (Option.bind_some _ _).symm.trans H; with_reducible exact H2_) | with_reducible exact H | (rw [hy287]; exact H) | exact H
  have Ny287 := am hy287
  clear hy287
  have H' := am H
  clear H
  have p283 : 0 ≤ (x8_1 : Int) := of_decide_eq_true as1
  have q283 : x8_1 < (l0.length : Int) := of_decide_eq_true as1
  obtain ⟨ad283, A283_0, c283_0, e283, hx283_0, hl283_0, hi283_0⟩ := at_L10 HR0.out x8_1 p283 q283
  cases e283
  replace hx283_0 := cl HB hx283_0
  have HR283_0 := am hi283_0
  have HC283_0 := am hl283_0
  clear hi283_0 hl283_0
  replace p283 := eq_true p283
  replace q283 := eq_true q283
  go_wp2_with (first | ((with_reducible refine gk 41 rfl ?_); refine gC 41 (some 14) Try.func41 #[.slice A283_0 (rd_L10 l0 x8_1).length c283_0] ((slices_Clone_int64_int64.calls _ _ (rd_L10 l0 x8_1) t284 _ (cc (Kd.C_below HR283_0.out HB.out)) HC283_0.out A5.out).mono ?_); rintro e w7 ⟨v285, rfl, ho0, hb⟩; refine ⟨_, rfl, ?_⟩; replace HO_3 := am (Kd.S_elder' (kS HO_3) (Kd.R_base ho0) hb); have HO286 := am (Kd.R_lower ho0 (below_size (bw HB))); replace HB := bs HB hb; clear hb; (try clear ho0); obtain ⟨Ao9, co9, eo9⟩ := Kd.R_slice HO286.out; subst eo9) | ((with_reducible refine gate_builtin (b := .append) (xs := #[.tmp 12, .tmp 15]) rfl ?_); at_builtin; refine Kd.S_append (Kd.slice 2 (Kd.int .i64)) (w0 := w) w.heap.size rfl (.tmp 12) (.tmp 15) 24 25 (.slice none 0 0) 24 rfl Try.underlying24 info25 rfl (by decide) (by omega) u3 x3_1 t284 [.slice Ao9 t284.length co9] (fun _ => True) (fun k_ => some k_ = (.slice Ao9 t284.length co9 : Value).ownBlock) rfl rfl ?aP (fun k_ hk_ => ((Kd.R_mono (ok' := fun k_ => ((fun _ => True)) k_ ∧ some k_ ≠ (u3 : Value).ownBlock) (Kd.R_apart' (HO286.out) (Kd.S_typed HO_3.out) (by decide)) (fun k_ hk => ⟨trivial, hk.2⟩))).1 k_ hk_.symm) ?aF ?aO ?aB ?aS ?aL ?_; (case aP => exact Kd.M_row (Kd.R_mono (Kd.R_tight rfl (Kd.R_mono (ok' := fun k_ => ((fun _ => True)) k_ ∧ some k_ ≠ (u3 : Value).ownBlock) (Kd.R_apart' (HO286.out) (Kd.S_typed HO_3.out) (by decide)) (fun k_ hk => ⟨trivial, hk.2⟩))) (fun _ h_ => h_))); (case aB => exact (bw HB)); (case aF => exact (fun _ _ => trivial)); (case aO => exact (by (with_reducible repeat (first | apply Kd.S_alloc | apply Kd.S_drewN | apply Kd.S_drew)); exact Kd.S_mono HO_3.out (fun k_ hk => ⟨trivial, fun e_ => hk.2 e_⟩))); (case aS => exact (below_size (bw HB))); (case aL => have := LMc6.out; omega); intro v288 w8 ho hb hg hat; rw [← Ny287.out] at ho; replace HB := am (hb); have HO289 := am (ho); clear HO_3; clear HO286; clear ho hb hg hat))
  go_roundg k1
  case measure => have := HK1.out; omega
  case rel => exact ⟨(y287), (wrap64 (x8_1 + 1)), dr, H', ⟨by have := HK1.out; omega⟩, ⟨kS HO289⟩, ⟨bw HB⟩⟩
 obtain rfl := Option.some.inj H
 go_wp2
 go_ret
 exact ⟨_, er, kS HO_3, bw HB⟩

def impl_Mixed_world.f (k : Nat) (l0_0 : List (S73)) (l0_1 : List (S75)) (l0_2 : List (List Int)) (l0_3 : List Int) (a0_4 : Int) (a0_5 : Bool) (a0_6 : Int) (a0_7 : Int) : Option ((List (List Int)) × List Int × Int × Bool × Int × Int) := (impl_copies.f k l0_2).bind fun t292 => ((slices_Clone_int64_int64.f l0_3).bind fun t295 => (some (t292, t295, a0_4, a0_5, a0_6, a0_7)))
theorem impl_Mixed_world.mono : ∀ a0 a1 a2 a3 a4 a5 a6 a7 k, LeO (impl_Mixed_world.f k a0 a1 a2 a3 a4 a5 a6 a7) (impl_Mixed_world.f (k + 1) a0 a1 a2 a3 a4 a5 a6 a7) := by
 intro a0 a1 a2 a3 a4 a5 a6 a7 k
 unfold impl_Mixed_world.f
 with_reducible repeat' first | exact impl_copies.mono .. | exact LeO.refl _ | exact LeO.none _ | refine LeO.ite ?_ ?_ | refine LeO.bind ?_ (fun _ => ?_)
def impl_Mixed_world.T1 : Bool × List (List Nat × List Nat) := (true, [([], []), ([0], [0]), ([1], [1]), ([], []), ([3], [3]), ([4, 2], [4]), ([], []), ([6], [6]), ([], []), ([8], [8]), ([], []), ([10], [10]), ([], []), ([12], [12]), ([2, 5, 7, 9, 11, 13], [2, 5, 7, 9, 11, 13]), ([14, 5, 0, 1, 2, 3, 4, 5, 6, 7, 8, 9, 10, 11, 12, 13, 14], [14])])
def impl_Mixed_world.B1 : List Nat := [0, 1, 3, 0, 8, 31, 0, 64, 0, 256, 0, 1024, 0, 4096, 16383, 32767]
theorem impl_Mixed_world.tab1 : rtab .any (opsOf Try.f22 1) = impl_Mixed_world.T1 := by kernel_rfl
theorem impl_Mixed_world.bits1 : waitsOk impl_Mixed_world.T1.2 impl_Mixed_world.B1 = true := by kernel_rfl
theorem impl_Mixed_world.calls (k : Nat) (A0_0 : Option Addr) (c0_0 : Nat) (l0_0 : List (S73)) (A0_1 : Option Addr) (c0_1 : Nat) (l0_1 : List (S75)) (A0_2 : Option Addr) (c0_2 : Nat) (l0_2 : List (List Int)) (A0_3 : Option Addr) (c0_3 : Nat) (l0_3 : List Int) (a0_4 : Int) (a0_5 : Bool) (a0_6 : Int) (a0_7 : Int) (r1 : List (List Int)) (r2 : List Int) (r3 : Int) (r4 : Bool) (r5 : Int) (r6 : Int) (w : World) (hr0_0 : Kd.C k73 w A0_0 l0_0.length l0_0) (hc0_0 : l0_0.length ≤ c0_0) (hr0_1 : Kd.C k75 w A0_1 l0_1.length l0_1) (hc0_1 : l0_1.length ≤ c0_1) (hr0_2 : Kd.C (Kd.slice 2 (Kd.int .i64)) w A0_2 l0_2.length l0_2) (hc0_2 : l0_2.length ≤ c0_2) (hr0_3 : Kd.C (Kd.int .i64) w A0_3 l0_3.length l0_3) (hc0_3 : l0_3.length ≤ c0_3) (h : impl_Mixed_world.f k l0_0 l0_1 l0_2 l0_3 a0_4 a0_5 a0_6 a0_7 = some (r1, r2, r3, r4, r5, r6)) :
  Calls Try.prog 22 #[.agg #[.slice A0_0 l0_0.length c0_0, .slice A0_1 l0_1.length c0_1, .slice A0_2 l0_2.length c0_2, .slice A0_3 l0_3.length c0_3, .int .i64 a0_4, .bool a0_5, .int .i64 a0_6, .int .i64 a0_7]] w fun e w' => ∃ v0_ v1_ : Value, e = .returned (.agg #[v0_, v1_, .int .i64 r3, .bool r4, .int .i64 r5, .int .i64 r6]) ∧ Kd.S (Kd.slice 2 (Kd.int .i64)) 25 w' w.heap.size (fun k_ => some k_ ≠ (v1_ : Value).ownBlock) v0_ r1 ∧ Kd.R (Kd.int .i64) 2 w' w.heap.size (fun _ => True) v1_ r2 ∧ Below w.heap.size w w' := by
 have hu36 := Try.underlying36
 have hu52 := Try.underlying52
 have HR0_0 := am hr0_0
 have HC0_0 := am hc0_0
 clear hr0_0 hc0_0
 have HR0_1 := am hr0_1
 have HC0_1 := am hc0_1
 clear hr0_1 hc0_1
 have HR0_2 := am hr0_2
 have HC0_2 := am hc0_2
 clear hr0_2 hc0_2
 have HR0_3 := am hr0_3
 have HC0_3 := am hc0_3
 clear hr0_3 hc0_3
 have HB := am (Below.refl w.heap.size w)
 have H : ((impl_copies.f k l0_2).bind fun t292 => ((slices_Clone_int64_int64.f l0_3).bind fun t295 => (some (t292, t295, a0_4, a0_5, a0_6, a0_7)))) = some (r1, r2, r3, r4, r5, r6) := h
 clear h
 refine be H ?_; clear H; intro t292 A2 H
 refine be H ?_; clear H; intro t295 A3 H
 simp only [Option.some.injEq, Prod.mk.injEq] at H
 obtain ⟨rfl, rfl, rfl, rfl, rfl, rfl⟩ := H
 go_enter Try.func22, Try.ntmps22
 try go_wp2_with (first | ((with_reducible refine gd 1 rfl ?_); refine bX 1 #[.slice A0_0 l0_0.length c0_0, .slice A0_1 l0_1.length c0_1, .slice A0_2 l0_2.length c0_2, .slice A0_3 l0_3.length c0_3, .int .i64 a0_4, .bool a0_5, .int .i64 a0_6, .int .i64 a0_7] 36 HB ?_; clear HB; intro gb290 w4 hg hb BK290 GW290 HB; clear hb hg) | ((with_reducible refine gd 2 rfl ?_); refine bX 2 #[.slice none 0 0, .slice none 0 0, .int .i64 0, .bool false, .int .i64 0, .int .i64 0] 52 HB ?_; clear HB; intro gb291 w5 hg hb BK291 GW291 HB; obtain ⟨NB290_291, NB291_290, BK290⟩ := b3 hg BK290 hb; clear hb hg))
 replace BK290 := am (blk_drew BK290.out)
 replace BK291 := am (blk_drew BK291.out)
 replace HB := am (below_drew1 HB.out)
 refine start_ (n := 16) (S := fun w' => w'.cell? ⟨gb290, 0, none⟩ = some (.slice A0_0 l0_0.length c0_0) ∧ w'.cell? ⟨gb290, 1, none⟩ = some (.slice A0_1 l0_1.length c0_1) ∧ w'.cell? ⟨gb290, 2, none⟩ = some (.slice A0_2 l0_2.length c0_2) ∧ w'.cell? ⟨gb290, 3, none⟩ = some (.slice A0_3 l0_3.length c0_3) ∧ w'.cell? ⟨gb290, 4, none⟩ = some (.int .i64 a0_4) ∧ w'.cell? ⟨gb290, 5, none⟩ = some (.bool a0_5) ∧ w'.cell? ⟨gb290, 6, none⟩ = some (.int .i64 a0_6) ∧ w'.cell? ⟨gb290, 7, none⟩ = some (.int .i64 a0_7)) (ds := []) (bv 16 0) (by kernel_rfl) rfl (by kernel_rfl) ⟨bc BK290 0, bc BK290 1, bc BK290 2, bc BK290 3, bc BK290 4, bc BK290 5, bc BK290 6, bc BK290 7⟩ (fun hHeld => ?_); refine with_tabW impl_Mixed_world.tab1 impl_Mixed_world.bits1 (fun HT_ HW_ => ?_)
 generalize w5.drew = w6 at BK290 BK291 HB hHeld ⊢
 refine pu 0 3 16 1 HT_ ?_
 refine pu 3 6 16 9 HT_ ?_
 refine pu 6 9 16 73 HT_ ?_
 refine pu 8 11 16 329 HT_ ?_
 refine pu 10 13 16 1353 HT_ ?_
 refine pu 12 15 16 5449 HT_ ?_
 refine tk 1 4 16 5451 HT_ HW_ hHeld ?_
 refine tk 4 7 16 5467 HT_ HW_ hHeld ?_
 refine tk 7 10 16 5595 HT_ HW_ hHeld ?_
 refine tk 9 12 16 6107 HT_ HW_ hHeld ?_
 refine tk 11 14 16 8155 HT_ HW_ hHeld ?_
 refine tk 13 16 16 16347 HT_ HW_ hHeld ?_
 refine on 2 (some 5) 16 16351 HT_ fun K hK => ?_
 refine goes_ Try.func40 (by kernel_rfl) rfl #[.slice A0_2 l0_2.length c0_2] (by rfl) rfl rfl gl ?_
 with_reducible refine (impl_copies.calls k _ _ l0_2 t292 _ ?side1 ?side2 A2.out).mono ?_
 (case side1 => exact cc (Kd.C_below HR0_2.out HB.out))
 (case side2 => exact HC0_2.out)
 rintro e w7 ⟨v293, rfl, ho0, hb⟩
 refine ⟨_, rfl, ?_⟩
 have n0_ := am (Kd.S_lower ho0 (below_size (bw HB)))
 have n1_ := bb BK290 hb
 have n2_ := bb BK291 hb
 have n3_ := am (below_step (bw HB) hb)
 clear BK290
 clear BK291
 clear HB
 have HO294 := n0_
 have BK290 := n1_
 have BK291 := n2_
 have HB := n3_
 clear n0_ n1_ n2_ n3_
 clear hb
 (try clear ho0)
 refine hK.out _ _ ⟨bc BK290 0, bc BK290 1, bc BK290 2, bc BK290 3, bc BK290 4, bc BK290 5, bc BK290 6, bc BK290 7⟩ (fun hHeld => ?_)
 clear hK K
 refine nm (some 5) ?_
 refine on 5 (some 8) 16 16383 HT_ fun K hK => ?_
 refine goes_ Try.func41 (by kernel_rfl) rfl #[.slice A0_3 l0_3.length c0_3] (by rfl) rfl rfl gl ?_
 with_reducible refine (slices_Clone_int64_int64.calls _ _ l0_3 t295 _ ?side1 ?side2 A3.out).mono ?_
 (case side1 => exact cc (Kd.C_below HR0_3.out HB.out))
 (case side2 => exact HC0_3.out)
 rintro e w8 ⟨v296, rfl, ho0, hb⟩
 refine ⟨_, rfl, ?_⟩
 have n0_ := am (Kd.S_elder' (kS HO294) (Kd.R_base ho0) hb)
 have n1_ := am (Kd.R_lower ho0 (below_size (bw HB)))
 have n2_ := bb BK290 hb
 have n3_ := bb BK291 hb
 have n4_ := am (below_step (bw HB) hb)
 clear HO294
 clear BK290
 clear BK291
 clear HB
 have HO294 := n0_
 have HO297 := n1_
 have BK290 := n2_
 have BK291 := n3_
 have HB := n4_
 clear n0_ n1_ n2_ n3_ n4_
 clear hb
 (try clear ho0)
 obtain ⟨Ao9, co9, eo9⟩ := Kd.R_slice HO297.out
 (first | subst eo9 | (injection eo9 with f1_ f2_ f3_; have f4_ := f1_.symm; have f5_ := f3_.symm; clear f1_ f2_ f3_; subst f4_; subst f5_))
 obtain ⟨Ao10, co10, eo10⟩ := Kd.S_slice HO294.out
 (first | subst eo10 | (injection eo10 with f1_ f2_ f3_; have f4_ := f1_.symm; have f5_ := f3_.symm; clear f1_ f2_ f3_; subst f4_; subst f5_))
 refine hK.out _ _ ⟨bc BK290 0, bc BK290 1, bc BK290 2, bc BK290 3, bc BK290 4, bc BK290 5, bc BK290 6, bc BK290 7⟩ (fun hHeld => ?_)
 clear hK K
 refine nm (some 8) ?_
 refine pu 14 17 16 32767 HT_ ?_
 refine on 15 none 16 65535 HT_ fun K hK => ?_
 have hs11 := bk w8 BK291 0
 have hfs11 := bf BK291 0
 have hns11_0 := NB290_291.out
 have hms11_0 := NB291_290.out
 have hs12 := bk w8 BK291 1
 have hfs12 := bf BK291 1
 have hns12_0 := NB290_291.out
 have hms12_0 := NB291_290.out
 have hs13 := bk w8 BK291 2
 have hfs13 := bf BK291 2
 have hns13_0 := NB290_291.out
 have hms13_0 := NB291_290.out
 have hs14 := bk w8 BK291 3
 have hfs14 := bf BK291 3
 have hns14_0 := NB290_291.out
 have hms14_0 := NB291_290.out
 have hs15 := bk w8 BK291 4
 have hfs15 := bf BK291 4
 have hns15_0 := NB290_291.out
 have hms15_0 := NB291_290.out
 have hs16 := bk w8 BK291 5
 have hfs16 := bf BK291 5
 have hns16_0 := NB290_291.out
 have hms16_0 := NB291_290.out
 refine skip_ (w1 := ?_) (by rfl) rfl ?_ ?_
 rotate_left
 ·go_simp
  rfl
 refine hK.out _ _ ⟨((cell_far (p := ⟨gb291, _, none⟩) NB290_291.out _).trans (((cell_far (p := ⟨gb291, _, none⟩) NB290_291.out _).trans (((cell_far (p := ⟨gb291, _, none⟩) NB290_291.out _).trans (((cell_far (p := ⟨gb291, _, none⟩) NB290_291.out _).trans (((cell_far (p := ⟨gb291, _, none⟩) NB290_291.out _).trans (((cell_far (p := ⟨gb291, _, none⟩) NB290_291.out _).trans (hHeld.1)))))))))))), ((cell_far (p := ⟨gb291, _, none⟩) NB290_291.out _).trans (((cell_far (p := ⟨gb291, _, none⟩) NB290_291.out _).trans (((cell_far (p := ⟨gb291, _, none⟩) NB290_291.out _).trans (((cell_far (p := ⟨gb291, _, none⟩) NB290_291.out _).trans (((cell_far (p := ⟨gb291, _, none⟩) NB290_291.out _).trans (((cell_far (p := ⟨gb291, _, none⟩) NB290_291.out _).trans (hHeld.2.1)))))))))))), ((cell_far (p := ⟨gb291, _, none⟩) NB290_291.out _).trans (((cell_far (p := ⟨gb291, _, none⟩) NB290_291.out _).trans (((cell_far (p := ⟨gb291, _, none⟩) NB290_291.out _).trans (((cell_far (p := ⟨gb291, _, none⟩) NB290_291.out _).trans (((cell_far (p := ⟨gb291, _, none⟩) NB290_291.out _).trans (((cell_far (p := ⟨gb291, _, none⟩) NB290_291.out _).trans (hHeld.2.2.1)))))))))))), ((cell_far (p := ⟨gb291, _, none⟩) NB290_291.out _).trans (((cell_far (p := ⟨gb291, _, none⟩) NB290_291.out _).trans (((cell_far (p := ⟨gb291, _, none⟩) NB290_291.out _).trans (((cell_far (p := ⟨gb291, _, none⟩) NB290_291.out _).trans (((cell_far (p := ⟨gb291, _, none⟩) NB290_291.out _).trans (((cell_far (p := ⟨gb291, _, none⟩) NB290_291.out _).trans (hHeld.2.2.2.1)))))))))))), ((cell_far (p := ⟨gb291, _, none⟩) NB290_291.out _).trans (((cell_far (p := ⟨gb291, _, none⟩) NB290_291.out _).trans (((cell_far (p := ⟨gb291, _, none⟩) NB290_291.out _).trans (((cell_far (p := ⟨gb291, _, none⟩) NB290_291.out _).trans (((cell_far (p := ⟨gb291, _, none⟩) NB290_291.out _).trans (((cell_far (p := ⟨gb291, _, none⟩) NB290_291.out _).trans (hHeld.2.2.2.2.1)))))))))))), ((cell_far (p := ⟨gb291, _, none⟩) NB290_291.out _).trans (((cell_far (p := ⟨gb291, _, none⟩) NB290_291.out _).trans (((cell_far (p := ⟨gb291, _, none⟩) NB290_291.out _).trans (((cell_far (p := ⟨gb291, _, none⟩) NB290_291.out _).trans (((cell_far (p := ⟨gb291, _, none⟩) NB290_291.out _).trans (((cell_far (p := ⟨gb291, _, none⟩) NB290_291.out _).trans (hHeld.2.2.2.2.2.1)))))))))))), ((cell_far (p := ⟨gb291, _, none⟩) NB290_291.out _).trans (((cell_far (p := ⟨gb291, _, none⟩) NB290_291.out _).trans (((cell_far (p := ⟨gb291, _, none⟩) NB290_291.out _).trans (((cell_far (p := ⟨gb291, _, none⟩) NB290_291.out _).trans (((cell_far (p := ⟨gb291, _, none⟩) NB290_291.out _).trans (((cell_far (p := ⟨gb291, _, none⟩) NB290_291.out _).trans (hHeld.2.2.2.2.2.2.1)))))))))))), ((cell_far (p := ⟨gb291, _, none⟩) NB290_291.out _).trans (((cell_far (p := ⟨gb291, _, none⟩) NB290_291.out _).trans (((cell_far (p := ⟨gb291, _, none⟩) NB290_291.out _).trans (((cell_far (p := ⟨gb291, _, none⟩) NB290_291.out _).trans (((cell_far (p := ⟨gb291, _, none⟩) NB290_291.out _).trans (((cell_far (p := ⟨gb291, _, none⟩) NB290_291.out _).trans (hHeld.2.2.2.2.2.2.2))))))))))))⟩ (fun hHeld => ?_)
 clear hK K
 refine done_ (done_of HT_.out (by kernel_rfl)) ?_
 try go_wp2
 refine bodyPost_ret (results_cell_row rfl _ _ gb291 52 #[.slice Ao10 t292.length co10, .slice Ao9 t295.length co9, .int .i64 a0_4, .bool a0_5, .int .i64 a0_6, .int .i64 a0_7] (0, 0) _ rfl (bt BK291) Try.underlying52 rfl (by kernel_rfl)) rfl ?_
 exact ⟨_, _, er, by (with_reducible repeat (first | apply Kd.S_alloc | apply Kd.S_drewN | apply Kd.S_drew)); exact Kd.S_mono (Kd.S_far (p := ⟨gb291, 5, none⟩) (Kd.S_far (p := ⟨gb291, 4, none⟩) (Kd.S_far (p := ⟨gb291, 3, none⟩) (Kd.S_far (p := ⟨gb291, 2, none⟩) (Kd.S_far (p := ⟨gb291, 1, none⟩) (Kd.S_far (p := ⟨gb291, 0, none⟩) (Kd.S_types HO294.out BK291.out (by decide)) (fun _ hk => hk.2) (.slice Ao10 t292.length co10)) (fun _ hk => hk.2) (.slice Ao9 t295.length co9)) (fun _ hk => hk.2) (.int .i64 a0_4)) (fun _ hk => hk.2) (.bool a0_5)) (fun _ hk => hk.2) (.int .i64 a0_6)) (fun _ hk => hk.2) (.int .i64 a0_7)) (fun _ hk => hk.1.2), by (with_reducible repeat (first | apply Kd.R_alloc | apply Kd.R_drewN | apply Kd.R_drew)); exact Kd.R_mono (Kd.R_far (p := ⟨gb291, 5, none⟩) (Kd.R_far (p := ⟨gb291, 4, none⟩) (Kd.R_far (p := ⟨gb291, 3, none⟩) (Kd.R_far (p := ⟨gb291, 2, none⟩) (Kd.R_far (p := ⟨gb291, 1, none⟩) (Kd.R_far (p := ⟨gb291, 0, none⟩) (Kd.R_types HO297.out BK291.out (by decide)) (fun _ hk => hk.2) (.slice Ao10 t292.length co10)) (fun _ hk => hk.2) (.slice Ao9 t295.length co9)) (fun _ hk => hk.2) (.int .i64 a0_4)) (fun _ hk => hk.2) (.bool a0_5)) (fun _ hk => hk.2) (.int .i64 a0_6)) (fun _ hk => hk.2) (.int .i64 a0_7)) (fun _ hk => trivial), bw HB⟩

def impl_MixTold.f (k : Nat) (l0_0 : List (S73)) (l0_1 : List (S75)) (l0_2 : List (List Int)) (l0_3 : List Int) (a0_4 : Int) (a0_5 : Bool) (a0_6 : Int) (a0_7 : Int) : Option ((List (S79)) × (List (List Int)) × List Int × Int × Bool × Int × Int) := (impl_Mixed_world.f k l0_0 l0_1 l0_2 l0_3 a0_4 a0_5 a0_6 a0_7).bind fun bt300 => (some (([] : List (S79)), bt300.1, bt300.2.1, bt300.2.2.1, bt300.2.2.2.1, bt300.2.2.2.2.1, bt300.2.2.2.2.2))
theorem impl_MixTold.mono : ∀ a0 a1 a2 a3 a4 a5 a6 a7 k, LeO (impl_MixTold.f k a0 a1 a2 a3 a4 a5 a6 a7) (impl_MixTold.f (k + 1) a0 a1 a2 a3 a4 a5 a6 a7) := by
 intro a0 a1 a2 a3 a4 a5 a6 a7 k
 unfold impl_MixTold.f
 with_reducible repeat' first | exact impl_Mixed_world.mono .. | exact LeO.refl _ | exact LeO.none _ | refine LeO.ite ?_ ?_ | refine LeO.bind ?_ (fun _ => ?_)
theorem impl_MixTold.calls (k : Nat) (A0_0 : Option Addr) (c0_0 : Nat) (l0_0 : List (S73)) (A0_1 : Option Addr) (c0_1 : Nat) (l0_1 : List (S75)) (A0_2 : Option Addr) (c0_2 : Nat) (l0_2 : List (List Int)) (A0_3 : Option Addr) (c0_3 : Nat) (l0_3 : List Int) (a0_4 : Int) (a0_5 : Bool) (a0_6 : Int) (a0_7 : Int) (r1 : List (S79)) (r2 : List (List Int)) (r3 : List Int) (r4 : Int) (r5 : Bool) (r6 : Int) (r7 : Int) (w : World) (hr0_0 : Kd.C k73 w A0_0 l0_0.length l0_0) (hc0_0 : l0_0.length ≤ c0_0) (hr0_1 : Kd.C k75 w A0_1 l0_1.length l0_1) (hc0_1 : l0_1.length ≤ c0_1) (hr0_2 : Kd.C (Kd.slice 2 (Kd.int .i64)) w A0_2 l0_2.length l0_2) (hc0_2 : l0_2.length ≤ c0_2) (hr0_3 : Kd.C (Kd.int .i64) w A0_3 l0_3.length l0_3) (hc0_3 : l0_3.length ≤ c0_3) (h : impl_MixTold.f k l0_0 l0_1 l0_2 l0_3 a0_4 a0_5 a0_6 a0_7 = some (r1, r2, r3, r4, r5, r6, r7)) :
  Calls Try.prog 7 #[.agg #[.slice A0_0 l0_0.length c0_0, .slice A0_1 l0_1.length c0_1, .slice A0_2 l0_2.length c0_2, .slice A0_3 l0_3.length c0_3, .int .i64 a0_4, .bool a0_5, .int .i64 a0_6, .int .i64 a0_7]] w fun e w' => ∃ v0_ v1_ v2_ : Value, e = .returned (.agg #[v0_, v1_, v2_, .int .i64 r4, .bool r5, .int .i64 r6, .int .i64 r7]) ∧ Kd.S k79 79 w' w.heap.size (fun k_ => some k_ ≠ (v2_ : Value).ownBlock) v0_ r1 ∧ Kd.S (Kd.slice 2 (Kd.int .i64)) 25 w' w.heap.size (fun k_ => some k_ ≠ (v2_ : Value).ownBlock) v1_ r2 ∧ Kd.R (Kd.int .i64) 2 w' w.heap.size (fun _ => True) v2_ r3 ∧ Below w.heap.size w w' := by
 have hu36 := Try.underlying36
 have hu31 := Try.underlying31
 have hu52 := Try.underlying52
 have HR0_0 := am hr0_0
 have HC0_0 := am hc0_0
 clear hr0_0 hc0_0
 have HR0_1 := am hr0_1
 have HC0_1 := am hc0_1
 clear hr0_1 hc0_1
 have HR0_2 := am hr0_2
 have HC0_2 := am hc0_2
 clear hr0_2 hc0_2
 have HR0_3 := am hr0_3
 have HC0_3 := am hc0_3
 clear hr0_3 hc0_3
 have HB := am (Below.refl w.heap.size w)
 have H : ((impl_Mixed_world.f k l0_0 l0_1 l0_2 l0_3 a0_4 a0_5 a0_6 a0_7).bind fun bt300 => (some (([] : List (S79)), bt300.1, bt300.2.1, bt300.2.2.1, bt300.2.2.2.1, bt300.2.2.2.2.1, bt300.2.2.2.2.2))) = some (r1, r2, r3, r4, r5, r6, r7) := h
 clear h
 replace H := Option.bind_eq_some_iff.mp H
 obtain ⟨⟨t300, t303, t306, t307, t308, t309⟩, A20, H⟩ := H
 replace H : (some (([] : List (S79)), t300, t303, t306, t307, t308, t309)) = some (r1, r2, r3, r4, r5, r6, r7) := H
 have A2 := am A20
 clear A20
 simp only [Option.some.injEq, Prod.mk.injEq] at H
 obtain ⟨rfl, rfl, rfl, rfl, rfl, rfl, rfl⟩ := H
 go_enter Try.func7, Try.ntmps7
 go_wp2_with (first | ((with_reducible refine gd 1 rfl ?_); refine bX 1 #[.slice A0_0 l0_0.length c0_0, .slice A0_1 l0_1.length c0_1, .slice A0_2 l0_2.length c0_2, .slice A0_3 l0_3.length c0_3, .int .i64 a0_4, .bool a0_5, .int .i64 a0_6, .int .i64 a0_7] 36 HB ?_; clear HB; intro gb298 w3 hg hb BK298 GW298 HB; clear hb hg) | ((with_reducible refine gd 2 rfl ?_); refine bX 2 #[.slice none 0 0, .slice none 0 0, .slice none 0 0, .int .i64 0, .bool false, .int .i64 0, .int .i64 0] 31 HB ?_; clear HB; intro gb299 w4 hg hb BK299 GW299 HB; obtain ⟨NB298_299, NB299_298, BK298⟩ := b3 hg BK298 hb; clear hb hg; have hnb5 := NB298_299.out; have hnc5 := NB299_298.out; have hcz6_0 := bk w4 BK298 0; have hcz6_1 := bk w4 BK298 1; have hcz6_2 := bk w4 BK298 2; have hcz6_3 := bk w4 BK298 3; have hcz6_4 := bk w4 BK298 4; have hcz6_5 := bk w4 BK298 5; have hcz6_6 := bk w4 BK298 6; have hcz6_7 := bk w4 BK298 7; have hfz6_0 := bf BK298 0; have hfz6_1 := bf BK298 1; have hfz6_2 := bf BK298 2; have hfz6_3 := bf BK298 3; have hfz6_4 := bf BK298 4; have hfz6_5 := bf BK298 5; have hfz6_6 := bf BK298 6; have hfz6_7 := bf BK298 7) | ((with_reducible refine gk 22 rfl ?_); refine gC 22 (some 5) Try.func22 #[.agg #[.slice A0_0 l0_0.length c0_0, .slice A0_1 l0_1.length c0_1, .slice A0_2 l0_2.length c0_2, .slice A0_3 l0_3.length c0_3, .int .i64 a0_4, .bool a0_5, .int .i64 a0_6, .int .i64 a0_7]] ((impl_Mixed_world.calls k _ _ l0_0 _ _ l0_1 _ _ l0_2 _ _ l0_3 a0_4 a0_5 a0_6 a0_7 t300 t303 t306 t307 t308 t309 _ (cc (Kd.C_below HR0_0.out HB.out)) HC0_0.out (cc (Kd.C_below HR0_1.out HB.out)) HC0_1.out (cc (Kd.C_below HR0_2.out HB.out)) HC0_2.out (cc (Kd.C_below HR0_3.out HB.out)) HC0_3.out A2.out).mono ?_); rintro e w7 ⟨v301, v304, rfl, ho0, ho1, hb⟩; refine ⟨_, rfl, ?_⟩; have HO302 := am (Kd.S_lower ho0 (below_size (bw HB))); have HO305 := am (Kd.R_lower ho1 (below_size (bw HB))); replace BK298 := bb BK298 hb; replace BK299 := bb BK299 hb; replace HB := bs HB hb; clear hb; (try clear ho0); (try clear ho1)) | ((with_reducible refine gd 3 rfl ?_); refine bX 3 #[.slice none 0 0, .slice none 0 0, .int .i64 0, .bool false, .int .i64 0, .int .i64 0] 52 HB ?_; clear HB; intro gb310 w8 hg hb BK310 GW310 HB; replace HO302 := am (Kd.S_below (kS HO302) hb); replace HO305 := am (Kd.R_below (kR HO305) hb); obtain ⟨NB298_310, NB310_298, BK298⟩ := b3 hg BK298 hb; obtain ⟨NB299_310, NB310_299, BK299⟩ := b3 hg BK299 hb; clear hb hg; obtain ⟨Ao9, co9, eo9⟩ := Kd.S_slice HO302.out; subst eo9; have hnb10 := NB310_298.out; have hnc10 := NB298_310.out; have hnb11 := NB310_299.out; have hnc11 := NB299_310.out; have hcz12_0 := bk w8 BK310 0; have hcz12_1 := bk w8 BK310 1; have hcz12_2 := bk w8 BK310 2; have hcz12_3 := bk w8 BK310 3; have hcz12_4 := bk w8 BK310 4; have hcz12_5 := bk w8 BK310 5; have hfz12_0 := bf BK310 0; have hfz12_1 := bf BK310 1; have hfz12_2 := bf BK310 2; have hfz12_3 := bf BK310 3; have hfz12_4 := bf BK310 4; have hfz12_5 := bf BK310 5; obtain ⟨Ao13, co13, eo13⟩ := Kd.R_slice HO305.out; subst eo13; have hcz14_0 := bk w8 BK299 0; have hcz14_1 := bk w8 BK299 1; have hcz14_2 := bk w8 BK299 2; have hcz14_3 := bk w8 BK299 3; have hcz14_4 := bk w8 BK299 4; have hcz14_5 := bk w8 BK299 5; have hcz14_6 := bk w8 BK299 6; have hfz14_0 := bf BK299 0; have hfz14_1 := bf BK299 1; have hfz14_2 := bf BK299 2; have hfz14_3 := bf BK299 3; have hfz14_4 := bf BK299 4; have hfz14_5 := bf BK299 5; have hfz14_6 := bf BK299 6))
 refine bodyPost_ret (results_cell_row rfl _ _ gb299 31 #[.slice none 0 0, .slice Ao9 t300.length co9, .slice Ao13 t303.length co13, .int .i64 t306, .bool t307, .int .i64 t308, .int .i64 t309] (0, 0) _ rfl (bt BK299) Try.underlying31 rfl (by kernel_rfl)) rfl ?_
 exact ⟨_, _, _, er, by first | exact Kd.S_nil _ _ _ _ _ | exact Kd.N_nil _ _ _ _ _ | exact Kd.V_nil _ _ _ _ _ | exact Kd.Q_nil _ _ _ _ _ | exact Kd.R_nil _ _ _ _ _, by (with_reducible repeat (first | apply Kd.S_alloc | apply Kd.S_drewN | apply Kd.S_drew)); exact Kd.S_mono (Kd.S_far (p := ⟨gb299, 6, none⟩) (Kd.S_far (p := ⟨gb299, 5, none⟩) (Kd.S_far (p := ⟨gb299, 4, none⟩) (Kd.S_far (p := ⟨gb299, 3, none⟩) (Kd.S_far (p := ⟨gb299, 2, none⟩) (Kd.S_far (p := ⟨gb299, 1, none⟩) (Kd.S_far (p := ⟨gb299, 0, none⟩) (Kd.S_far (p := ⟨gb310, 5, none⟩) (Kd.S_far (p := ⟨gb310, 4, none⟩) (Kd.S_far (p := ⟨gb310, 3, none⟩) (Kd.S_far (p := ⟨gb310, 2, none⟩) (Kd.S_far (p := ⟨gb310, 1, none⟩) (Kd.S_far (p := ⟨gb310, 0, none⟩) (Kd.S_types (Kd.S_types HO302.out BK310.out (by decide)) BK299.out (by decide)) (fun _ hk => hk.1.2) (.slice Ao9 t300.length co9)) (fun _ hk => hk.1.2) (.slice Ao13 t303.length co13)) (fun _ hk => hk.1.2) (.int .i64 t306)) (fun _ hk => hk.1.2) (.bool t307)) (fun _ hk => hk.1.2) (.int .i64 t308)) (fun _ hk => hk.1.2) (.int .i64 t309)) (fun _ hk => hk.2) (.slice none 0 0)) (fun _ hk => hk.2) (.slice Ao9 t300.length co9)) (fun _ hk => hk.2) (.slice Ao13 t303.length co13)) (fun _ hk => hk.2) (.int .i64 t306)) (fun _ hk => hk.2) (.bool t307)) (fun _ hk => hk.2) (.int .i64 t308)) (fun _ hk => hk.2) (.int .i64 t309)) (fun _ hk => hk.1.1), by (with_reducible repeat (first | apply Kd.R_alloc | apply Kd.R_drewN | apply Kd.R_drew)); exact Kd.R_mono (Kd.R_far (p := ⟨gb299, 6, none⟩) (Kd.R_far (p := ⟨gb299, 5, none⟩) (Kd.R_far (p := ⟨gb299, 4, none⟩) (Kd.R_far (p := ⟨gb299, 3, none⟩) (Kd.R_far (p := ⟨gb299, 2, none⟩) (Kd.R_far (p := ⟨gb299, 1, none⟩) (Kd.R_far (p := ⟨gb299, 0, none⟩) (Kd.R_far (p := ⟨gb310, 5, none⟩) (Kd.R_far (p := ⟨gb310, 4, none⟩) (Kd.R_far (p := ⟨gb310, 3, none⟩) (Kd.R_far (p := ⟨gb310, 2, none⟩) (Kd.R_far (p := ⟨gb310, 1, none⟩) (Kd.R_far (p := ⟨gb310, 0, none⟩) (Kd.R_types (Kd.R_types HO305.out BK310.out (by decide)) BK299.out (by decide)) (fun _ hk => hk.1.2) (.slice Ao9 t300.length co9)) (fun _ hk => hk.1.2) (.slice Ao13 t303.length co13)) (fun _ hk => hk.1.2) (.int .i64 t306)) (fun _ hk => hk.1.2) (.bool t307)) (fun _ hk => hk.1.2) (.int .i64 t308)) (fun _ hk => hk.1.2) (.int .i64 t309)) (fun _ hk => hk.2) (.slice none 0 0)) (fun _ hk => hk.2) (.slice Ao9 t300.length co9)) (fun _ hk => hk.2) (.slice Ao13 t303.length co13)) (fun _ hk => hk.2) (.int .i64 t306)) (fun _ hk => hk.2) (.bool t307)) (fun _ hk => hk.2) (.int .i64 t308)) (fun _ hk => hk.2) (.int .i64 t309)) (fun _ hk => trivial), bw HB⟩

end Go.Proofs.Yticdldoijkdffaa.QFnExactMixTold
