import Derived.Test.YtbmjmaahcaoajaaCFnExactSeenRightx0
import Derived.Test.YtbmjmaahcaoajaaCFnExactSeenRightx9
namespace Go.Proofs.Ytbmjmaahcaoajaa.QFnExactSeenRight
open Go.RowKit Go.Proofs.YtbmjmaahcaoajaaW
open PrintWords PrintLast PrintMore PrintShort
attribute [local go_sem] max2_int min2_int max_two min_two max_three min_three max_four min_four   -- for this text's walks alone
set_option linter.unusedVariables false
set_option maxHeartbeats 8000000
set_option maxRecDepth 100000
set_option linter.unusedSimpArgs false

def laws_toSeenS.l0 : Nat → List (S112) → List (S108) → Int → Option ((List (S108)))
 | 0, _, _, _ => none
 | k + 1, x0, x3, x4 => if x4 < (x0.length : Int) then (if 0 ≤ x4 then ((laws_toSeen.f ((rd_T112 x0 x4).f0) ((rd_T112 x0 x4).f1) ((rd_T112 x0 x4).f2) ((rd_T112 x0 x4).f3)).bind fun bt259 => (if x4 < (x3.length : Int) then (laws_toSeenS.l0 k x0 (x3.set (x4 : Int).toNat (⟨bt259.1, bt259.2.1, bt259.2.2.1, bt259.2.2.2⟩ : S108)) (wrap64 (x4 + 1))) else (none))) else (none)) else (some x3)
def laws_toSeenS.f (k : Nat) (l0 : List (S112)) : Option ((List (S108))) := if 0 ≤ (l0.length : Int) then (if ((l0.length : Int) : Int).toNat ≤ 8796093022208 then (laws_toSeenS.l0 k l0 (List.replicate ((l0.length : Int) : Int).toNat z108) 0) else (none)) else (none)
theorem laws_toSeenS.mono_l : ∀ k, (∀ y0 y1 y2, LeO (laws_toSeenS.l0 k y0 y1 y2) (laws_toSeenS.l0 (k + 1) y0 y1 y2))
 | 0 => fun _ _ _ r h => by simp [laws_toSeenS.l0] at h
 | k + 1 => by
  have ih0 := laws_toSeenS.mono_l k
  ·intro y0 y1 y2
   unfold laws_toSeenS.l0
   with_reducible repeat' first | exact ih0 .. | exact LeO.refl _ | exact LeO.none _ | refine LeO.ite ?_ ?_ | refine LeO.bind ?_ (fun _ => ?_)
theorem laws_toSeenS.mono : ∀ a0 k, LeO (laws_toSeenS.f k a0) (laws_toSeenS.f (k + 1) a0) := by
 intro a0 k
 have ih0 := laws_toSeenS.mono_l k
 unfold laws_toSeenS.f
 with_reducible repeat' first | exact ih0 .. | exact LeO.refl _ | exact LeO.none _ | refine LeO.ite ?_ ?_ | refine LeO.bind ?_ (fun _ => ?_)
theorem laws_toSeenS.calls (k : Nat) (A0 : Option Addr) (c0 : Nat) (l0 : List (S112)) (r : List (S108)) (w : World) (hr0 : Kd.C k112 w A0 l0.length l0) (hc0 : l0.length ≤ c0) (h : laws_toSeenS.f k l0 = some r) :
  Calls Try.prog 29 #[.slice A0 l0.length c0] w fun e w' => ∃ v0_ : Value, e = .returned (v0_) ∧ Kd.R k108 108 w' w.heap.size (fun _ => True) v0_ r ∧ Below w.heap.size w w' := by
 have hu112 := Try.underlying112
 have hu108 := Try.underlying108
 have HR0 := am hr0
 have HC0 := am hc0
 clear hr0 hc0
 have HB := am (Below.refl w.heap.size w)
 have H : (if 0 ≤ (l0.length : Int) then (if ((l0.length : Int) : Int).toNat ≤ 8796093022208 then (laws_toSeenS.l0 k l0 (List.replicate ((l0.length : Int) : Int).toNat z108) 0) else (none)) else (none)) = some r := h
 clear h
 refine iN H ?_; clear H; intro c2 H
 have c2b0 := eq_true c2
 have c2b1 := decide_eq_true c2
 clear c2
 refine iN H ?_; clear H; intro c3 H
 have c3b0 := eq_true c3
 have c3b1 := decide_eq_true c3
 clear c3
 obtain ⟨y255, hy255⟩ : ∃ y_ : List (S108), y_ = (List.replicate ((l0.length : Int) : Int).toNat z108) := ⟨_, rfl⟩
 replace H : (laws_toSeenS.l0 k l0 y255 0) = some r := by first | (rw [hy255]; with_reducible exact H) | (have H2_ := (Option.bind_some _ _).symm.trans H; rw [hy255]; with_reducible exact H2_) | (have H2_ := (Option.bind_some _ _).symm.trans H; with_reducible exact H2_) | with_reducible exact H | (rw [hy255]; exact H) | exact H
 have Ny255 := am hy255
 clear hy255
 have H' := am H
 clear H
 go_enter Try.func29, Try.ntmps29
 go_wp2_with (first | ((with_reducible refine gate_dst (N := 7) rfl ?_); refine Kd.R_make k108 _ 108 rfl (N := 7) rfl 42 _ _ rfl (l0.length : Int) rfl rfl Try.underlying42 (.agg #[(.int .i64 0), (.int .i64 0), (.int .i64 0), (.int .i64 0)]) 32 info108 rfl (by decide) (by omega) z108 (ok := fun _ => True) (okp := fun _ => True) (k108_mkM _ _ _ z108 ) (fun _ hk => hk) trivial (of_decide_eq_true as1) (Nat.le_trans (Nat.mul_le_mul_right _ (of_decide_eq_true as1 : (l0.length : Int).toNat ≤ 8796093022208)) (by omega)) (Below.refl _ _) (Nat.le_refl _) ?_; intro v256 w4 ho5 hb hg_ hnew_; clear hg_ hnew_; (first | rw [← Ny255.out] at ho5 | (simp only [Int.reduceToNat] at ho5; rw [← Ny255.out] at ho5)); have HO257 := am (Kd.R_lower ho5 (below_size (bw HB))); replace HB := bs HB hb; clear hb ho5))
 go_loopg [4] k (fun kq v4 w' => ∃ (x3_1 : List (S108)) (x4_1 : Int), v4 = .int .i64 x4_1 ∧ Aside0 (laws_toSeenS.l0 kq l0 x3_1 x4_1 = some r) ∧ Aside0 (kq ≤ k) ∧ Aside0 (Kd.R k108 108 w' w.heap.size (fun _ => True) v256 x3_1) ∧ Aside0 (Below w.heap.size w w'))
 case atStart => exact ⟨(y255), (0), dr, H', ⟨Nat.le_refl _⟩, ⟨kR HO257⟩, ⟨bw HB⟩⟩
 clear H'
 (try clear c2); (try clear c2b0); (try clear c2b1); (try clear p2); (try clear c3); (try clear c3b0); (try clear c3b1)
 obtain ⟨x3_1, x4_1, rfl, HA, HK1, HO_3, HB⟩ := hrel
 rcases gk with _ | k1
 ·exact absurd HA.out (by simp [laws_toSeenS.l0])
 have H := HA.out
 clear HA
 simp only [laws_toSeenS.l0] at H
 refine qI H ?_ ?_ <;> clear H <;> intro c6b0 H
 ·refine iM H ?_; clear H; intro c7b0 H
  replace H := Option.bind_eq_some_iff.mp H
  obtain ⟨⟨t259, t260, t261, t262⟩, A80, H⟩ := H
  replace H : (if x4_1 < (x3_1.length : Int) then (laws_toSeenS.l0 k1 l0 (x3_1.set (x4_1 : Int).toNat (⟨t259, t260, t261, t262⟩ : S108)) (wrap64 (x4_1 + 1))) else (none)) = some r := H
  have A8 := am A80
  clear A80
  refine iM H ?_; clear H; intro c9b0 H
  obtain ⟨y263, hy263⟩ : ∃ y_ : List (S108), y_ = (x3_1.set (x4_1 : Int).toNat (⟨t259, t260, t261, t262⟩ : S108)) := ⟨_, rfl⟩
  replace H : (laws_toSeenS.l0 k1 l0 y263 (wrap64 (x4_1 + 1))) = some r := by first | (rw [hy263]; with_reducible exact H) | (have H2_ := (Option.bind_some _ _).symm.trans H; rw [hy263]; with_reducible exact H2_) | (have H2_ := (Option.bind_some _ _).symm.trans H; with_reducible exact H2_) | with_reducible exact H | (rw [hy263]; exact H) | exact H
  have Ny263 := am hy263
  clear hy263
  have H' := am H
  clear H
  have p258 : 0 ≤ (x4_1 : Int) := of_decide_eq_true as1
  have q258 : x4_1 < (l0.length : Int) := of_decide_eq_true as1
  obtain ⟨ad258, e258, hx258_0, hx258_1, hx258_2, hx258_3⟩ := at_T112 HR0.out x4_1 p258 q258
  cases e258
  replace hx258_0 := cl HB hx258_0
  replace hx258_1 := cl HB hx258_1
  replace hx258_2 := cl HB hx258_2
  replace hx258_3 := cl HB hx258_3
  replace p258 := eq_true p258
  replace q258 := eq_true q258
  go_wp2_with (first | ((with_reducible refine gate_callee (f := 72) rfl ?_); refine goesL_ (some 20) rfl rfl Try.func72 (by kernel_rfl) rfl #[.agg #[.int .i64 ((rd_T112 l0 x4_1).f0), .int .i64 ((rd_T112 l0 x4_1).f1), .int .i64 ((rd_T112 l0 x4_1).f2), .int .i64 ((rd_T112 l0 x4_1).f3)]] rfl gl ?_; (with_reducible refine (laws_toSeen.calls ((rd_T112 l0 x4_1).f0) ((rd_T112 l0 x4_1).f1) ((rd_T112 l0 x4_1).f2) ((rd_T112 l0 x4_1).f3) t259 t260 t261 t262 _ A8.out).mono ?_); rintro e w11 ⟨rfl, hb⟩; refine ⟨_, rfl, ?_⟩; replace HO_3 := am (Kd.R_below (kR HO_3) hb); replace HB := bs HB hb; clear hb; have p10 : 0 ≤ (x4_1 : Int) := of_decide_eq_true as1; have q10 : (x4_1 : Int) < ((x3_1.length : Int) : Int) := of_decide_eq_true as1; obtain ⟨go10, co10, eo10, gb10, gl10, cl10, HG10⟩ := Kd.R_form HO_3.out (by omega); (first | cases eo10 | (injection eo10 with ea_ en_ ec_; (first | subst ea_ | (injection ea_ with ea_; subst ea_)); subst ec_; clear en_)); have GB10 := am gb10; have GG10 := am HG10; clear gb10 gl10 HG10; obtain ⟨ce10, hcl10, hM10, hcc10, hfr10⟩ := Kd.R_elem HO_3.out z108 (x4_1 : Int) p10 q10; obtain rfl := k108_openM hM10; have hx10_0 : w11.cell? ⟨go10, (x4_1 : Int).toNat * 4, none⟩ = some (.int .i64 ((rd_T108 x3_1 x4_1).f0)) := hcc10 0 _ rfl; have hx10_1 : w11.cell? ⟨go10, (x4_1 : Int).toNat * 4 + 1, none⟩ = some (.int .i64 ((rd_T108 x3_1 x4_1).f1)) := hcc10 1 _ rfl; have hx10_2 : w11.cell? ⟨go10, (x4_1 : Int).toNat * 4 + 2, none⟩ = some (.int .i64 ((rd_T108 x3_1 x4_1).f2)) := hcc10 2 _ rfl; have hx10_3 : w11.cell? ⟨go10, (x4_1 : Int).toNat * 4 + 3, none⟩ = some (.int .i64 ((rd_T108 x3_1 x4_1).f3)) := hcc10 3 _ rfl; have hf10_0 : w11.frozen? ⟨go10, (x4_1 : Int).toNat * 4, none⟩ = false := hfr10 0; have hf10_1 : w11.frozen? ⟨go10, (x4_1 : Int).toNat * 4 + 1, none⟩ = false := hfr10 1; have hf10_2 : w11.frozen? ⟨go10, (x4_1 : Int).toNat * 4 + 2, none⟩ = false := hfr10 2; have hf10_3 : w11.frozen? ⟨go10, (x4_1 : Int).toNat * 4 + 3, none⟩ = false := hfr10 3; (try clear hM10); (try clear hfr10); (try clear hcc10); (try clear hcl10); replace p10 := eq_true p10; replace q10 := eq_true q10; have HX12 := am (show Kd.R k108 108 w11 w.heap.size (fun _ => True) (.slice (some ⟨go10, 0, none⟩) x3_1.length co10) x3_1 from (kR HO_3)); obtain ⟨ce12, hcl12, hM12, hcc12, hfr12⟩ := Kd.R_elem HX12.out z108 (x4_1 : Int) (of_decide_eq_true as1) (by have h_ : (x4_1 : Int) < ((x3_1.length : Int) : Int) := of_decide_eq_true as1; first | exact h_ | (have e_ := (Kd.R_reads' HO_3.out).1; omega) | simpa using h_); obtain rfl := k108_openM hM12; have HP12 := Kd.R_seg HX12.out (x4_1 : Int) (of_decide_eq_true as1) (by have h_ : (x4_1 : Int) < ((x3_1.length : Int) : Int) := of_decide_eq_true as1; first | exact h_ | (have e_ := (Kd.R_reads' HO_3.out).1; omega) | simpa using h_) (seg := [.int .i64 t259, .int .i64 t260, .int .i64 t261, .int .i64 t262]) (j := 0) hcl12 hcc12 (show 4 ≤ 4 from by decide) (x' := (⟨t259, t260, t261, t262⟩ : S108)) (k108_mkM _ _ _ (⟨t259, t260, t261, t262⟩ : S108) ) (fun _ hk => hk); have hx12_0 := hcc12 0 _ rfl; (try simp only [show (k108).sz = 4 from rfl, Nat.mul_one, Nat.add_zero] at hx12_0); have hf12_0 := hfr12 0; (try simp only [show (k108).sz = 4 from rfl, Nat.mul_one, Nat.add_zero] at hf12_0); have hx12_1 := hcc12 1 _ rfl; (try simp only [show (k108).sz = 4 from rfl, Nat.mul_one, Nat.add_zero] at hx12_1); have hf12_1 := hfr12 1; (try simp only [show (k108).sz = 4 from rfl, Nat.mul_one, Nat.add_zero] at hf12_1); have hx12_2 := hcc12 2 _ rfl; (try simp only [show (k108).sz = 4 from rfl, Nat.mul_one, Nat.add_zero] at hx12_2); have hf12_2 := hfr12 2; (try simp only [show (k108).sz = 4 from rfl, Nat.mul_one, Nat.add_zero] at hf12_2); have hx12_3 := hcc12 3 _ rfl; (try simp only [show (k108).sz = 4 from rfl, Nat.mul_one, Nat.add_zero] at hx12_3); have hf12_3 := hfr12 3; (try simp only [show (k108).sz = 4 from rfl, Nat.mul_one, Nat.add_zero] at hf12_3); (try clear hM12); (try clear hfr12); (try clear hcc12); (try clear hcl12)) | ((with_reducible refine gt 108 21 rfl ?_); refine sE 108 21 ((((w11.setCell ⟨go10, (x4_1 : Int).toNat * 4, none⟩ (.int .i64 t259)).setCell ⟨go10, (x4_1 : Int).toNat * 4 + 1, none⟩ (.int .i64 t260)).setCell ⟨go10, (x4_1 : Int).toNat * 4 + 2, none⟩ (.int .i64 t261)).setCell ⟨go10, (x4_1 : Int).toNat * 4 + 3, none⟩ (.int .i64 t262)) ?_; intro w13 hw; have hg : w11.grownBy w13 (some go10) := (by rw [hw]; exact HP12.2); have hp_ : Kd.R k108 108 w13 w.heap.size (fun _ => True) (.slice (some ⟨go10, 0, none⟩) x3_1.length co10) y263 := (by rw [hw, Ny263.out]; exact HP12.1); clear HP12; replace HO_3 := am (hp_); replace HB := am ((by rw [hw]; exact below_set (below_set (below_set (below_set (HB.out) GB10.out) GB10.out) GB10.out) GB10.out : Below w.heap.size w w13)); clear hg hw hp_))
  go_roundg k1
  case measure => have := HK1.out; omega
  case rel => exact ⟨(y263), (wrap64 (x4_1 + 1)), dr, H', ⟨by have := HK1.out; omega⟩, ⟨kR HO_3⟩, ⟨bw HB⟩⟩
 obtain rfl := Option.some.inj H
 go_wp2
 go_ret
 exact ⟨_, er, kR HO_3, bw HB⟩

def impl_in.f (a0 : Int) (a1 : Int) (a2 : Int) : Option (Bool) := if a0 ≥ a1 then (some (decide (a0 ≤ a2))) else (some false)
theorem impl_in.calls (a0 : Int) (a1 : Int) (a2 : Int) (r : Bool) (w : World) (h : impl_in.f a0 a1 a2 = some r) :
  Calls Try.prog 85 #[.int .i64 a0, .int .i64 a1, .int .i64 a2] w fun e w' => e = .returned (.bool r) ∧ Drawn0 w w' := by
 have H : (if a0 ≥ a1 then (some (decide (a0 ≤ a2))) else (some false)) = some r := h
 clear h
 refine qL H ?_ ?_ <;> clear H <;> intro c4b0 H
 ·obtain rfl := Option.some.inj H
  go_enter Try.func85, Try.ntmps85
  go_wp2
  go_ret
  exact ⟨by first | rfl | (simp; done) | (simp [*]; done), by repeat (first | exact Drawn0.refl _ | apply Drawn0.step)⟩
 obtain rfl := Option.some.inj H
 go_enter Try.func85, Try.ntmps85
 go_wp2
 go_ret
 exact ⟨by first | rfl | (simp; done) | (simp [*]; done), by repeat (first | exact Drawn0.refl _ | apply Drawn0.step)⟩

def impl_hasFunc.f (l0_0 : List (S100)) (a1 : Int) : Option (Bool) := if a1 ≥ 0 then (some (decide (a1 < (l0_0.length : Int)))) else (some false)
theorem impl_hasFunc.calls (A0_0 : Option Addr) (c0_0 : Nat) (l0_0 : List (S100)) (a1 : Int) (r : Bool) (w : World) (hr0_0 : Kd.C k100 w A0_0 l0_0.length l0_0) (hc0_0 : l0_0.length ≤ c0_0) (h : impl_hasFunc.f l0_0 a1 = some r) :
  Calls Try.prog 121 #[.agg #[.slice A0_0 l0_0.length c0_0], .int .i64 a1] w fun e w' => e = .returned (.bool r) ∧ Below w.heap.size w w' := by
 have hu30 := Try.underlying30
 have HR0_0 := am hr0_0
 have HC0_0 := am hc0_0
 clear hr0_0 hc0_0
 have HB := am (Below.refl w.heap.size w)
 have H : (if a1 ≥ 0 then (some (decide (a1 < (l0_0.length : Int)))) else (some false)) = some r := h
 clear h
 refine qL H ?_ ?_ <;> clear H <;> intro c3b0 H
 ·obtain rfl := Option.some.inj H
  go_enter Try.func121, Try.ntmps121
  go_wp2_with (first | ((with_reducible refine gate_dst (N := 2) rfl ?_); (try (refine gate_guard (by rfl) ?_; dsimp only)); refine box_event ?hg (N := 2) ?hd (cs := #[.slice A0_0 l0_0.length c0_0]) (t := 30) ?hr ?_; (case hd => rfl); (case hg => rfl); (case hr => exact gs); intro gb264 hg w4 hbox hb; have BK264 := am (hbox); have GW264 := gw hg HB; replace HB := bs HB hb; clear hb hbox hg; have hcz5 := bK w4 BK264; have hfz5 := bF BK264))
  go_ret
  exact ⟨er, bw HB⟩
 obtain rfl := Option.some.inj H
 go_enter Try.func121, Try.ntmps121
 go_wp2_with (first | ((with_reducible refine gate_dst (N := 2) rfl ?_); (try (refine gate_guard (by rfl) ?_; dsimp only)); refine box_event ?hg (N := 2) ?hd (cs := #[.slice A0_0 l0_0.length c0_0]) (t := 30) ?hr ?_; (case hd => rfl); (case hg => rfl); (case hr => exact gs); intro gb264 hg w6 hbox hb; have BK264 := am (hbox); have GW264 := gw hg HB; replace HB := bs HB hb; clear hb hbox hg))
 go_ret
 exact ⟨er, bw HB⟩

def impl_opNames.f  : Option (List ByteArray) := some (([(⟨#[]⟩ : ByteArray), (⟨#[112, 117, 115, 104]⟩ : ByteArray), (⟨#[108, 111, 97, 100]⟩ : ByteArray), (⟨#[115, 116, 111, 114, 101]⟩ : ByteArray), (⟨#[100, 117, 112]⟩ : ByteArray), (⟨#[112, 111, 112]⟩ : ByteArray), (⟨#[]⟩ : ByteArray), (⟨#[]⟩ : ByteArray), (⟨#[]⟩ : ByteArray), (⟨#[]⟩ : ByteArray), (⟨#[97, 100, 100]⟩ : ByteArray), (⟨#[115, 117, 98]⟩ : ByteArray), (⟨#[109, 117, 108]⟩ : ByteArray), (⟨#[100, 105, 118]⟩ : ByteArray), (⟨#[114, 101, 109]⟩ : ByteArray), (⟨#[97, 110, 100]⟩ : ByteArray), (⟨#[111, 114]⟩ : ByteArray), (⟨#[120, 111, 114]⟩ : ByteArray), (⟨#[115, 104, 108]⟩ : ByteArray), (⟨#[115, 104, 114]⟩ : ByteArray), (⟨#[117, 115, 104, 114]⟩ : ByteArray), (⟨#[108, 101, 115, 115]⟩ : ByteArray), (⟨#[97, 116, 109, 111, 115, 116]⟩ : ByteArray), (⟨#[115, 97, 109, 101]⟩ : ByteArray), (⟨#[110, 101, 103]⟩ : ByteArray), (⟨#[110, 111, 116]⟩ : ByteArray), (⟨#[98, 121, 116, 101]⟩ : ByteArray), (⟨#[115, 104, 111, 114, 116]⟩ : ByteArray), (⟨#[105, 110, 116]⟩ : ByteArray), (⟨#[119, 111, 114, 100]⟩ : ByteArray), (⟨#[106, 117, 109, 112]⟩ : ByteArray), (⟨#[106, 122]⟩ : ByteArray), (⟨#[99, 97, 108, 108]⟩ : ByteArray), (⟨#[114, 101, 116]⟩ : ByteArray), (⟨#[110, 101, 119]⟩ : ByteArray), (⟨#[103, 101, 116]⟩ : ByteArray), (⟨#[115, 101, 116]⟩ : ByteArray), (⟨#[108, 101, 110]⟩ : ByteArray), (⟨#[111, 117, 116]⟩ : ByteArray)] : List ByteArray))
theorem impl_opNames.calls  (r : List ByteArray) (w : World) (h : impl_opNames.f  = some r) :
  Calls Try.prog 200 #[] w fun e w' => ∃ v0_ : Value, e = .returned (v0_) ∧ Kd.R Kd.string 9 w' w.heap.size (fun _ => True) v0_ r ∧ Below w.heap.size w w' := by
 have HB := am (Below.refl w.heap.size w)
 have H : (some (([(⟨#[]⟩ : ByteArray), (⟨#[112, 117, 115, 104]⟩ : ByteArray), (⟨#[108, 111, 97, 100]⟩ : ByteArray), (⟨#[115, 116, 111, 114, 101]⟩ : ByteArray), (⟨#[100, 117, 112]⟩ : ByteArray), (⟨#[112, 111, 112]⟩ : ByteArray), (⟨#[]⟩ : ByteArray), (⟨#[]⟩ : ByteArray), (⟨#[]⟩ : ByteArray), (⟨#[]⟩ : ByteArray), (⟨#[97, 100, 100]⟩ : ByteArray), (⟨#[115, 117, 98]⟩ : ByteArray), (⟨#[109, 117, 108]⟩ : ByteArray), (⟨#[100, 105, 118]⟩ : ByteArray), (⟨#[114, 101, 109]⟩ : ByteArray), (⟨#[97, 110, 100]⟩ : ByteArray), (⟨#[111, 114]⟩ : ByteArray), (⟨#[120, 111, 114]⟩ : ByteArray), (⟨#[115, 104, 108]⟩ : ByteArray), (⟨#[115, 104, 114]⟩ : ByteArray), (⟨#[117, 115, 104, 114]⟩ : ByteArray), (⟨#[108, 101, 115, 115]⟩ : ByteArray), (⟨#[97, 116, 109, 111, 115, 116]⟩ : ByteArray), (⟨#[115, 97, 109, 101]⟩ : ByteArray), (⟨#[110, 101, 103]⟩ : ByteArray), (⟨#[110, 111, 116]⟩ : ByteArray), (⟨#[98, 121, 116, 101]⟩ : ByteArray), (⟨#[115, 104, 111, 114, 116]⟩ : ByteArray), (⟨#[105, 110, 116]⟩ : ByteArray), (⟨#[119, 111, 114, 100]⟩ : ByteArray), (⟨#[106, 117, 109, 112]⟩ : ByteArray), (⟨#[106, 122]⟩ : ByteArray), (⟨#[99, 97, 108, 108]⟩ : ByteArray), (⟨#[114, 101, 116]⟩ : ByteArray), (⟨#[110, 101, 119]⟩ : ByteArray), (⟨#[103, 101, 116]⟩ : ByteArray), (⟨#[115, 101, 116]⟩ : ByteArray), (⟨#[108, 101, 110]⟩ : ByteArray), (⟨#[111, 117, 116]⟩ : ByteArray)] : List ByteArray))) = some r := h
 clear h
 obtain ⟨y265, hy265⟩ : ∃ y_ : List ByteArray, y_ = (([(⟨#[]⟩ : ByteArray), (⟨#[112, 117, 115, 104]⟩ : ByteArray), (⟨#[108, 111, 97, 100]⟩ : ByteArray), (⟨#[115, 116, 111, 114, 101]⟩ : ByteArray), (⟨#[100, 117, 112]⟩ : ByteArray), (⟨#[112, 111, 112]⟩ : ByteArray), (⟨#[]⟩ : ByteArray), (⟨#[]⟩ : ByteArray), (⟨#[]⟩ : ByteArray), (⟨#[]⟩ : ByteArray), (⟨#[97, 100, 100]⟩ : ByteArray), (⟨#[115, 117, 98]⟩ : ByteArray), (⟨#[109, 117, 108]⟩ : ByteArray), (⟨#[100, 105, 118]⟩ : ByteArray), (⟨#[114, 101, 109]⟩ : ByteArray), (⟨#[97, 110, 100]⟩ : ByteArray), (⟨#[111, 114]⟩ : ByteArray), (⟨#[120, 111, 114]⟩ : ByteArray), (⟨#[115, 104, 108]⟩ : ByteArray), (⟨#[115, 104, 114]⟩ : ByteArray), (⟨#[117, 115, 104, 114]⟩ : ByteArray), (⟨#[108, 101, 115, 115]⟩ : ByteArray), (⟨#[97, 116, 109, 111, 115, 116]⟩ : ByteArray), (⟨#[115, 97, 109, 101]⟩ : ByteArray), (⟨#[110, 101, 103]⟩ : ByteArray), (⟨#[110, 111, 116]⟩ : ByteArray), (⟨#[98, 121, 116, 101]⟩ : ByteArray), (⟨#[115, 104, 111, 114, 116]⟩ : ByteArray), (⟨#[105, 110, 116]⟩ : ByteArray), (⟨#[119, 111, 114, 100]⟩ : ByteArray), (⟨#[106, 117, 109, 112]⟩ : ByteArray), (⟨#[106, 122]⟩ : ByteArray), (⟨#[99, 97, 108, 108]⟩ : ByteArray), (⟨#[114, 101, 116]⟩ : ByteArray), (⟨#[110, 101, 119]⟩ : ByteArray), (⟨#[103, 101, 116]⟩ : ByteArray), (⟨#[115, 101, 116]⟩ : ByteArray), (⟨#[108, 101, 110]⟩ : ByteArray), (⟨#[111, 117, 116]⟩ : ByteArray)] : List ByteArray)) := ⟨_, rfl⟩
 replace H : (some y265) = some r := by first | (rw [hy265]; with_reducible exact H) | (have H2_ := (Option.bind_some _ _).symm.trans H; rw [hy265]; with_reducible exact H2_) | (have H2_ := (Option.bind_some _ _).symm.trans H; with_reducible exact H2_) | with_reducible exact H | (rw [hy265]; exact H) | exact H
 have Ny265 := am hy265
 clear hy265
 obtain rfl := Option.some.inj H
 go_enter Try.func200, Try.ntmps200
 go_wp2_with (first | ((with_reducible refine gate_dst (N := 1) rfl ?_); refine Kd.R_lit Kd.string _ 9 ?hg (N := 1) ?hd (xs := ([(⟨#[]⟩ : ByteArray), (⟨#[112, 117, 115, 104]⟩ : ByteArray), (⟨#[108, 111, 97, 100]⟩ : ByteArray), (⟨#[115, 116, 111, 114, 101]⟩ : ByteArray), (⟨#[100, 117, 112]⟩ : ByteArray), (⟨#[112, 111, 112]⟩ : ByteArray), (⟨#[]⟩ : ByteArray), (⟨#[]⟩ : ByteArray), (⟨#[]⟩ : ByteArray), (⟨#[]⟩ : ByteArray), (⟨#[97, 100, 100]⟩ : ByteArray), (⟨#[115, 117, 98]⟩ : ByteArray), (⟨#[109, 117, 108]⟩ : ByteArray), (⟨#[100, 105, 118]⟩ : ByteArray), (⟨#[114, 101, 109]⟩ : ByteArray), (⟨#[97, 110, 100]⟩ : ByteArray), (⟨#[111, 114]⟩ : ByteArray), (⟨#[120, 111, 114]⟩ : ByteArray), (⟨#[115, 104, 108]⟩ : ByteArray), (⟨#[115, 104, 114]⟩ : ByteArray), (⟨#[117, 115, 104, 114]⟩ : ByteArray), (⟨#[108, 101, 115, 115]⟩ : ByteArray), (⟨#[97, 116, 109, 111, 115, 116]⟩ : ByteArray), (⟨#[115, 97, 109, 101]⟩ : ByteArray), (⟨#[110, 101, 103]⟩ : ByteArray), (⟨#[110, 111, 116]⟩ : ByteArray), (⟨#[98, 121, 116, 101]⟩ : ByteArray), (⟨#[115, 104, 111, 114, 116]⟩ : ByteArray), (⟨#[105, 110, 116]⟩ : ByteArray), (⟨#[119, 111, 114, 100]⟩ : ByteArray), (⟨#[106, 117, 109, 112]⟩ : ByteArray), (⟨#[106, 122]⟩ : ByteArray), (⟨#[99, 97, 108, 108]⟩ : ByteArray), (⟨#[114, 101, 116]⟩ : ByteArray), (⟨#[110, 101, 119]⟩ : ByteArray), (⟨#[103, 101, 116]⟩ : ByteArray), (⟨#[115, 101, 116]⟩ : ByteArray), (⟨#[108, 101, 110]⟩ : ByteArray), (⟨#[111, 117, 116]⟩ : ByteArray)] : List ByteArray)) (inner := [.string (⟨#[]⟩ : ByteArray), .string (⟨#[112, 117, 115, 104]⟩ : ByteArray), .string (⟨#[108, 111, 97, 100]⟩ : ByteArray), .string (⟨#[115, 116, 111, 114, 101]⟩ : ByteArray), .string (⟨#[100, 117, 112]⟩ : ByteArray), .string (⟨#[112, 111, 112]⟩ : ByteArray), .string (⟨#[]⟩ : ByteArray), .string (⟨#[]⟩ : ByteArray), .string (⟨#[]⟩ : ByteArray), .string (⟨#[]⟩ : ByteArray), .string (⟨#[97, 100, 100]⟩ : ByteArray), .string (⟨#[115, 117, 98]⟩ : ByteArray), .string (⟨#[109, 117, 108]⟩ : ByteArray), .string (⟨#[100, 105, 118]⟩ : ByteArray), .string (⟨#[114, 101, 109]⟩ : ByteArray), .string (⟨#[97, 110, 100]⟩ : ByteArray), .string (⟨#[111, 114]⟩ : ByteArray), .string (⟨#[120, 111, 114]⟩ : ByteArray), .string (⟨#[115, 104, 108]⟩ : ByteArray), .string (⟨#[115, 104, 114]⟩ : ByteArray), .string (⟨#[117, 115, 104, 114]⟩ : ByteArray), .string (⟨#[108, 101, 115, 115]⟩ : ByteArray), .string (⟨#[97, 116, 109, 111, 115, 116]⟩ : ByteArray), .string (⟨#[115, 97, 109, 101]⟩ : ByteArray), .string (⟨#[110, 101, 103]⟩ : ByteArray), .string (⟨#[110, 111, 116]⟩ : ByteArray), .string (⟨#[98, 121, 116, 101]⟩ : ByteArray), .string (⟨#[115, 104, 111, 114, 116]⟩ : ByteArray), .string (⟨#[105, 110, 116]⟩ : ByteArray), .string (⟨#[119, 111, 114, 100]⟩ : ByteArray), .string (⟨#[106, 117, 109, 112]⟩ : ByteArray), .string (⟨#[106, 122]⟩ : ByteArray), .string (⟨#[99, 97, 108, 108]⟩ : ByteArray), .string (⟨#[114, 101, 116]⟩ : ByteArray), .string (⟨#[110, 101, 119]⟩ : ByteArray), .string (⟨#[103, 101, 116]⟩ : ByteArray), .string (⟨#[115, 101, 116]⟩ : ByteArray), .string (⟨#[108, 101, 110]⟩ : ByteArray), .string (⟨#[111, 117, 116]⟩ : ByteArray)]) (ok := fun _ => True) (okp := fun _ => True) ?hr ?hp (fun _ hk => hk) trivial (Below.refl _ _) (Nat.le_refl _) (by simp) ?_; (case hd => rfl); (case hg => rfl); (case hr => exact gs); (case hp => exact (Reps.one (show Kd.M Kd.string _ _ _ (⟨#[]⟩ : ByteArray) [.string (⟨#[]⟩ : ByteArray)] from rfl) (Reps.one (show Kd.M Kd.string _ _ _ (⟨#[112, 117, 115, 104]⟩ : ByteArray) [.string (⟨#[112, 117, 115, 104]⟩ : ByteArray)] from rfl) (Reps.one (show Kd.M Kd.string _ _ _ (⟨#[108, 111, 97, 100]⟩ : ByteArray) [.string (⟨#[108, 111, 97, 100]⟩ : ByteArray)] from rfl) (Reps.one (show Kd.M Kd.string _ _ _ (⟨#[115, 116, 111, 114, 101]⟩ : ByteArray) [.string (⟨#[115, 116, 111, 114, 101]⟩ : ByteArray)] from rfl) (Reps.one (show Kd.M Kd.string _ _ _ (⟨#[100, 117, 112]⟩ : ByteArray) [.string (⟨#[100, 117, 112]⟩ : ByteArray)] from rfl) (Reps.one (show Kd.M Kd.string _ _ _ (⟨#[112, 111, 112]⟩ : ByteArray) [.string (⟨#[112, 111, 112]⟩ : ByteArray)] from rfl) (Reps.one (show Kd.M Kd.string _ _ _ (⟨#[]⟩ : ByteArray) [.string (⟨#[]⟩ : ByteArray)] from rfl) (Reps.one (show Kd.M Kd.string _ _ _ (⟨#[]⟩ : ByteArray) [.string (⟨#[]⟩ : ByteArray)] from rfl) (Reps.one (show Kd.M Kd.string _ _ _ (⟨#[]⟩ : ByteArray) [.string (⟨#[]⟩ : ByteArray)] from rfl) (Reps.one (show Kd.M Kd.string _ _ _ (⟨#[]⟩ : ByteArray) [.string (⟨#[]⟩ : ByteArray)] from rfl) (Reps.one (show Kd.M Kd.string _ _ _ (⟨#[97, 100, 100]⟩ : ByteArray) [.string (⟨#[97, 100, 100]⟩ : ByteArray)] from rfl) (Reps.one (show Kd.M Kd.string _ _ _ (⟨#[115, 117, 98]⟩ : ByteArray) [.string (⟨#[115, 117, 98]⟩ : ByteArray)] from rfl) (Reps.one (show Kd.M Kd.string _ _ _ (⟨#[109, 117, 108]⟩ : ByteArray) [.string (⟨#[109, 117, 108]⟩ : ByteArray)] from rfl) (Reps.one (show Kd.M Kd.string _ _ _ (⟨#[100, 105, 118]⟩ : ByteArray) [.string (⟨#[100, 105, 118]⟩ : ByteArray)] from rfl) (Reps.one (show Kd.M Kd.string _ _ _ (⟨#[114, 101, 109]⟩ : ByteArray) [.string (⟨#[114, 101, 109]⟩ : ByteArray)] from rfl) (Reps.one (show Kd.M Kd.string _ _ _ (⟨#[97, 110, 100]⟩ : ByteArray) [.string (⟨#[97, 110, 100]⟩ : ByteArray)] from rfl) (Reps.one (show Kd.M Kd.string _ _ _ (⟨#[111, 114]⟩ : ByteArray) [.string (⟨#[111, 114]⟩ : ByteArray)] from rfl) (Reps.one (show Kd.M Kd.string _ _ _ (⟨#[120, 111, 114]⟩ : ByteArray) [.string (⟨#[120, 111, 114]⟩ : ByteArray)] from rfl) (Reps.one (show Kd.M Kd.string _ _ _ (⟨#[115, 104, 108]⟩ : ByteArray) [.string (⟨#[115, 104, 108]⟩ : ByteArray)] from rfl) (Reps.one (show Kd.M Kd.string _ _ _ (⟨#[115, 104, 114]⟩ : ByteArray) [.string (⟨#[115, 104, 114]⟩ : ByteArray)] from rfl) (Reps.one (show Kd.M Kd.string _ _ _ (⟨#[117, 115, 104, 114]⟩ : ByteArray) [.string (⟨#[117, 115, 104, 114]⟩ : ByteArray)] from rfl) (Reps.one (show Kd.M Kd.string _ _ _ (⟨#[108, 101, 115, 115]⟩ : ByteArray) [.string (⟨#[108, 101, 115, 115]⟩ : ByteArray)] from rfl) (Reps.one (show Kd.M Kd.string _ _ _ (⟨#[97, 116, 109, 111, 115, 116]⟩ : ByteArray) [.string (⟨#[97, 116, 109, 111, 115, 116]⟩ : ByteArray)] from rfl) (Reps.one (show Kd.M Kd.string _ _ _ (⟨#[115, 97, 109, 101]⟩ : ByteArray) [.string (⟨#[115, 97, 109, 101]⟩ : ByteArray)] from rfl) (Reps.one (show Kd.M Kd.string _ _ _ (⟨#[110, 101, 103]⟩ : ByteArray) [.string (⟨#[110, 101, 103]⟩ : ByteArray)] from rfl) (Reps.one (show Kd.M Kd.string _ _ _ (⟨#[110, 111, 116]⟩ : ByteArray) [.string (⟨#[110, 111, 116]⟩ : ByteArray)] from rfl) (Reps.one (show Kd.M Kd.string _ _ _ (⟨#[98, 121, 116, 101]⟩ : ByteArray) [.string (⟨#[98, 121, 116, 101]⟩ : ByteArray)] from rfl) (Reps.one (show Kd.M Kd.string _ _ _ (⟨#[115, 104, 111, 114, 116]⟩ : ByteArray) [.string (⟨#[115, 104, 111, 114, 116]⟩ : ByteArray)] from rfl) (Reps.one (show Kd.M Kd.string _ _ _ (⟨#[105, 110, 116]⟩ : ByteArray) [.string (⟨#[105, 110, 116]⟩ : ByteArray)] from rfl) (Reps.one (show Kd.M Kd.string _ _ _ (⟨#[119, 111, 114, 100]⟩ : ByteArray) [.string (⟨#[119, 111, 114, 100]⟩ : ByteArray)] from rfl) (Reps.one (show Kd.M Kd.string _ _ _ (⟨#[106, 117, 109, 112]⟩ : ByteArray) [.string (⟨#[106, 117, 109, 112]⟩ : ByteArray)] from rfl) (Reps.one (show Kd.M Kd.string _ _ _ (⟨#[106, 122]⟩ : ByteArray) [.string (⟨#[106, 122]⟩ : ByteArray)] from rfl) (Reps.one (show Kd.M Kd.string _ _ _ (⟨#[99, 97, 108, 108]⟩ : ByteArray) [.string (⟨#[99, 97, 108, 108]⟩ : ByteArray)] from rfl) (Reps.one (show Kd.M Kd.string _ _ _ (⟨#[114, 101, 116]⟩ : ByteArray) [.string (⟨#[114, 101, 116]⟩ : ByteArray)] from rfl) (Reps.one (show Kd.M Kd.string _ _ _ (⟨#[110, 101, 119]⟩ : ByteArray) [.string (⟨#[110, 101, 119]⟩ : ByteArray)] from rfl) (Reps.one (show Kd.M Kd.string _ _ _ (⟨#[103, 101, 116]⟩ : ByteArray) [.string (⟨#[103, 101, 116]⟩ : ByteArray)] from rfl) (Reps.one (show Kd.M Kd.string _ _ _ (⟨#[115, 101, 116]⟩ : ByteArray) [.string (⟨#[115, 101, 116]⟩ : ByteArray)] from rfl) (Reps.one (show Kd.M Kd.string _ _ _ (⟨#[108, 101, 110]⟩ : ByteArray) [.string (⟨#[108, 101, 110]⟩ : ByteArray)] from rfl) (Reps.one (show Kd.M Kd.string _ _ _ (⟨#[111, 117, 116]⟩ : ByteArray) [.string (⟨#[111, 117, 116]⟩ : ByteArray)] from rfl) (Reps.none _ _))))))))))))))))))))))))))))))))))))))))); intro v266 w1 ho2 hb hg_ hnew_; clear hg_ hnew_; (first | rw [← Ny265.out] at ho2 | (simp only [Int.reduceToNat] at ho2; rw [← Ny265.out] at ho2)); have HO267 := am (Kd.R_lower ho2 (below_size (bw HB))); replace HB := bs HB hb; clear hb ho2))
 go_ret
 exact ⟨_, er, kR HO267, bw HB⟩

def impl_OpName.f (a0 : Int) : Option (ByteArray) := (impl_in.f a0 0 38).bind fun t268 => (if t268 = true then ((impl_opNames.f).bind fun t269 => (if 0 ≤ a0 then (if a0 < (t269.length : Int) then (some (rdOf ByteArray.empty t269 a0)) else (none)) else (none))) else (some (⟨#[]⟩ : ByteArray)))
theorem impl_OpName.calls (a0 : Int) (r : ByteArray) (w : World) (h : impl_OpName.f a0 = some r) :
  Calls Try.prog 192 #[.int .i64 a0] w fun e w' => e = .returned (.string r) ∧ Below w.heap.size w w' := by
 have HB := am (Below.refl w.heap.size w)
 have H : ((impl_in.f a0 0 38).bind fun t268 => (if t268 = true then ((impl_opNames.f).bind fun t269 => (if 0 ≤ a0 then (if a0 < (t269.length : Int) then (some (rdOf ByteArray.empty t269 a0)) else (none)) else (none))) else (some (⟨#[]⟩ : ByteArray)))) = some r := h
 clear h
 refine be H ?_; clear H; intro t268 A2 H
 refine qT H ?_ ?_ <;> clear H <;> intro c3 H <;> subst c3
 ·refine be H ?_; clear H; intro t269 A4 H
  refine iM H ?_; clear H; intro c5b0 H
  refine iM H ?_; clear H; intro c6b0 H
  obtain rfl := Option.some.inj H
  go_enter Try.func192, Try.ntmps192
  go_wp2_with (first | ((with_reducible refine gate_callee (f := 85) rfl ?_); refine goesL_ (some 4) rfl rfl Try.func85 (by kernel_rfl) rfl #[.int .i64 a0, .int .i64 0, .int .i64 38] rfl gl ?_; (with_reducible refine (impl_in.calls a0 0 38 true _ A2.out).mono ?_); rintro e w' ⟨rfl, ⟨nd, rfl⟩⟩; refine ⟨_, rfl, ?_⟩) | ((with_reducible refine gate_callee (f := 200) rfl ?_); refine goesL_ (some 6) rfl rfl Try.func200 (by kernel_rfl) rfl #[] rfl gl ?_; (with_reducible refine (impl_opNames.calls  t269 _ A4.out).mono ?_); rintro e w7 ⟨v270, rfl, ho0, hb⟩; refine ⟨_, rfl, ?_⟩; have HO271 := am (Kd.R_lower ho0 (below_size (bw HB))); replace HB := bs HB hb; clear hb; (try clear ho0); obtain ⟨Ao8, co8, eo8⟩ := Kd.R_slice HO271.out; subst eo8; have p272 : 0 ≤ (a0 : Int) := of_decide_eq_true as1; have q272 : a0 < (t269.length : Int) := of_decide_eq_true as1; obtain ⟨ad272, e272, hx272_0⟩ := Kd.at_string (Kd.R_reads' HO271.out).2.2 a0 p272 q272; cases e272; replace p272 := eq_true p272; replace q272 := eq_true q272))
  go_ret
  exact ⟨er, bw HB⟩
 obtain rfl := Option.some.inj H
 go_enter Try.func192, Try.ntmps192
 go_wp2_with (first | ((with_reducible refine gate_callee (f := 85) rfl ?_); refine goesL_ (some 4) rfl rfl Try.func85 (by kernel_rfl) rfl #[.int .i64 a0, .int .i64 0, .int .i64 38] rfl gl ?_; (with_reducible refine (impl_in.calls a0 0 38 false _ A2.out).mono ?_); rintro e w' ⟨rfl, ⟨nd, rfl⟩⟩; refine ⟨_, rfl, ?_⟩))
 go_ret
 exact ⟨er, bw HB⟩

mutual
def impl_InsRight.j0 : Nat → Int → Int → Bool → List (S100) → Int → Int → Option (Bool)
 | 0, _, _, _, _, _, _ => none
 | k + 1, x1, x12, x15, x274000, x275000, x275001 => if x15 = true then (if x275001 ≥ 0 then (if 0 ≤ x1 then (if x1 < (x274000.length : Int) then (some (decide (x275001 < ((rd_T100 x274000 x1).f1)))) else (none)) else (none)) else (some false)) else (if x12 = 30 then (impl_InsRight.j1 k x1 x12 (x12 == 30) x274000 x275000 x275001) else (impl_InsRight.j1 k x1 x12 (x12 == 31) x274000 x275000 x275001))
def impl_InsRight.j1 : Nat → Int → Int → Bool → List (S100) → Int → Int → Option (Bool)
 | 0, _, _, _, _, _, _ => none
 | k + 1, x1, x12, x32, x274000, x275000, x275001 => if x32 = true then (if x275001 ≥ 0 then (if 0 ≤ x1 then (if x1 < (x274000.length : Int) then (some (decide (x275001 < (((rd_T100 x274000 x1).f2).length : Int)))) else (none)) else (none)) else (some false)) else (if x12 = 32 then ((impl_hasFunc.f x274000 x275001).bind fun t278 => (some t278)) else ((impl_OpName.f x275000).bind fun t279 => (if t279.toList = ([] : List UInt8) then (some false) else (some (x275001 == 0)))))
end
def impl_InsRight.f (k : Nat) (l0_0 : List (S100)) (a1 : Int) (a2_0 : Int) (a2_1 : Int) : Option (Bool) := (impl_hasFunc.f l0_0 a1).bind fun t275 => (if t275 = true then (if a2_0 = 1 then (some true) else (if a2_0 = 2 then (impl_InsRight.j0 k a1 a2_0 (a2_0 == 2) l0_0 a2_0 a2_1) else (impl_InsRight.j0 k a1 a2_0 (a2_0 == 3) l0_0 a2_0 a2_1))) else (some false))
theorem impl_InsRight.mono_l : ∀ k, (∀ y0 y1 y2 y3 y4 y5, LeO (impl_InsRight.j0 k y0 y1 y2 y3 y4 y5) (impl_InsRight.j0 (k + 1) y0 y1 y2 y3 y4 y5)) ∧ (∀ y0 y1 y2 y3 y4 y5, LeO (impl_InsRight.j1 k y0 y1 y2 y3 y4 y5) (impl_InsRight.j1 (k + 1) y0 y1 y2 y3 y4 y5))
 | 0 => ⟨fun _ _ _ _ _ _ r h => by simp [impl_InsRight.j0] at h, fun _ _ _ _ _ _ r h => by simp [impl_InsRight.j1] at h⟩
 | k + 1 => by
  obtain ⟨ih0, ih1⟩ := impl_InsRight.mono_l k
  refine ⟨?_, ?_⟩
  ·intro y0 y1 y2 y3 y4 y5
   unfold impl_InsRight.j0
   with_reducible repeat' first | exact ih0 .. | exact ih1 .. | exact LeO.refl _ | exact LeO.none _ | refine LeO.ite ?_ ?_ | refine LeO.bind ?_ (fun _ => ?_)
  ·intro y0 y1 y2 y3 y4 y5
   unfold impl_InsRight.j1
   with_reducible repeat' first | exact ih0 .. | exact ih1 .. | exact LeO.refl _ | exact LeO.none _ | refine LeO.ite ?_ ?_ | refine LeO.bind ?_ (fun _ => ?_)
theorem impl_InsRight.mono : ∀ a0 a1 a2 a3 k, LeO (impl_InsRight.f k a0 a1 a2 a3) (impl_InsRight.f (k + 1) a0 a1 a2 a3) := by
 intro a0 a1 a2 a3 k
 obtain ⟨ih0, ih1⟩ := impl_InsRight.mono_l k
 unfold impl_InsRight.f
 with_reducible repeat' first | exact ih0 .. | exact ih1 .. | exact LeO.refl _ | exact LeO.none _ | refine LeO.ite ?_ ?_ | refine LeO.bind ?_ (fun _ => ?_)
theorem impl_InsRight.calls (k : Nat) (A0_0 : Option Addr) (c0_0 : Nat) (l0_0 : List (S100)) (a1 : Int) (a2_0 : Int) (a2_1 : Int) (r : Bool) (w : World) (hr0_0 : Kd.C k100 w A0_0 l0_0.length l0_0) (hc0_0 : l0_0.length ≤ c0_0) (h : impl_InsRight.f k l0_0 a1 a2_0 a2_1 = some r) :
  Calls Try.prog 173 #[.agg #[.slice A0_0 l0_0.length c0_0], .int .i64 a1, .agg #[.int .i64 a2_0, .int .i64 a2_1]] w fun e w' => e = .returned (.bool r) ∧ Below w.heap.size w w' := by
 have hu30 := Try.underlying30
 have hu102 := Try.underlying102
 have HR0_0 := am hr0_0
 have HC0_0 := am hc0_0
 clear hr0_0 hc0_0
 have HB := am (Below.refl w.heap.size w)
 have H : ((impl_hasFunc.f l0_0 a1).bind fun t275 => (if t275 = true then (if a2_0 = 1 then (some true) else (if a2_0 = 2 then (impl_InsRight.j0 k a1 a2_0 (a2_0 == 2) l0_0 a2_0 a2_1) else (impl_InsRight.j0 k a1 a2_0 (a2_0 == 3) l0_0 a2_0 a2_1))) else (some false))) = some r := h
 clear h
 refine be H ?_; clear H; intro t275 A4 H
 refine qT H ?_ ?_ <;> clear H <;> intro c5 H <;> subst c5
 ·refine qE H ?_ ?_ <;> clear H
  ·intro c6b0 c6b1 H
   obtain rfl := Option.some.inj H
   go_enter Try.func173, Try.ntmps173
   go_wp2_with (first | ((with_reducible refine gate_dst (N := 3) rfl ?_); (try (refine gate_guard (by rfl) ?_; dsimp only)); refine box_event ?hg (N := 3) ?hd (cs := #[.slice A0_0 l0_0.length c0_0]) (t := 30) ?hr ?_; (case hd => rfl); (case hg => rfl); (case hr => exact gs); intro gb273 hg w7 hbox hb; have BK273 := am (hbox); have GW273 := gw hg HB; replace HB := bs HB hb; clear hb hbox hg) | ((with_reducible refine gate_dst (N := 5) rfl ?_); (try (refine gate_guard (by rfl) ?_; dsimp only)); refine box_event ?hg (N := 5) ?hd (cs := #[.int .i64 a2_0, .int .i64 a2_1]) (t := 102) ?hr ?_; (case hd => rfl); (case hg => rfl); (case hr => exact gs); intro gb274 hg w8 hbox hb; have BK274 := am (hbox); have GW274 := gw hg HB; replace HB := bs HB hb; obtain ⟨NB273_274, NB274_273, BK273⟩ := b3 hg BK273 hb; clear hb hbox hg; have hnb9 := NB273_274.out; have hnc9 := NB274_273.out; have hcz10 := bK w8 BK273; have hfz10 := bF BK273) | (go_at_call 121; refine (impl_hasFunc.calls _ _ l0_0 a1 true _ (cc (Kd.C_below HR0_0.out HB.out)) HC0_0.out A4.out).mono ?_; rintro e w11 ⟨rfl, hb⟩; replace BK273 := bb BK273 hb; replace BK274 := bb BK274 hb; replace HB := bs HB hb; clear hb; have hcz12 := bK w11 BK274; have hfz12 := bF BK274))
   repeat (go_quiet (first | ((with_reducible refine gate_dst (N := 3) rfl ?_); (try (refine gate_guard (by rfl) ?_; dsimp only)); refine box_event ?hg (N := 3) ?hd (cs := #[.slice A0_0 l0_0.length c0_0]) (t := 30) ?hr ?_; (case hd => rfl); (case hg => rfl); (case hr => exact gs); intro gb273 hg w7 hbox hb; have BK273 := am (hbox); have GW273 := gw hg HB; replace HB := bs HB hb; clear hb hbox hg) | ((with_reducible refine gate_dst (N := 5) rfl ?_); (try (refine gate_guard (by rfl) ?_; dsimp only)); refine box_event ?hg (N := 5) ?hd (cs := #[.int .i64 a2_0, .int .i64 a2_1]) (t := 102) ?hr ?_; (case hd => rfl); (case hg => rfl); (case hr => exact gs); intro gb274 hg w8 hbox hb; have BK274 := am (hbox); have GW274 := gw hg HB; replace HB := bs HB hb; obtain ⟨NB273_274, NB274_273, BK273⟩ := b3 hg BK273 hb; clear hb hbox hg; have hnb9 := NB273_274.out; have hnc9 := NB274_273.out; have hcz10 := bK w8 BK273; have hfz10 := bF BK273) | (go_at_call 121; refine (impl_hasFunc.calls _ _ l0_0 a1 true _ (cc (Kd.C_below HR0_0.out HB.out)) HC0_0.out A4.out).mono ?_; rintro e w11 ⟨rfl, hb⟩; replace BK273 := bb BK273 hb; replace BK274 := bb BK274 hb; replace HB := bs HB hb; clear hb; have hcz12 := bK w11 BK274; have hfz12 := bF BK274)); try go_wp2_with (first | ((with_reducible refine gate_dst (N := 3) rfl ?_); (try (refine gate_guard (by rfl) ?_; dsimp only)); refine box_event ?hg (N := 3) ?hd (cs := #[.slice A0_0 l0_0.length c0_0]) (t := 30) ?hr ?_; (case hd => rfl); (case hg => rfl); (case hr => exact gs); intro gb273 hg w7 hbox hb; have BK273 := am (hbox); have GW273 := gw hg HB; replace HB := bs HB hb; clear hb hbox hg) | ((with_reducible refine gate_dst (N := 5) rfl ?_); (try (refine gate_guard (by rfl) ?_; dsimp only)); refine box_event ?hg (N := 5) ?hd (cs := #[.int .i64 a2_0, .int .i64 a2_1]) (t := 102) ?hr ?_; (case hd => rfl); (case hg => rfl); (case hr => exact gs); intro gb274 hg w8 hbox hb; have BK274 := am (hbox); have GW274 := gw hg HB; replace HB := bs HB hb; obtain ⟨NB273_274, NB274_273, BK273⟩ := b3 hg BK273 hb; clear hb hbox hg; have hnb9 := NB273_274.out; have hnc9 := NB274_273.out; have hcz10 := bK w8 BK273; have hfz10 := bF BK273) | (go_at_call 121; refine (impl_hasFunc.calls _ _ l0_0 a1 true _ (cc (Kd.C_below HR0_0.out HB.out)) HC0_0.out A4.out).mono ?_; rintro e w11 ⟨rfl, hb⟩; replace BK273 := bb BK273 hb; replace BK274 := bb BK274 hb; replace HB := bs HB hb; clear hb; have hcz12 := bK w11 BK274; have hfz12 := bF BK274)))
   go_ret
   exact ⟨er, bw HB⟩
  intro c6 c6b0 c6b1 H
  have HC13 := am H
  clear H
  go_enter Try.func173, Try.ntmps173
  go_upto_if 15 with (first | ((with_reducible refine gate_dst (N := 3) rfl ?_); (try (refine gate_guard (by rfl) ?_; dsimp only)); refine box_event ?hg (N := 3) ?hd (cs := #[.slice A0_0 l0_0.length c0_0]) (t := 30) ?hr ?_; (case hd => rfl); (case hg => rfl); (case hr => exact gs); intro gb273 hg w14 hbox hb; have BK273 := am (hbox); have GW273 := gw hg HB; replace HB := bs HB hb; clear hb hbox hg) | ((with_reducible refine gate_dst (N := 5) rfl ?_); (try (refine gate_guard (by rfl) ?_; dsimp only)); refine box_event ?hg (N := 5) ?hd (cs := #[.int .i64 a2_0, .int .i64 a2_1]) (t := 102) ?hr ?_; (case hd => rfl); (case hg => rfl); (case hr => exact gs); intro gb274 hg w15 hbox hb; have BK274 := am (hbox); have GW274 := gw hg HB; replace HB := bs HB hb; obtain ⟨NB273_274, NB274_273, BK273⟩ := b3 hg BK273 hb; clear hb hbox hg; have hnb16 := NB273_274.out; have hnc16 := NB274_273.out; have hcz17 := bK w15 BK273; have hfz17 := bF BK273) | (go_at_call 121; refine (impl_hasFunc.calls _ _ l0_0 a1 true _ (cc (Kd.C_below HR0_0.out HB.out)) HC0_0.out A4.out).mono ?_; rintro e w18 ⟨rfl, hb⟩; replace BK273 := bb BK273 hb; replace BK274 := bb BK274 hb; replace HB := bs HB hb; clear hb; have hcz19 := bK w18 BK274; have hfz19 := bF BK274))
  repeat (go_quiet (first | ((with_reducible refine gate_dst (N := 3) rfl ?_); (try (refine gate_guard (by rfl) ?_; dsimp only)); refine box_event ?hg (N := 3) ?hd (cs := #[.slice A0_0 l0_0.length c0_0]) (t := 30) ?hr ?_; (case hd => rfl); (case hg => rfl); (case hr => exact gs); intro gb273 hg w14 hbox hb; have BK273 := am (hbox); have GW273 := gw hg HB; replace HB := bs HB hb; clear hb hbox hg) | ((with_reducible refine gate_dst (N := 5) rfl ?_); (try (refine gate_guard (by rfl) ?_; dsimp only)); refine box_event ?hg (N := 5) ?hd (cs := #[.int .i64 a2_0, .int .i64 a2_1]) (t := 102) ?hr ?_; (case hd => rfl); (case hg => rfl); (case hr => exact gs); intro gb274 hg w15 hbox hb; have BK274 := am (hbox); have GW274 := gw hg HB; replace HB := bs HB hb; obtain ⟨NB273_274, NB274_273, BK273⟩ := b3 hg BK273 hb; clear hb hbox hg; have hnb16 := NB273_274.out; have hnc16 := NB274_273.out; have hcz17 := bK w15 BK273; have hfz17 := bF BK273) | (go_at_call 121; refine (impl_hasFunc.calls _ _ l0_0 a1 true _ (cc (Kd.C_below HR0_0.out HB.out)) HC0_0.out A4.out).mono ?_; rintro e w18 ⟨rfl, hb⟩; replace BK273 := bb BK273 hb; replace BK274 := bb BK274 hb; replace HB := bs HB hb; clear hb; have hcz19 := bK w18 BK274; have hfz19 := bF BK274)); go_upto_if 15 with (first | ((with_reducible refine gate_dst (N := 3) rfl ?_); (try (refine gate_guard (by rfl) ?_; dsimp only)); refine box_event ?hg (N := 3) ?hd (cs := #[.slice A0_0 l0_0.length c0_0]) (t := 30) ?hr ?_; (case hd => rfl); (case hg => rfl); (case hr => exact gs); intro gb273 hg w14 hbox hb; have BK273 := am (hbox); have GW273 := gw hg HB; replace HB := bs HB hb; clear hb hbox hg) | ((with_reducible refine gate_dst (N := 5) rfl ?_); (try (refine gate_guard (by rfl) ?_; dsimp only)); refine box_event ?hg (N := 5) ?hd (cs := #[.int .i64 a2_0, .int .i64 a2_1]) (t := 102) ?hr ?_; (case hd => rfl); (case hg => rfl); (case hr => exact gs); intro gb274 hg w15 hbox hb; have BK274 := am (hbox); have GW274 := gw hg HB; replace HB := bs HB hb; obtain ⟨NB273_274, NB274_273, BK273⟩ := b3 hg BK273 hb; clear hb hbox hg; have hnb16 := NB273_274.out; have hnc16 := NB274_273.out; have hcz17 := bK w15 BK273; have hfz17 := bF BK273) | (go_at_call 121; refine (impl_hasFunc.calls _ _ l0_0 a1 true _ (cc (Kd.C_below HR0_0.out HB.out)) HC0_0.out A4.out).mono ?_; rintro e w18 ⟨rfl, hb⟩; replace BK273 := bb BK273 hb; replace BK274 := bb BK274 hb; replace HB := bs HB hb; clear hb; have hcz19 := bK w18 BK274; have hfz19 := bF BK274)))
  (try simp only [Act.put, sa, sz, ss])
  go_cut [15] (fun v15 wc => ∃ (kq : Nat) (x15_12 : Bool), v15 = .bool x15_12 ∧ Aside0 (impl_InsRight.j0 kq a1 a2_0 x15_12 l0_0 a2_0 a2_1 = some r) ∧ Aside0 (kq ≤ k) ∧ Aside0 (wc.heap[gb273]? = some (.cells #[(.slice A0_0 l0_0.length c0_0)] 30 (0, 0))) ∧ Aside0 (wc.heap[gb274]? = some (.cells #[.int .i64 a2_0, .int .i64 a2_1] 102 (0, 0))) ∧ Aside0 (Below w.heap.size w wc))
  case first =>
   have H := HC13.out
   clear HC13
   refine qE H ?_ ?_ <;> clear H
   ·intro c20b0 c20b1 H
    (first | rw [c20b0] | (simp only [i64_w, i32_w]; rw [c20b0]) | skip)
    have H' := am H
    clear H
    go_wp2
    repeat (go_quiet (fail); try go_wp2)
    go_meet
    case rel => exact ⟨_, ((a2_0 == 2)), dr, H', ⟨lk0⟩, ⟨bp BK273⟩, ⟨bp BK274⟩, ⟨bw HB⟩⟩
   intro c20 c20b0 c20b1 H
   (first | rw [c20b0] | (simp only [i64_w, i32_w]; rw [c20b0]) | skip)
   have H' := am H
   clear H
   go_wp2
   repeat (go_quiet (fail); try go_wp2)
   go_meet
   case rel => exact ⟨_, ((a2_0 == 3)), dr, H', ⟨lk0⟩, ⟨bp BK273⟩, ⟨bp BK274⟩, ⟨bw HB⟩⟩
  clear HC13
  (try clear c1); (try clear c2); (try clear p2); (try clear c5); (try clear c6); (try clear c6b0); (try clear c6b1); (try clear c9); (try clear c16); (try clear c17); (try clear c20); (try clear c20b0); (try clear c20b1); (try clear hcz10); (try clear hcz12); (try clear hcz17); (try clear hcz19); (try clear hfz10); (try clear hfz12); (try clear hfz17); (try clear hfz19)
  obtain ⟨kq, x15_12, rfl, HA, HJ12, BK273, BK274, HB⟩ := hcut
  rcases kq with _ | kj12
  ·exact absurd HA.out (by simp [impl_InsRight.j0])
  have H := HA.out
  clear HA
  simp only [impl_InsRight.j0] at H
  refine qT H ?_ ?_ <;> clear H <;> intro c21 H <;> subst c21
  ·refine qL H ?_ ?_ <;> clear H <;> intro c22b0 H
   ·refine iM H ?_; clear H; intro c23b0 H
    refine iM H ?_; clear H; intro c24b0 H
    obtain rfl := Option.some.inj H
    have hnb25 := NB274_273.out
    have hnc25 := NB273_274.out
    have hcz26 := bK wc BK274
    have hfz26 := bF BK274
    have hcz27 := bK wc BK273
    have hfz27 := bF BK273
    have p276 : 0 ≤ (a1 : Int) := of_decide_eq_true as1
    have q276 : a1 < (l0_0.length : Int) := of_decide_eq_true as1
    obtain ⟨ad276, A276_2, c276_2, e276, hx276_0, hx276_1, hx276_2, hl276_2, hi276_2⟩ := at_T100 HR0_0.out a1 p276 q276
    cases e276
    replace hx276_0 := cl HB hx276_0
    replace hx276_1 := cl HB hx276_1
    replace hx276_2 := cl HB hx276_2
    have HR276_2 := am hi276_2
    have HC276_2 := am hl276_2
    clear hi276_2 hl276_2
    replace p276 := eq_true p276
    replace q276 := eq_true q276
    go_wp2
    repeat (go_quiet (fail); try go_wp2)
    go_ret
    exact ⟨er, bw HB⟩
   obtain rfl := Option.some.inj H
   have hnb28 := NB274_273.out
   have hnc28 := NB273_274.out
   have hcz29 := bK wc BK274
   have hfz29 := bF BK274
   go_wp2
   repeat (go_quiet (fail); try go_wp2)
   go_ret
   exact ⟨er, bw HB⟩
  have HC30 := am H
  clear H
  go_upto_if 32 with (fail)
  repeat (go_quiet (fail); go_upto_if 32 with (fail))
  go_cut [32] (fun v32 wc => ∃ (kq : Nat) (x32_29 : Bool), v32 = .bool x32_29 ∧ Aside0 (impl_InsRight.j1 kq a1 a2_0 x32_29 l0_0 a2_0 a2_1 = some r) ∧ Aside0 (kq ≤ kj12) ∧ Aside0 (wc.heap[gb273]? = some (.cells #[(.slice A0_0 l0_0.length c0_0)] 30 (0, 0))) ∧ Aside0 (wc.heap[gb274]? = some (.cells #[.int .i64 a2_0, .int .i64 a2_1] 102 (0, 0))) ∧ Aside0 (Below w.heap.size w wc))
  case first =>
   have H := HC30.out
   clear HC30
   refine qE H ?_ ?_ <;> clear H
   ·intro c31b0 c31b1 H
    (first | rw [c31b0] | (simp only [i64_w, i32_w]; rw [c31b0]) | skip)
    have H' := am H
    clear H
    go_wp2
    repeat (go_quiet (fail); try go_wp2)
    go_meet
    case rel => exact ⟨_, ((a2_0 == 30)), dr, H', ⟨lk1 HJ12⟩, ⟨bp BK273⟩, ⟨bp BK274⟩, ⟨bw HB⟩⟩
   intro c31 c31b0 c31b1 H
   (first | rw [c31b0] | (simp only [i64_w, i32_w]; rw [c31b0]) | skip)
   have H' := am H
   clear H
   go_wp2
   repeat (go_quiet (fail); try go_wp2)
   go_meet
   case rel => exact ⟨_, ((a2_0 == 31)), dr, H', ⟨lk1 HJ12⟩, ⟨bp BK273⟩, ⟨bp BK274⟩, ⟨bw HB⟩⟩
  clear HC30
  (try clear q2); (try clear hx2); (try clear c3); (try clear c21); (try clear c22); (try clear c22b0); (try clear c23); (try clear c23b0); (try clear c24); (try clear c24b0); (try clear c25); (try clear c27); (try clear p27); (try clear q27); (try clear hx27); (try clear c28); (try clear c31); (try clear c31b0); (try clear c31b1); (try clear hcz26); (try clear hcz27); (try clear hcz29); (try clear hfz26); (try clear hfz27); (try clear hfz29); (try clear hx276_0); (try clear hx276_1); (try clear hx276_2); (try clear p276); (try clear q276)
  obtain ⟨kq, x32_29, rfl, HA, HJ29, BK273, BK274, HB⟩ := hcut
  rcases kq with _ | kj29
  ·exact absurd HA.out (by simp [impl_InsRight.j1])
  have H := HA.out
  clear HA
  simp only [impl_InsRight.j1] at H
  refine qT H ?_ ?_ <;> clear H <;> intro c32 H <;> subst c32
  ·refine qL H ?_ ?_ <;> clear H <;> intro c33b0 H
   ·refine iM H ?_; clear H; intro c34b0 H
    refine iM H ?_; clear H; intro c35b0 H
    obtain rfl := Option.some.inj H
    have hnb36 := NB274_273.out
    have hnc36 := NB273_274.out
    have hcz37 := bK wc BK274
    have hfz37 := bF BK274
    have hcz38 := bK wc BK273
    have hfz38 := bF BK273
    have p277 : 0 ≤ (a1 : Int) := of_decide_eq_true as1
    have q277 : a1 < (l0_0.length : Int) := of_decide_eq_true as1
    obtain ⟨ad277, A277_2, c277_2, e277, hx277_0, hx277_1, hx277_2, hl277_2, hi277_2⟩ := at_T100 HR0_0.out a1 p277 q277
    cases e277
    replace hx277_0 := cl HB hx277_0
    replace hx277_1 := cl HB hx277_1
    replace hx277_2 := cl HB hx277_2
    have HR277_2 := am hi277_2
    have HC277_2 := am hl277_2
    clear hi277_2 hl277_2
    replace p277 := eq_true p277
    replace q277 := eq_true q277
    go_wp2
    repeat (go_quiet (fail); try go_wp2)
    go_ret
    exact ⟨er, bw HB⟩
   obtain rfl := Option.some.inj H
   have hnb39 := NB274_273.out
   have hnc39 := NB273_274.out
   have hcz40 := bK wc BK274
   have hfz40 := bF BK274
   go_wp2
   repeat (go_quiet (fail); try go_wp2)
   go_ret
   exact ⟨er, bw HB⟩
  refine qE H ?_ ?_ <;> clear H
  ·intro c41b0 c41b1 H
   refine be H ?_; clear H; intro t278 A42 H
   obtain rfl := Option.some.inj H
   have hnb43 := NB273_274.out
   have hnc43 := NB274_273.out
   have hcz44 := bK wc BK273
   have hfz44 := bF BK273
   have hcz45 := bK wc BK274
   have hfz45 := bF BK274
   go_wp2_with (first | (go_at_call 121; refine (impl_hasFunc.calls _ _ l0_0 a2_1 t278 _ (cc (Kd.C_below HR0_0.out HB.out)) HC0_0.out A42.out).mono ?_; rintro e w46 ⟨rfl, hb⟩; replace BK273 := bb BK273 hb; replace BK274 := bb BK274 hb; replace HB := bs HB hb; clear hb))
   repeat (go_quiet (first | (go_at_call 121; refine (impl_hasFunc.calls _ _ l0_0 a2_1 t278 _ (cc (Kd.C_below HR0_0.out HB.out)) HC0_0.out A42.out).mono ?_; rintro e w46 ⟨rfl, hb⟩; replace BK273 := bb BK273 hb; replace BK274 := bb BK274 hb; replace HB := bs HB hb; clear hb)); try go_wp2_with (first | (go_at_call 121; refine (impl_hasFunc.calls _ _ l0_0 a2_1 t278 _ (cc (Kd.C_below HR0_0.out HB.out)) HC0_0.out A42.out).mono ?_; rintro e w46 ⟨rfl, hb⟩; replace BK273 := bb BK273 hb; replace BK274 := bb BK274 hb; replace HB := bs HB hb; clear hb)))
   go_ret
   exact ⟨er, bw HB⟩
  intro c41 c41b0 c41b1 H
  refine be H ?_; clear H; intro t279 A47 H
  by_cases c48 : t279.toList = ([] : List UInt8)
  ·rw [if_pos c48] at H
   have c48b0 : (t279.toList == ([] : List UInt8)) = true := beq_iff_eq.mpr c48
   have c48b1 : (t279.toList != ([] : List UInt8)) = false := bne_eq_false_iff_eq.mpr c48
   clear c48
   obtain rfl := Option.some.inj H
   have hnb49 := NB274_273.out
   have hnc49 := NB273_274.out
   have hcz50 := bK wc BK274
   have hfz50 := bF BK274
   go_wp2_with (first | (go_at_call 192; (with_reducible refine (impl_OpName.calls a2_0 t279 _ A47.out).mono ?_); rintro e w51 ⟨rfl, hb⟩; replace BK273 := bb BK273 hb; replace BK274 := bb BK274 hb; replace HB := bs HB hb; clear hb))
   repeat (go_quiet (first | (go_at_call 192; (with_reducible refine (impl_OpName.calls a2_0 t279 _ A47.out).mono ?_); rintro e w51 ⟨rfl, hb⟩; replace BK273 := bb BK273 hb; replace BK274 := bb BK274 hb; replace HB := bs HB hb; clear hb)); try go_wp2_with (first | (go_at_call 192; (with_reducible refine (impl_OpName.calls a2_0 t279 _ A47.out).mono ?_); rintro e w51 ⟨rfl, hb⟩; replace BK273 := bb BK273 hb; replace BK274 := bb BK274 hb; replace HB := bs HB hb; clear hb)))
   go_ret
   exact ⟨er, bw HB⟩
  rw [if_neg c48] at H
  have c48b0 : (t279.toList == ([] : List UInt8)) = false := beq_eq_false_iff_ne.mpr c48
  have c48b1 : (t279.toList != ([] : List UInt8)) = true := bne_iff_ne.mpr c48
  obtain rfl := Option.some.inj H
  have hnb52 := NB274_273.out
  have hnc52 := NB273_274.out
  have hcz53 := bK wc BK274
  have hfz53 := bF BK274
  go_wp2_with (first | (go_at_call 192; (with_reducible refine (impl_OpName.calls a2_0 t279 _ A47.out).mono ?_); rintro e w54 ⟨rfl, hb⟩; replace BK273 := bb BK273 hb; replace BK274 := bb BK274 hb; replace HB := bs HB hb; clear hb; have hcz55 := bK w54 BK274; have hfz55 := bF BK274))
  repeat (go_quiet (first | (go_at_call 192; (with_reducible refine (impl_OpName.calls a2_0 t279 _ A47.out).mono ?_); rintro e w54 ⟨rfl, hb⟩; replace BK273 := bb BK273 hb; replace BK274 := bb BK274 hb; replace HB := bs HB hb; clear hb; have hcz55 := bK w54 BK274; have hfz55 := bF BK274)); try go_wp2_with (first | (go_at_call 192; (with_reducible refine (impl_OpName.calls a2_0 t279 _ A47.out).mono ?_); rintro e w54 ⟨rfl, hb⟩; replace BK273 := bb BK273 hb; replace BK274 := bb BK274 hb; replace HB := bs HB hb; clear hb; have hcz55 := bK w54 BK274; have hfz55 := bF BK274)))
  go_ret
  exact ⟨er, bw HB⟩
 obtain rfl := Option.some.inj H
 go_enter Try.func173, Try.ntmps173
 go_wp2_with (first | ((with_reducible refine gate_dst (N := 3) rfl ?_); (try (refine gate_guard (by rfl) ?_; dsimp only)); refine box_event ?hg (N := 3) ?hd (cs := #[.slice A0_0 l0_0.length c0_0]) (t := 30) ?hr ?_; (case hd => rfl); (case hg => rfl); (case hr => exact gs); intro gb273 hg w56 hbox hb; have BK273 := am (hbox); have GW273 := gw hg HB; replace HB := bs HB hb; clear hb hbox hg) | ((with_reducible refine gate_dst (N := 5) rfl ?_); (try (refine gate_guard (by rfl) ?_; dsimp only)); refine box_event ?hg (N := 5) ?hd (cs := #[.int .i64 a2_0, .int .i64 a2_1]) (t := 102) ?hr ?_; (case hd => rfl); (case hg => rfl); (case hr => exact gs); intro gb274 hg w57 hbox hb; have BK274 := am (hbox); have GW274 := gw hg HB; replace HB := bs HB hb; obtain ⟨NB273_274, NB274_273, BK273⟩ := b3 hg BK273 hb; clear hb hbox hg; have hnb58 := NB273_274.out; have hnc58 := NB274_273.out; have hcz59 := bK w57 BK273; have hfz59 := bF BK273) | (go_at_call 121; refine (impl_hasFunc.calls _ _ l0_0 a1 false _ (cc (Kd.C_below HR0_0.out HB.out)) HC0_0.out A4.out).mono ?_; rintro e w60 ⟨rfl, hb⟩; replace BK273 := bb BK273 hb; replace BK274 := bb BK274 hb; replace HB := bs HB hb; clear hb))
 repeat (go_quiet (first | ((with_reducible refine gate_dst (N := 3) rfl ?_); (try (refine gate_guard (by rfl) ?_; dsimp only)); refine box_event ?hg (N := 3) ?hd (cs := #[.slice A0_0 l0_0.length c0_0]) (t := 30) ?hr ?_; (case hd => rfl); (case hg => rfl); (case hr => exact gs); intro gb273 hg w56 hbox hb; have BK273 := am (hbox); have GW273 := gw hg HB; replace HB := bs HB hb; clear hb hbox hg) | ((with_reducible refine gate_dst (N := 5) rfl ?_); (try (refine gate_guard (by rfl) ?_; dsimp only)); refine box_event ?hg (N := 5) ?hd (cs := #[.int .i64 a2_0, .int .i64 a2_1]) (t := 102) ?hr ?_; (case hd => rfl); (case hg => rfl); (case hr => exact gs); intro gb274 hg w57 hbox hb; have BK274 := am (hbox); have GW274 := gw hg HB; replace HB := bs HB hb; obtain ⟨NB273_274, NB274_273, BK273⟩ := b3 hg BK273 hb; clear hb hbox hg; have hnb58 := NB273_274.out; have hnc58 := NB274_273.out; have hcz59 := bK w57 BK273; have hfz59 := bF BK273) | (go_at_call 121; refine (impl_hasFunc.calls _ _ l0_0 a1 false _ (cc (Kd.C_below HR0_0.out HB.out)) HC0_0.out A4.out).mono ?_; rintro e w60 ⟨rfl, hb⟩; replace BK273 := bb BK273 hb; replace BK274 := bb BK274 hb; replace HB := bs HB hb; clear hb)); try go_wp2_with (first | ((with_reducible refine gate_dst (N := 3) rfl ?_); (try (refine gate_guard (by rfl) ?_; dsimp only)); refine box_event ?hg (N := 3) ?hd (cs := #[.slice A0_0 l0_0.length c0_0]) (t := 30) ?hr ?_; (case hd => rfl); (case hg => rfl); (case hr => exact gs); intro gb273 hg w56 hbox hb; have BK273 := am (hbox); have GW273 := gw hg HB; replace HB := bs HB hb; clear hb hbox hg) | ((with_reducible refine gate_dst (N := 5) rfl ?_); (try (refine gate_guard (by rfl) ?_; dsimp only)); refine box_event ?hg (N := 5) ?hd (cs := #[.int .i64 a2_0, .int .i64 a2_1]) (t := 102) ?hr ?_; (case hd => rfl); (case hg => rfl); (case hr => exact gs); intro gb274 hg w57 hbox hb; have BK274 := am (hbox); have GW274 := gw hg HB; replace HB := bs HB hb; obtain ⟨NB273_274, NB274_273, BK273⟩ := b3 hg BK273 hb; clear hb hbox hg; have hnb58 := NB273_274.out; have hnc58 := NB274_273.out; have hcz59 := bK w57 BK273; have hfz59 := bF BK273) | (go_at_call 121; refine (impl_hasFunc.calls _ _ l0_0 a1 false _ (cc (Kd.C_below HR0_0.out HB.out)) HC0_0.out A4.out).mono ?_; rintro e w60 ⟨rfl, hb⟩; replace BK273 := bb BK273 hb; replace BK274 := bb BK274 hb; replace HB := bs HB hb; clear hb)))
 go_ret
 exact ⟨er, bw HB⟩

def impl_isBinary.f (a0 : Int) : Option (Bool) := (impl_in.f a0 10 23).bind fun t280 => (some t280)
theorem impl_isBinary.calls (a0 : Int) (r : Bool) (w : World) (h : impl_isBinary.f a0 = some r) :
  Calls Try.prog 175 #[.int .i64 a0] w fun e w' => e = .returned (.bool r) ∧ Drawn0 w w' := by
 have H : ((impl_in.f a0 10 23).bind fun t280 => (some t280)) = some r := h
 clear h
 refine be H ?_; clear H; intro t280 A2 H
 obtain rfl := Option.some.inj H
 go_enter Try.func175, Try.ntmps175
 go_wp2_with (first | ((with_reducible refine gate_callee (f := 85) rfl ?_); refine goesL_ (some 4) rfl rfl Try.func85 (by kernel_rfl) rfl #[.int .i64 a0, .int .i64 10, .int .i64 23] rfl gl ?_; (with_reducible refine (impl_in.calls a0 10 23 t280 _ A2.out).mono ?_); rintro e w' ⟨rfl, ⟨nd, rfl⟩⟩; refine ⟨_, rfl, ?_⟩))
 go_ret
 exact ⟨by first | rfl | (simp; done) | (simp [*]; done), by repeat (first | exact Drawn0.refl _ | apply Drawn0.step)⟩

def impl_isUnary.f (a0 : Int) : Option (Bool) := (impl_in.f a0 24 29).bind fun t281 => (some t281)
theorem impl_isUnary.calls (a0 : Int) (r : Bool) (w : World) (h : impl_isUnary.f a0 = some r) :
  Calls Try.prog 176 #[.int .i64 a0] w fun e w' => e = .returned (.bool r) ∧ Drawn0 w w' := by
 have H : ((impl_in.f a0 24 29).bind fun t281 => (some t281)) = some r := h
 clear h
 refine be H ?_; clear H; intro t281 A2 H
 obtain rfl := Option.some.inj H
 go_enter Try.func176, Try.ntmps176
 go_wp2_with (first | ((with_reducible refine gate_callee (f := 85) rfl ?_); refine goesL_ (some 4) rfl rfl Try.func85 (by kernel_rfl) rfl #[.int .i64 a0, .int .i64 24, .int .i64 29] rfl gl ?_; (with_reducible refine (impl_in.calls a0 24 29 t281 _ A2.out).mono ?_); rintro e w' ⟨rfl, ⟨nd, rfl⟩⟩; refine ⟨_, rfl, ?_⟩))
 go_ret
 exact ⟨by first | rfl | (simp; done) | (simp [*]; done), by repeat (first | exact Drawn0.refl _ | apply Drawn0.step)⟩

end Go.Proofs.Ytbmjmaahcaoajaa.QFnExactSeenRight
