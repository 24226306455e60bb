/- FnExactPlain: marks of code of registers by what they leave, the calls of the law, and the law's walk. No condition. -/
import Derived.Test.YtcdohkilplgmjaaCFnExactPlainx
import Derived.StillTailTactics
import Derived.Deep.RegionWith
import Derived.Deep.RegionHeld3
namespace Go.Proofs.Ytcdohkilplgmjaa.QFnExactPlain
open Go.RowKit Go.Proofs.YtcdohkilplgmjaaW.PrintWords Go.Proofs.YtcdohkilplgmjaaW.PrintLast Go.Proofs.YtcdohkilplgmjaaW.PrintMore Go.Proofs.YtcdohkilplgmjaaW.PrintShort
attribute [local go_sem] max2_int min2_int max_two min_two max_three min_three max_four min_four
set_option linter.unusedVariables false
set_option linter.unusedSimpArgs false
theorem gl {Q : Prop} (h : Q := by (try simp only [List.map_toArray, List.map_cons, List.map_nil]); first | done | rfl | (simp only [List.length_drop, List.length_take]; rfl)) : Q := h
theorem set_mid {α : Type} {dn l : List α} {n : Nat} (h : dn.length = n) (hn : n < l.length) (x : α) : (dn ++ l.drop n).set n x = (dn ++ [x]) ++ l.drop (n + 1) := by
 rw [List.drop_eq_getElem_cons hn, List.set_append_right _ _ (Nat.le_of_eq h), h, Nat.sub_self, List.set_cons_zero, List.append_assoc]
 rfl
theorem get_mid {α : Type} {dn l : List α} {n : Nat} (h : dn.length = n) (hn : n < l.length) (z : α) : (dn ++ l.drop n).getD n z = l.getD n z := by
 rw [List.getD_eq_getElem?_getD, List.getElem?_append_right (by omega), h, Nat.sub_self, List.getElem?_drop, Nat.add_zero, List.getD_eq_getElem?_getD]
theorem drop_getD {α : Type} {l : List α} {n : Nat} (hn : n < l.length) (z : α) : l.drop n = l.getD n z :: l.drop (n + 1) := by
 rw [List.drop_eq_getElem_cons hn, List.getD_eq_getElem?_getD, List.getElem?_eq_getElem hn]
 rfl
theorem len_mid {α : Type} {dn l : List α} {n : Nat} (h : dn.length = n) (hn : n ≤ l.length) : (dn ++ l.drop n).length = l.length := by
 rw [List.length_append, List.length_drop]; omega
/-- Marks put into a row of values, into moves, into instructions, into rows of values. -/
def mkV : Int → List S55 → List S55
 | _, [] => []
 | k, _ :: l => ⟨k, wrap64 (k + 1)⟩ :: mkV (laws_markValS.g k ⟨0, 0⟩) l
def mkM : Int → List S108 → List S108
 | _, [] => []
 | k, _ :: l => ⟨k, ⟨wrap64 (k + 1), wrap64 (wrap64 (k + 1) + 1)⟩⟩ :: mkM (laws_markMovS.g k ⟨0, ⟨0, 0⟩⟩) l
def mkA : Int → List S50 → List S50
 | _, [] => []
 | k, x :: l => ⟨mkM k x.f0, laws_markMovS.mk k x.f0, wrap64 (laws_markMovS.mk k x.f0 + 1), mkV (wrap64 (wrap64 (laws_markMovS.mk k x.f0 + 1) + 1)) x.f3, laws_markValS.mk (wrap64 (wrap64 (laws_markMovS.mk k x.f0 + 1) + 1)) x.f3⟩ :: mkA (laws_markAsmInsS.g k x) l
def mkVS : Int → List (List S55) → List (List S55)
 | _, [] => []
 | k, x :: l => mkV k x :: mkVS (laws_markValS.mk k x) l
theorem getD_set_ {α : Type} {l : List α} {n : Nat} (h : n < l.length) (x z : α) : (l.set n x).getD n z = x := by
 rw [List.getD_eq_getElem?_getD, List.getElem?_set_self h]
 rfl

set_option maxHeartbeats 8000000 in
set_option maxRecDepth 100000 in
theorem markV_rel (P : Nat → Prop) (u : Value) (l0 : List S55) (a1 : Int) (w0 w : World) (hB : Below w0.heap.size w0 w) (ho0 : Kd.R k55 55 w w0.heap.size P u l0) :
  Calls Try.prog 53 #[u, .int .i64 a1] w fun e w' => e = .returned (.int .i64 (laws_markValS.mk a1 l0)) ∧ Kd.R k55 55 w' w0.heap.size P u (mkV a1 l0) ∧ Below w0.heap.size w0 w' ∧ Kept w w' P := by
 have HB := Aside0.mk hB
 have HK := Aside0.mk (Kept.refl w P)
 have hln : l0.length ≤ 9223372036854775807 := by obtain ⟨_, _, rfl⟩ := Kd.R_slice ho0; exact (Kd.R_reads' ho0).2.2.2.1
 clear hB
 obtain ⟨Aa, ca, rfl⟩ := Kd.R_slice ho0
 have HO := Aside0.mk ho0
 clear ho0
 go_enter Try.func53, Try.ntmps53
 go_wp2
 go_loopg [1, 5] (l0.length + 1) (fun kq v1 v5 w' => ∃ (x1_1 x5_1 : Int) (dn : List S55), v1 = .int .i64 x1_1 ∧ v5 = .int .i64 x5_1 ∧ Aside0 (kq + x5_1.toNat = l0.length + 1 ∧ 0 ≤ x5_1 ∧ x5_1 ≤ l0.length ∧ dn.length = x5_1.toNat) ∧ Aside0 (laws_markValS.mk x1_1 (l0.drop x5_1.toNat) = laws_markValS.mk a1 l0 ∧ mkV a1 l0 = dn ++ mkV x1_1 (l0.drop x5_1.toNat)) ∧ Aside0 (Kd.R k55 55 w' w0.heap.size P (.slice Aa l0.length ca) (dn ++ l0.drop x5_1.toNat)) ∧ Aside0 (Kept w w' P) ∧ Aside0 (Below w0.heap.size w0 w'))
 case atStart => exact ⟨a1, 0, [], rfl, rfl, ⟨by simp, by omega, by omega, rfl⟩, ⟨rfl, rfl⟩, ⟨HO.out⟩, ⟨HK.out⟩, ⟨HB.out⟩⟩
 case round =>
  clear HO HK HB
  obtain ⟨x1_1, x5_1, dn, rfl, rfl, HA, HV, HO, HK, HB⟩ := hrel
  by_cases c3 : x5_1 < (l0.length : Int)
  · have c3b0 : decide (x5_1 < (l0.length : Int)) = true := decide_eq_true c3
    obtain ⟨k1, rfl⟩ : ∃ k1, gk = k1 + 1 := ⟨gk - 1, by have := HA.out; omega⟩
    have hlt : x5_1.toNat < l0.length := by have := HA.out; omega
    have HLT := Aside0.mk hlt
    have hlen := len_mid HA.out.2.2.2 (Nat.le_of_lt hlt)
    have HLN := Aside0.mk hlen
    obtain ⟨go5, co5, eo5, gb5, gl5, cl5, HG5⟩ := Kd.R_form HO.out (by omega)
    (first | cases eo5 | (injection eo5 with ea_ en_ ec_; (first | subst ea_ | (injection ea_ with ea_; subst ea_)); subst ec_; clear en_))
    have GB5 := Aside0.mk gb5
    have p5 : 0 ≤ x5_1 := HA.out.2.1
    have GP5 := Aside0.mk (show P go5 from HO.out.1 _ rfl)
    obtain ⟨ce0, hcl0, hM0, hcc0, hfr0⟩ := Kd.R_elem HO.out z55 x5_1 p5 c3
    rw [get_mid HA.out.2.2.2 hlt] at hM0
    obtain ⟨xe, hxe⟩ : ∃ xe : S55, xe = l0.getD x5_1.toNat z55 := ⟨_, rfl⟩
    rw [← hxe] at hM0
    have HXE := Aside0.mk hxe
    obtain rfl := k55_openM hM0
    have hx0 : wr.cell? ⟨go5, x5_1.toNat * 2, none⟩ = some _ := (hcc0 0 _ rfl)
    have hf0 : wr.frozen? ⟨go5, x5_1.toNat * 2, none⟩ = false := (hfr0 0)
    obtain ⟨cur, hcur⟩ : ∃ cur, cur = dn ++ l0.drop x5_1.toNat := ⟨_, rfl⟩
    rw [← hcur] at HO
    have HCU := Aside0.mk hcur
    have HP := Aside0.mk (Kd.R_seg HO.out x5_1 p5 c3 (seg := [.int .i64 x1_1]) (j := 0) (x' := ⟨x1_1, xe.f1⟩) (okp := fun _ => False) hcl0 hcc0 (by show 0 + 1 ≤ 2; decide) (k55_mkM _ _ _ ⟨x1_1, xe.f1⟩) (fun _ h => h.elim))
    clear gb5 gl5 HG5 hlen hlt HO hxe hcur hM0 hcc0 hcl0 hfr0
    replace p5 := eq_true p5
    have q5 := eq_true c3
    clear c3
    go_wp2_with (first | ((with_reducible refine gt 2 16 rfl ?_); refine sE 2 16 (wr.setCell ⟨go5, x5_1.toNat * 2, none⟩ (.int .i64 x1_1)) ?_; intro wq0 hw; have HO := Aside0.mk (show Kd.R k55 55 wq0 w0.heap.size P (.slice (some ⟨go5, 0, none⟩) l0.length ca) (cur.set x5_1.toNat ⟨x1_1, xe.f1⟩) by rw [hw]; exact HP.out.1); have n0_ := Aside0.mk (show Kept w wq0 P by rw [hw]; exact HK.out.setCell (.inl GP5.out) _); have n1_ := Aside0.mk ((by rw [hw]; exact below_set (HB.out) GB5.out : Below w0.heap.size w0 wq0)); clear HP HK HB hw hx0 hf0; have HK := n0_; have HB := n1_; clear n0_ n1_; obtain ⟨ce1, hcl1, hM1, hcc1, hfr1⟩ := Kd.R_elem HO.out z55 x5_1 (of_eq_true p5) (of_eq_true q5); rw [getD_set_ (by rw [HCU.out, HLN.out]; exact HLT.out)] at hM1; obtain rfl := k55_openM hM1; have hx1 : wq0.cell? ⟨go5, x5_1.toNat * 2 + 1, none⟩ = some _ := (hcc1 1 _ rfl); have hf1 : wq0.frozen? ⟨go5, x5_1.toNat * 2 + 1, none⟩ = false := (hfr1 1); have hp_ := Kd.R_seg HO.out x5_1 (of_eq_true p5) (of_eq_true q5) (seg := [.int .i64 (wrap64 (x1_1 + 1))]) (j := 1) (x' := ⟨x1_1, wrap64 (x1_1 + 1)⟩) (okp := fun _ => False) hcl1 hcc1 (by show 1 + 1 ≤ 2; decide) (k55_mkM _ _ _ ⟨x1_1, wrap64 (x1_1 + 1)⟩) (fun _ h => h.elim); rw [List.set_set] at hp_; have HP := Aside0.mk hp_; clear HO hp_ hM1 hcc1 hcl1 hfr1) | ((with_reducible refine gt 2 23 rfl ?_); refine sE 2 23 (wq0.setCell ⟨go5, x5_1.toNat * 2 + 1, none⟩ (.int .i64 (wrap64 (x1_1 + 1)))) ?_; intro wq1 hw; have HO := Aside0.mk (show Kd.R k55 55 wq1 w0.heap.size P (.slice (some ⟨go5, 0, none⟩) l0.length ca) (cur.set x5_1.toNat ⟨x1_1, wrap64 (x1_1 + 1)⟩) by rw [hw]; exact HP.out.1); have n0_ := Aside0.mk (show Kept w wq1 P by rw [hw]; exact HK.out.setCell (.inl GP5.out) _); have n1_ := Aside0.mk ((by rw [hw]; exact below_set (HB.out) GB5.out : Below w0.heap.size w0 wq1)); clear HP HK HB hw hx1 hf1; have HK := n0_; have HB := n1_; clear n0_ n1_))
    rw [HCU.out] at HO
    go_roundg k1
    case measure => omega
    case rel =>
     have h1 := HA.out
     have hq : x5_1 < (l0.length : Int) := of_eq_true q5
     have hw1 : wrap64 (x5_1 + 1) = x5_1 + 1 := by unfold wrap64; omega
     have h2 := HV.out
     have h3 := HO.out
     rw [set_mid h1.2.2.2 HLT.out] at h3
     rw [drop_getD HLT.out z55, ← HXE.out] at h2
     refine ⟨wrap64 (wrap64 (x1_1 + 1) + 1), wrap64 (x5_1 + 1), dn ++ [⟨x1_1, wrap64 (x1_1 + 1)⟩], rfl, rfl, ⟨by omega, by omega, by omega, by rw [List.length_append, h1.2.2.2]; show _ + 1 = _; omega⟩, ⟨?_, ?_⟩, ⟨?_⟩, HK, HB⟩
     · rw [hw1, show (x5_1 + 1).toNat = x5_1.toNat + 1 by omega]
       exact h2.1
     · rw [hw1, show (x5_1 + 1).toNat = x5_1.toNat + 1 by omega, h2.2, List.append_assoc]
       rfl
     · rw [hw1, show (x5_1 + 1).toNat = x5_1.toNat + 1 by omega]
       exact h3
  · have c3b0 : decide (x5_1 < (l0.length : Int)) = false := decide_eq_false c3
    have hv := HV.out
    have h1 := HA.out
    have h3 := HO.out
    rw [List.drop_of_length_le (by omega)] at hv h3
    rw [List.append_nil] at h3
    have hv1 : x1_1 = laws_markValS.mk a1 l0 := hv.1
    have hv2 : mkV a1 l0 = dn := hv.2.trans (List.append_nil _)
    rw [← hv2] at h3
    have H3 := Aside0.mk h3
    clear c3 hv h1 h3 hv2
    go_wp2
    go_ret
    exact ⟨by first | rfl | (simp; done) | (simp [*]; done), H3.out, HB.out, HK.out⟩

set_option maxHeartbeats 8000000 in
set_option maxRecDepth 100000 in
theorem markM_rel (P : Nat → Prop) (u : Value) (l0 : List S108) (a1 : Int) (w0 w : World) (hB : Below w0.heap.size w0 w) (ho0 : Kd.R k108 108 w w0.heap.size P u l0) :
  Calls Try.prog 52 #[u, .int .i64 a1] w fun e w' => e = .returned (.int .i64 (laws_markMovS.mk a1 l0)) ∧ Kd.R k108 108 w' w0.heap.size P u (mkM a1 l0) ∧ Below w0.heap.size w0 w' ∧ Kept w w' P := by
 have HB := Aside0.mk hB
 have HK := Aside0.mk (Kept.refl w P)
 have hln : l0.length ≤ 9223372036854775807 := by obtain ⟨_, _, rfl⟩ := Kd.R_slice ho0; exact (Kd.R_reads' ho0).2.2.2.1
 clear hB
 obtain ⟨Aa, ca, rfl⟩ := Kd.R_slice ho0
 have HO := Aside0.mk ho0
 clear ho0
 go_enter Try.func52, Try.ntmps52
 go_wp2
 go_loopg [1, 5] (l0.length + 1) (fun kq v1 v5 w' => ∃ (x1_1 x5_1 : Int) (dn : List S108), v1 = .int .i64 x1_1 ∧ v5 = .int .i64 x5_1 ∧ Aside0 (kq + x5_1.toNat = l0.length + 1 ∧ 0 ≤ x5_1 ∧ x5_1 ≤ l0.length ∧ dn.length = x5_1.toNat) ∧ Aside0 (laws_markMovS.mk x1_1 (l0.drop x5_1.toNat) = laws_markMovS.mk a1 l0 ∧ mkM a1 l0 = dn ++ mkM x1_1 (l0.drop x5_1.toNat)) ∧ Aside0 (Kd.R k108 108 w' w0.heap.size P (.slice Aa l0.length ca) (dn ++ l0.drop x5_1.toNat)) ∧ Aside0 (Kept w w' P) ∧ Aside0 (Below w0.heap.size w0 w'))
 case atStart => exact ⟨a1, 0, [], rfl, rfl, ⟨by simp, by omega, by omega, rfl⟩, ⟨rfl, rfl⟩, ⟨HO.out⟩, ⟨HK.out⟩, ⟨HB.out⟩⟩
 case round =>
  clear HO HK HB
  obtain ⟨x1_1, x5_1, dn, rfl, rfl, HA, HV, HO, HK, HB⟩ := hrel
  by_cases c3 : x5_1 < (l0.length : Int)
  · have c3b0 : decide (x5_1 < (l0.length : Int)) = true := decide_eq_true c3
    obtain ⟨k1, rfl⟩ : ∃ k1, gk = k1 + 1 := ⟨gk - 1, by have := HA.out; omega⟩
    have hlt : x5_1.toNat < l0.length := by have := HA.out; omega
    have HLT := Aside0.mk hlt
    have hlen := len_mid HA.out.2.2.2 (Nat.le_of_lt hlt)
    have HLN := Aside0.mk hlen
    obtain ⟨go5, co5, eo5, gb5, gl5, cl5, HG5⟩ := Kd.R_form HO.out (by omega)
    (first | cases eo5 | (injection eo5 with ea_ en_ ec_; (first | subst ea_ | (injection ea_ with ea_; subst ea_)); subst ec_; clear en_))
    have GB5 := Aside0.mk gb5
    have p5 : 0 ≤ x5_1 := HA.out.2.1
    have GP5 := Aside0.mk (show P go5 from HO.out.1 _ rfl)
    obtain ⟨ce0, hcl0, hM0, hcc0, hfr0⟩ := Kd.R_elem HO.out z108 x5_1 p5 c3
    rw [get_mid HA.out.2.2.2 hlt] at hM0
    obtain ⟨xe, hxe⟩ : ∃ xe : S108, xe = l0.getD x5_1.toNat z108 := ⟨_, rfl⟩
    rw [← hxe] at hM0
    have HXE := Aside0.mk hxe
    obtain rfl := k108_openM hM0
    have hx0 : wr.cell? ⟨go5, x5_1.toNat * 3, none⟩ = some _ := (hcc0 0 _ rfl)
    have hf0 : wr.frozen? ⟨go5, x5_1.toNat * 3, none⟩ = false := (hfr0 0)
    obtain ⟨cur, hcur⟩ : ∃ cur, cur = dn ++ l0.drop x5_1.toNat := ⟨_, rfl⟩
    rw [← hcur] at HO
    have HCU := Aside0.mk hcur
    have HP := Aside0.mk (Kd.R_seg HO.out x5_1 p5 c3 (seg := [.int .i64 x1_1]) (j := 0) (x' := ⟨x1_1, xe.f1⟩) (okp := fun _ => False) hcl0 hcc0 (by show 0 + 1 ≤ 3; decide) (k108_mkM _ _ _ ⟨x1_1, xe.f1⟩) (fun _ h => h.elim))
    clear gb5 gl5 HG5 hlen hlt HO hxe hcur hM0 hcc0 hcl0 hfr0
    replace p5 := eq_true p5
    have q5 := eq_true c3
    clear c3
    go_wp2_with (first | ((with_reducible refine gt 2 16 rfl ?_); refine sE 2 16 (wr.setCell ⟨go5, x5_1.toNat * 3, none⟩ (.int .i64 x1_1)) ?_; intro wq0 hw; have HO := Aside0.mk (show Kd.R k108 108 wq0 w0.heap.size P (.slice (some ⟨go5, 0, none⟩) l0.length ca) (cur.set x5_1.toNat ⟨x1_1, xe.f1⟩) by rw [hw]; exact HP.out.1); have n0_ := Aside0.mk (show Kept w wq0 P by rw [hw]; exact HK.out.setCell (.inl GP5.out) _); have n1_ := Aside0.mk ((by rw [hw]; exact below_set (HB.out) GB5.out : Below w0.heap.size w0 wq0)); clear HP HK HB hw hx0 hf0; have HK := n0_; have HB := n1_; clear n0_ n1_; obtain ⟨ce1, hcl1, hM1, hcc1, hfr1⟩ := Kd.R_elem HO.out z108 x5_1 (of_eq_true p5) (of_eq_true q5); rw [getD_set_ (by rw [HCU.out, HLN.out]; exact HLT.out)] at hM1; obtain rfl := k108_openM hM1; have hx1 : wq0.cell? ⟨go5, x5_1.toNat * 3 + 1, none⟩ = some _ := (hcc1 1 _ rfl); have hf1 : wq0.frozen? ⟨go5, x5_1.toNat * 3 + 1, none⟩ = false := (hfr1 1); have hp_ := Kd.R_seg HO.out x5_1 (of_eq_true p5) (of_eq_true q5) (seg := [.int .i64 (wrap64 (x1_1 + 1))]) (j := 1) (x' := ⟨x1_1, ⟨wrap64 (x1_1 + 1), xe.f1.f1⟩⟩) (okp := fun _ => False) hcl1 hcc1 (by show 1 + 1 ≤ 3; decide) (k108_mkM _ _ _ ⟨x1_1, ⟨wrap64 (x1_1 + 1), xe.f1.f1⟩⟩) (fun _ h => h.elim); rw [List.set_set] at hp_; have HP := Aside0.mk hp_; clear HO hp_ hM1 hcc1 hcl1 hfr1) | ((with_reducible refine gt 2 24 rfl ?_); refine sE 2 24 (wq0.setCell ⟨go5, x5_1.toNat * 3 + 1, none⟩ (.int .i64 (wrap64 (x1_1 + 1)))) ?_; intro wq1 hw; have HO := Aside0.mk (show Kd.R k108 108 wq1 w0.heap.size P (.slice (some ⟨go5, 0, none⟩) l0.length ca) (cur.set x5_1.toNat ⟨x1_1, ⟨wrap64 (x1_1 + 1), xe.f1.f1⟩⟩) by rw [hw]; exact HP.out.1); have n0_ := Aside0.mk (show Kept w wq1 P by rw [hw]; exact HK.out.setCell (.inl GP5.out) _); have n1_ := Aside0.mk ((by rw [hw]; exact below_set (HB.out) GB5.out : Below w0.heap.size w0 wq1)); clear HP HK HB hw hx1 hf1; have HK := n0_; have HB := n1_; clear n0_ n1_; obtain ⟨ce2, hcl2, hM2, hcc2, hfr2⟩ := Kd.R_elem HO.out z108 x5_1 (of_eq_true p5) (of_eq_true q5); rw [getD_set_ (by rw [HCU.out, HLN.out]; exact HLT.out)] at hM2; obtain rfl := k108_openM hM2; have hx2 : wq1.cell? ⟨go5, x5_1.toNat * 3 + 2, none⟩ = some _ := (hcc2 2 _ rfl); have hf2 : wq1.frozen? ⟨go5, x5_1.toNat * 3 + 2, none⟩ = false := (hfr2 2); have hp_ := Kd.R_seg HO.out x5_1 (of_eq_true p5) (of_eq_true q5) (seg := [.int .i64 (wrap64 (wrap64 (x1_1 + 1) + 1))]) (j := 2) (x' := ⟨x1_1, ⟨wrap64 (x1_1 + 1), wrap64 (wrap64 (x1_1 + 1) + 1)⟩⟩) (okp := fun _ => False) hcl2 hcc2 (by show 2 + 1 ≤ 3; decide) (k108_mkM _ _ _ ⟨x1_1, ⟨wrap64 (x1_1 + 1), wrap64 (wrap64 (x1_1 + 1) + 1)⟩⟩) (fun _ h => h.elim); rw [List.set_set] at hp_; have HP := Aside0.mk hp_; clear HO hp_ hM2 hcc2 hcl2 hfr2) | ((with_reducible refine gt 2 32 rfl ?_); refine sE 2 32 (wq1.setCell ⟨go5, x5_1.toNat * 3 + 2, none⟩ (.int .i64 (wrap64 (wrap64 (x1_1 + 1) + 1)))) ?_; intro wq2 hw; have HO := Aside0.mk (show Kd.R k108 108 wq2 w0.heap.size P (.slice (some ⟨go5, 0, none⟩) l0.length ca) (cur.set x5_1.toNat ⟨x1_1, ⟨wrap64 (x1_1 + 1), wrap64 (wrap64 (x1_1 + 1) + 1)⟩⟩) by rw [hw]; exact HP.out.1); have n0_ := Aside0.mk (show Kept w wq2 P by rw [hw]; exact HK.out.setCell (.inl GP5.out) _); have n1_ := Aside0.mk ((by rw [hw]; exact below_set (HB.out) GB5.out : Below w0.heap.size w0 wq2)); clear HP HK HB hw hx2 hf2; have HK := n0_; have HB := n1_; clear n0_ n1_))
    rw [HCU.out] at HO
    go_roundg k1
    case measure => omega
    case rel =>
     have h1 := HA.out
     have hq : x5_1 < (l0.length : Int) := of_eq_true q5
     have hw1 : wrap64 (x5_1 + 1) = x5_1 + 1 := by unfold wrap64; omega
     have h2 := HV.out
     have h3 := HO.out
     rw [set_mid h1.2.2.2 HLT.out] at h3
     rw [drop_getD HLT.out z108, ← HXE.out] at h2
     refine ⟨wrap64 (wrap64 (wrap64 (x1_1 + 1) + 1) + 1), wrap64 (x5_1 + 1), dn ++ [⟨x1_1, ⟨wrap64 (x1_1 + 1), wrap64 (wrap64 (x1_1 + 1) + 1)⟩⟩], rfl, rfl, ⟨by omega, by omega, by omega, by rw [List.length_append, h1.2.2.2]; show _ + 1 = _; omega⟩, ⟨?_, ?_⟩, ⟨?_⟩, HK, HB⟩
     · rw [hw1, show (x5_1 + 1).toNat = x5_1.toNat + 1 by omega]
       exact h2.1
     · rw [hw1, show (x5_1 + 1).toNat = x5_1.toNat + 1 by omega, h2.2, List.append_assoc]
       rfl
     · rw [hw1, show (x5_1 + 1).toNat = x5_1.toNat + 1 by omega]
       exact h3
  · have c3b0 : decide (x5_1 < (l0.length : Int)) = false := decide_eq_false c3
    have hv := HV.out
    have h1 := HA.out
    have h3 := HO.out
    rw [List.drop_of_length_le (by omega)] at hv h3
    rw [List.append_nil] at h3
    have hv1 : x1_1 = laws_markMovS.mk a1 l0 := hv.1
    have hv2 : mkM a1 l0 = dn := hv.2.trans (List.append_nil _)
    rw [← hv2] at h3
    have H3 := Aside0.mk h3
    clear c3 hv h1 h3 hv2
    go_wp2
    go_ret
    exact ⟨by first | rfl | (simp; done) | (simp [*]; done), H3.out, HB.out, HK.out⟩

set_option maxHeartbeats 8000000 in
set_option maxRecDepth 100000 in
theorem markVS_rel (P : Nat → Prop) (u : Value) (l0 : List (List S55)) (a1 : Int) (w0 w : World) (hB : Below w0.heap.size w0 w) (ho0 : Kd.S (Kd.slice 55 k55) 47 w w0.heap.size P u l0) :
  Calls Try.prog 26 #[u, .int .i64 a1] w fun e w' => e = .returned (.int .i64 (laws_markValSS.mk a1 l0)) ∧ Kd.S (Kd.slice 55 k55) 47 w' w0.heap.size P u (mkVS a1 l0) ∧ Below w0.heap.size w0 w' ∧ Kept w w' P := by
 have HB := Aside0.mk hB
 have HK := Aside0.mk (Kept.refl w P)
 have hln : l0.length ≤ 9223372036854775807 := by obtain ⟨_, _, rfl⟩ := Kd.S_slice ho0; exact (Kd.S_reads' ho0).2.2.2.1
 clear hB
 obtain ⟨Aa, ca, rfl⟩ := Kd.S_slice ho0
 have HO := Aside0.mk ho0
 clear ho0
 go_enter Try.func26, Try.ntmps26
 go_wp2
 go_loopg [1, 5] (l0.length + 1) (fun kq v1 v5 w' => ∃ (x1_1 x5_1 : Int) (dn : List (List S55)), v1 = .int .i64 x1_1 ∧ v5 = .int .i64 x5_1 ∧ Aside0 (kq + x5_1.toNat = l0.length + 1 ∧ 0 ≤ x5_1 ∧ x5_1 ≤ l0.length ∧ dn.length = x5_1.toNat) ∧ Aside0 (laws_markValSS.mk x1_1 (l0.drop x5_1.toNat) = laws_markValSS.mk a1 l0 ∧ mkVS a1 l0 = dn ++ mkVS x1_1 (l0.drop x5_1.toNat)) ∧ Aside0 (Kd.S (Kd.slice 55 k55) 47 w' w0.heap.size P (.slice Aa l0.length ca) (dn ++ l0.drop x5_1.toNat)) ∧ Aside0 (Kept w w' P) ∧ Aside0 (Below w0.heap.size w0 w'))
 case atStart => exact ⟨a1, 0, [], rfl, rfl, ⟨by simp, by omega, by omega, rfl⟩, ⟨rfl, rfl⟩, ⟨HO.out⟩, ⟨HK.out⟩, ⟨HB.out⟩⟩
 case round =>
  clear HO HK HB
  obtain ⟨x1_1, x5_1, dn, rfl, rfl, HA, HV, HO, HK, HB⟩ := hrel
  by_cases c3 : x5_1 < (l0.length : Int)
  · have c3b0 : decide (x5_1 < (l0.length : Int)) = true := decide_eq_true c3
    obtain ⟨k1, rfl⟩ : ∃ k1, gk = k1 + 1 := ⟨gk - 1, by have := HA.out; omega⟩
    have hlt : x5_1.toNat < l0.length := by have := HA.out; omega
    have HLT := Aside0.mk hlt
    have hlen := len_mid HA.out.2.2.2 (Nat.le_of_lt hlt)
    have HLN := Aside0.mk hlen
    obtain ⟨go5, co5, eo5, gb5, gl5, cl5, HG5⟩ := Kd.S_form HO.out (by omega)
    (first | cases eo5 | (injection eo5 with ea_ en_ ec_; (first | subst ea_ | (injection ea_ with ea_; subst ea_)); subst ec_; clear en_))
    have GB5 := Aside0.mk gb5
    have p5 : 0 ≤ x5_1 := HA.out.2.1
    obtain ⟨oki, c, hcl, hM, hcc, hfr, hoki, hH⟩ := Kd.S_elem HO.out [] x5_1 p5 c3
    obtain ⟨v0, rfl, hr0⟩ := hM
    rw [get_mid HA.out.2.2.2 hlt] at hr0
    obtain ⟨xe, hxe⟩ : ∃ xe : List S55, xe = l0.getD x5_1.toNat [] := ⟨_, rfl⟩
    rw [← hxe] at hr0
    have HXE := Aside0.mk hxe
    obtain ⟨A0, c0, rfl⟩ := Kd.R_slice hr0
    have HR0 := Aside0.mk hr0
    have HH := Aside0.mk hH
    have HOK := Aside0.mk hoki
    have hx0 : wr.cell? ⟨go5, x5_1.toNat, none⟩ = some (.slice A0 xe.length c0) := by
      have h9_ := hcc 0 _ rfl
      rw [show ((Kd.slice 55 k55)).sz = 1 from rfl, Nat.mul_one, Nat.add_zero] at h9_
      exact h9_
    clear hxe gb5 gl5 HG5 hlen hlt HO hfr hcc hcl hr0 hH hoki
    replace p5 := eq_true p5
    have q5 := eq_true c3
    clear c3
    go_wp2_with (first | (go_at_call 53; (refine (markV_rel oki _ _ _ w0 _ HB.out HR0.out).mono ?_); rintro e wq0 ⟨rfl, hr, hb, hk⟩; have HO := Aside0.mk (Kd.H_back (Kd.H_kept HH.out hk (fun _ _ h1 h2 => h1 h2)) (x' := mkV x1_1 xe) (okp := oki) ⟨_, rfl, hr⟩ (fun _ h => h)); have n0_ := Aside0.mk (HK.out.then_ hk (fun k h => .inl (HOK.out k h).1)); have n1_ := Aside0.mk hb; clear HH HK HB HR0 hr hb hk hx0; have HK := n0_; have HB := n1_; clear n0_ n1_))
    go_roundg k1
    case measure => omega
    case rel =>
     have h1 := HA.out
     have hq : x5_1 < (l0.length : Int) := of_eq_true q5
     have hw1 : wrap64 (x5_1 + 1) = x5_1 + 1 := by unfold wrap64; omega
     have h2 := HV.out
     have h3 := HO.out
     rw [set_mid h1.2.2.2 HLT.out] at h3
     rw [drop_getD HLT.out [], ← HXE.out] at h2
     refine ⟨laws_markValS.mk x1_1 xe, wrap64 (x5_1 + 1), dn ++ [mkV x1_1 xe], rfl, rfl, ⟨by omega, by omega, by omega, by rw [List.length_append, h1.2.2.2]; show _ + 1 = _; omega⟩, ⟨?_, ?_⟩, ⟨?_⟩, HK, HB⟩
     · rw [hw1, show (x5_1 + 1).toNat = x5_1.toNat + 1 by omega]
       exact h2.1
     · rw [hw1, show (x5_1 + 1).toNat = x5_1.toNat + 1 by omega, h2.2, List.append_assoc]
       rfl
     · rw [hw1, show (x5_1 + 1).toNat = x5_1.toNat + 1 by omega]
       exact h3
  · have c3b0 : decide (x5_1 < (l0.length : Int)) = false := decide_eq_false c3
    have hv := HV.out
    have h1 := HA.out
    have h3 := HO.out
    rw [List.drop_of_length_le (by omega)] at hv h3
    rw [List.append_nil] at h3
    have hv1 : x1_1 = laws_markValSS.mk a1 l0 := hv.1
    have hv2 : mkVS a1 l0 = dn := hv.2.trans (List.append_nil _)
    rw [← hv2] at h3
    have H3 := Aside0.mk h3
    clear c3 hv h1 h3 hv2
    go_wp2
    go_ret
    exact ⟨by first | rfl | (simp; done) | (simp [*]; done), H3.out, HB.out, HK.out⟩

theorem markA_seg {W : World} {base : Nat} {P oki : Nat → Prop} {g n cap : Nat} {xs : List S50} {i : Int} {c : List Value} (h : Kd.H k50 50 W base P (.slice (some ⟨g, 0, none⟩) n cap) xs i oki c) (h0 : 0 ≤ i) (h1 : i < n) (j : Nat) (hj : j + 1 ≤ 5) (v : Value) (hv : v.oneCell' = true) : Kd.H k50 50 (W.setCell ⟨g, i.toNat * 5 + j, none⟩ v) base P (.slice (some ⟨g, 0, none⟩) n cap) xs i oki (c.take j ++ [v] ++ c.drop (j + 1)) ∧ W.grownBy (W.setCell ⟨g, i.toNat * 5 + j, none⟩ v) (some g) :=
 Kd.H_seg h h0 h1 (seg := [v]) (j := j) hj (fun q hq => by rw [List.mem_singleton.1 hq]; exact hv)
theorem markA_cell {W : World} {base : Nat} {P oki : Nat → Prop} {g n cap : Nat} {xs : List S50} {i : Int} {c : List Value} (h : Kd.H k50 50 W base P (.slice (some ⟨g, 0, none⟩) n cap) xs i oki c) (h0 : 0 ≤ i) (h1 : i < n) (j : Nat) (u : Value) (hu : c[j]? = some u) : W.cell? ⟨g, i.toNat * 5 + j, none⟩ = some u := by
 obtain ⟨rows, _, _, _, _, hcc, _⟩ := Kd.H_raw h h0 h1
 exact hcc j u hu
theorem markA_fr {W : World} {base : Nat} {P oki : Nat → Prop} {g n cap : Nat} {xs : List S50} {i : Int} {c : List Value} (h : Kd.H k50 50 W base P (.slice (some ⟨g, 0, none⟩) n cap) xs i oki c) (h0 : 0 ≤ i) (h1 : i < n) (j : Nat) : W.frozen? ⟨g, i.toNat * 5 + j, none⟩ = false := by
 obtain ⟨rows, hl, hraw, _⟩ := Kd.H_raw h h0 h1
 obtain ⟨_, _, _, _, hfr⟩ := Kd.R_elem hraw [] i h0 h1
 exact hfr j

set_option maxHeartbeats 8000000 in
set_option maxRecDepth 100000 in
theorem markA_rel (P : Nat → Prop) (u : Value) (l0 : List S50) (a1 : Int) (w0 w : World) (hB : Below w0.heap.size w0 w) (ho0 : Kd.S k50 50 w w0.heap.size P u l0) :
  Calls Try.prog 25 #[u, .int .i64 a1] w fun e w' => e = .returned (.int .i64 (laws_markAsmInsS.mk a1 l0)) ∧ Kd.S k50 50 w' w0.heap.size P u (mkA a1 l0) ∧ Below w0.heap.size w0 w' ∧ Kept w w' P := by
 have HB := Aside0.mk hB
 have HK := Aside0.mk (Kept.refl w P)
 have hln : l0.length ≤ 9223372036854775807 := by obtain ⟨_, _, rfl⟩ := Kd.S_slice ho0; exact (Kd.S_reads' ho0).2.2.2.1
 clear hB
 obtain ⟨Aa, ca, rfl⟩ := Kd.S_slice ho0
 have HO := Aside0.mk ho0
 clear ho0
 go_enter Try.func25, Try.ntmps25
 go_wp2
 go_loopg [1, 5] (l0.length + 1) (fun kq v1 v5 w' => ∃ (x1_1 x5_1 : Int) (dn : List S50), v1 = .int .i64 x1_1 ∧ v5 = .int .i64 x5_1 ∧ Aside0 (kq + x5_1.toNat = l0.length + 1 ∧ 0 ≤ x5_1 ∧ x5_1 ≤ l0.length ∧ dn.length = x5_1.toNat) ∧ Aside0 (laws_markAsmInsS.mk x1_1 (l0.drop x5_1.toNat) = laws_markAsmInsS.mk a1 l0 ∧ mkA a1 l0 = dn ++ mkA x1_1 (l0.drop x5_1.toNat)) ∧ Aside0 (Kd.S k50 50 w' w0.heap.size P (.slice Aa l0.length ca) (dn ++ l0.drop x5_1.toNat)) ∧ Aside0 (Kept w w' P) ∧ Aside0 (Below w0.heap.size w0 w'))
 case atStart => exact ⟨a1, 0, [], rfl, rfl, ⟨by simp, by omega, by omega, rfl⟩, ⟨rfl, rfl⟩, ⟨HO.out⟩, ⟨HK.out⟩, ⟨HB.out⟩⟩
 case round =>
  clear HO HK HB
  obtain ⟨x1_1, x5_1, dn, rfl, rfl, HA, HV, HO, HK, HB⟩ := hrel
  by_cases c3 : x5_1 < (l0.length : Int)
  · have c3b0 : decide (x5_1 < (l0.length : Int)) = true := decide_eq_true c3
    obtain ⟨k1, rfl⟩ : ∃ k1, gk = k1 + 1 := ⟨gk - 1, by have := HA.out; omega⟩
    have hlt : x5_1.toNat < l0.length := by have := HA.out; omega
    have HLT := Aside0.mk hlt
    have hlen := len_mid HA.out.2.2.2 (Nat.le_of_lt hlt)
    have HLN := Aside0.mk hlen
    obtain ⟨go5, co5, eo5, gb5, gl5, cl5, HG5⟩ := Kd.S_form HO.out (by omega)
    (first | cases eo5 | (injection eo5 with ea_ en_ ec_; (first | subst ea_ | (injection ea_ with ea_; subst ea_)); subst ec_; clear en_))
    have GB5 := Aside0.mk gb5
    have p5 : 0 ≤ x5_1 := HA.out.2.1
    obtain ⟨oki, c, hcl, hM, hcc, hfr, hoki, hH⟩ := Kd.S_elem HO.out z50 x5_1 p5 c3
    rw [get_mid HA.out.2.2.2 hlt] at hM
    obtain ⟨xe, hxe⟩ : ∃ xe : S50, xe = l0.getD x5_1.toNat z50 := ⟨_, rfl⟩
    rw [← hxe] at hM
    have HXE := Aside0.mk hxe
    obtain ⟨v0, v3, rfl, hr0, hr3⟩ := k50_openM hM
    obtain ⟨A0, c0, rfl⟩ := Kd.R_slice hr0
    obtain ⟨A3, c3_, rfl⟩ := Kd.R_slice hr3
    have HR0 := Aside0.mk hr0
    have HR3 := Aside0.mk hr3
    have HH := Aside0.mk hH
    have HOK := Aside0.mk hoki
    have GP5 := Aside0.mk (show P go5 from (Kd.S_R HO.out).1 _ rfl)
    have HCC := Aside0.mk (And.intro (hcc 0 _ rfl) (And.intro (hcc 1 _ rfl) (And.intro (hcc 2 _ rfl) (And.intro (hcc 3 _ rfl) (hcc 4 _ rfl)))))
    have HFR := Aside0.mk hfr
    have hx0 : wr.cell? ⟨go5, x5_1.toNat * 5, none⟩ = some (.slice A0 xe.f0.length c0) := (hcc 0 _ rfl)
    clear hxe gb5 gl5 HG5 hlen hlt HO hfr hcc hcl hr0 hr3 hH hoki hM
    replace p5 := eq_true p5
    have q5 := eq_true c3
    clear c3
    go_wp2_with (first | (go_at_call 52; (refine (markM_rel (fun k => some k = (Value.slice A0 xe.f0.length c0).ownBlock ∧ oki k) _ _ _ w0 _ HB.out (Kd.R_mono (Kd.R_tight rfl HR0.out) (fun k hk => ⟨hk, HR0.out.1 k hk.symm⟩))).mono ?_); rintro e wq0 ⟨rfl, hr, hb, hk⟩; have n0_ := Aside0.mk (Kd.H_kept HH.out hk (fun _ _ h1 h2 => h1 h2.2)); have n1_ := Aside0.mk (Kd.R_mono hr (fun k a => a.2)); have n2_ := Aside0.mk (Kd.R_mono (Kd.R_kept (Kd.R_apart' HR3.out (Kd.R_typed HR0.out) (by decide)) hk (fun k a b => a.2 b.1)) (fun k a => a.1)); have n3_ := Aside0.mk (HK.out.then_ hk (fun k h => .inl (HOK.out k h.2).1)); have n4_ := Aside0.mk hb; clear HH HR0 HR3 HK HB hr hb hk hx0; have HH := n0_; have HR0 := n1_; have HR3 := n2_; have HK := n3_; have HB := n4_; clear n0_ n1_ n2_ n3_ n4_; have hx1 : wq0.cell? ⟨go5, x5_1.toNat * 5 + 1, none⟩ = some (.int .i64 xe.f1) := markA_cell HH.out (of_eq_true p5) (of_eq_true q5) 1 _ rfl; have hf1 : wq0.frozen? ⟨go5, x5_1.toNat * 5 + 1, none⟩ = false := markA_fr HH.out (of_eq_true p5) (of_eq_true q5) 1) | ((with_reducible refine gt 2 23 rfl ?_); refine sE 2 23 (wq0.setCell ⟨go5, x5_1.toNat * 5 + 1, none⟩ (.int .i64 (laws_markMovS.mk x1_1 xe.f0))) ?_; intro wq1 hw; obtain ⟨hh_, hg_⟩ := markA_seg HH.out (of_eq_true p5) (of_eq_true q5) 1 (by decide) (.int .i64 (laws_markMovS.mk x1_1 xe.f0)) rfl; have n0_ := Aside0.mk (show Kd.H k50 50 wq1 w0.heap.size P (.slice (some ⟨go5, 0, none⟩) l0.length ca) (dn ++ l0.drop x5_1.toNat) x5_1 oki [.slice A0 xe.f0.length c0, .int .i64 (laws_markMovS.mk x1_1 xe.f0), .int .i64 xe.f2, .slice A3 xe.f3.length c3_, .int .i64 xe.f4] by rw [hw]; exact hh_); have hg_ : wq0.grownBy wq1 (some go5) := (by rw [hw]; exact hg_); have n1_ := Aside0.mk (Kd.R_grown HR0.out hg_ (fun k hk e => (HOK.out k hk).2 (by injection e))); have n2_ := Aside0.mk (Kd.R_grown HR3.out hg_ (fun k hk e => (HOK.out k hk).2 (by injection e))); have n3_ := Aside0.mk (show Kept w wq1 P by rw [hw]; exact HK.out.setCell (.inl GP5.out) _); have n4_ := Aside0.mk ((by rw [hw]; exact below_set (HB.out) GB5.out : Below w0.heap.size w0 wq1)); clear HH HR0 HR3 HK HB hh_ hg_ hw hx1 hf1; have HH := n0_; have HR0 := n1_; have HR3 := n2_; have HK := n3_; have HB := n4_; clear n0_ n1_ n2_ n3_ n4_; have hx2 : wq1.cell? ⟨go5, x5_1.toNat * 5 + 2, none⟩ = some (.int .i64 xe.f2) := markA_cell HH.out (of_eq_true p5) (of_eq_true q5) 2 _ rfl; have hf2 : wq1.frozen? ⟨go5, x5_1.toNat * 5 + 2, none⟩ = false := markA_fr HH.out (of_eq_true p5) (of_eq_true q5) 2) | ((with_reducible refine gt 2 30 rfl ?_); refine sE 2 30 (wq1.setCell ⟨go5, x5_1.toNat * 5 + 2, none⟩ (.int .i64 (wrap64 (laws_markMovS.mk x1_1 xe.f0 + 1)))) ?_; intro wq2 hw; obtain ⟨hh_, hg_⟩ := markA_seg HH.out (of_eq_true p5) (of_eq_true q5) 2 (by decide) (.int .i64 (wrap64 (laws_markMovS.mk x1_1 xe.f0 + 1))) rfl; have n0_ := Aside0.mk (show Kd.H k50 50 wq2 w0.heap.size P (.slice (some ⟨go5, 0, none⟩) l0.length ca) (dn ++ l0.drop x5_1.toNat) x5_1 oki [.slice A0 xe.f0.length c0, .int .i64 (laws_markMovS.mk x1_1 xe.f0), .int .i64 (wrap64 (laws_markMovS.mk x1_1 xe.f0 + 1)), .slice A3 xe.f3.length c3_, .int .i64 xe.f4] by rw [hw]; exact hh_); have hg_ : wq1.grownBy wq2 (some go5) := (by rw [hw]; exact hg_); have n1_ := Aside0.mk (Kd.R_grown HR0.out hg_ (fun k hk e => (HOK.out k hk).2 (by injection e))); have n2_ := Aside0.mk (Kd.R_grown HR3.out hg_ (fun k hk e => (HOK.out k hk).2 (by injection e))); have n3_ := Aside0.mk (show Kept w wq2 P by rw [hw]; exact HK.out.setCell (.inl GP5.out) _); have n4_ := Aside0.mk ((by rw [hw]; exact below_set (HB.out) GB5.out : Below w0.heap.size w0 wq2)); clear HH HR0 HR3 HK HB hh_ hg_ hw hx2 hf2; have HH := n0_; have HR0 := n1_; have HR3 := n2_; have HK := n3_; have HB := n4_; clear n0_ n1_ n2_ n3_ n4_; have hx3 : wq2.cell? ⟨go5, x5_1.toNat * 5 + 3, none⟩ = some (.slice A3 xe.f3.length c3_) := markA_cell HH.out (of_eq_true p5) (of_eq_true q5) 3 _ rfl) | (go_at_call 53; (refine (markV_rel (fun k => some k = (Value.slice A3 xe.f3.length c3_).ownBlock ∧ oki k) _ _ _ w0 _ HB.out (Kd.R_mono (Kd.R_tight rfl HR3.out) (fun k hk => ⟨hk, HR3.out.1 k hk.symm⟩))).mono ?_); rintro e wq3 ⟨rfl, hr, hb, hk⟩; have n0_ := Aside0.mk (Kd.H_kept HH.out hk (fun _ _ h1 h2 => h1 h2.2)); have n2_ := Aside0.mk (Kd.R_mono hr (fun k a => a.2)); have n1_ := Aside0.mk (Kd.R_mono (Kd.R_kept (Kd.R_apart' HR0.out (Kd.R_typed HR3.out) (by decide)) hk (fun k a b => a.2 b.1)) (fun k a => a.1)); have n3_ := Aside0.mk (HK.out.then_ hk (fun k h => .inl (HOK.out k h.2).1)); have n4_ := Aside0.mk hb; clear HH HR0 HR3 HK HB hr hb hk hx3; have HH := n0_; have HR0 := n1_; have HR3 := n2_; have HK := n3_; have HB := n4_; clear n0_ n1_ n2_ n3_ n4_; have hx4 : wq3.cell? ⟨go5, x5_1.toNat * 5 + 4, none⟩ = some (.int .i64 xe.f4) := markA_cell HH.out (of_eq_true p5) (of_eq_true q5) 4 _ rfl; have hf4 : wq3.frozen? ⟨go5, x5_1.toNat * 5 + 4, none⟩ = false := markA_fr HH.out (of_eq_true p5) (of_eq_true q5) 4) | ((with_reducible refine gt 2 44 rfl ?_); refine sE 2 44 (wq3.setCell ⟨go5, x5_1.toNat * 5 + 4, none⟩ (.int .i64 (laws_markValS.mk (wrap64 (wrap64 (laws_markMovS.mk x1_1 xe.f0 + 1) + 1)) xe.f3))) ?_; intro wq4 hw; obtain ⟨hh_, hg_⟩ := markA_seg HH.out (of_eq_true p5) (of_eq_true q5) 4 (by decide) (.int .i64 (laws_markValS.mk (wrap64 (wrap64 (laws_markMovS.mk x1_1 xe.f0 + 1) + 1)) xe.f3)) rfl; have n0_ := Aside0.mk (show Kd.H k50 50 wq4 w0.heap.size P (.slice (some ⟨go5, 0, none⟩) l0.length ca) (dn ++ l0.drop x5_1.toNat) x5_1 oki [.slice A0 xe.f0.length c0, .int .i64 (laws_markMovS.mk x1_1 xe.f0), .int .i64 (wrap64 (laws_markMovS.mk x1_1 xe.f0 + 1)), .slice A3 xe.f3.length c3_, .int .i64 (laws_markValS.mk (wrap64 (wrap64 (laws_markMovS.mk x1_1 xe.f0 + 1) + 1)) xe.f3)] by rw [hw]; exact hh_); have hg_ : wq3.grownBy wq4 (some go5) := (by rw [hw]; exact hg_); have n1_ := Aside0.mk (Kd.R_grown HR0.out hg_ (fun k hk e => (HOK.out k hk).2 (by injection e))); have n2_ := Aside0.mk (Kd.R_grown HR3.out hg_ (fun k hk e => (HOK.out k hk).2 (by injection e))); have n3_ := Aside0.mk (show Kept w wq4 P by rw [hw]; exact HK.out.setCell (.inl GP5.out) _); have n4_ := Aside0.mk ((by rw [hw]; exact below_set (HB.out) GB5.out : Below w0.heap.size w0 wq4)); clear HH HR0 HR3 HK HB hh_ hg_ hw hx4 hf4; have HH := n0_; have HR0 := n1_; have HR3 := n2_; have HK := n3_; have HB := n4_; clear n0_ n1_ n2_ n3_ n4_))
    have HO := Aside0.mk (Kd.H_back HH.out (x' := (⟨mkM x1_1 xe.f0, laws_markMovS.mk x1_1 xe.f0, wrap64 (laws_markMovS.mk x1_1 xe.f0 + 1), mkV (wrap64 (wrap64 (laws_markMovS.mk x1_1 xe.f0 + 1) + 1)) xe.f3, laws_markValS.mk (wrap64 (wrap64 (laws_markMovS.mk x1_1 xe.f0 + 1) + 1)) xe.f3⟩ : S50)) (okp := oki) (k50_mkM _ _ _ (⟨mkM x1_1 xe.f0, laws_markMovS.mk x1_1 xe.f0, wrap64 (laws_markMovS.mk x1_1 xe.f0 + 1), mkV (wrap64 (wrap64 (laws_markMovS.mk x1_1 xe.f0 + 1) + 1)) xe.f3, laws_markValS.mk (wrap64 (wrap64 (laws_markMovS.mk x1_1 xe.f0 + 1) + 1)) xe.f3⟩ : S50) HR0.out HR3.out) (fun _ h => h))
    go_roundg k1
    case measure => omega
    case rel =>
     have h1 := HA.out
     have hq : x5_1 < (l0.length : Int) := of_eq_true q5
     have hw1 : wrap64 (x5_1 + 1) = x5_1 + 1 := by unfold wrap64; omega
     have h2 := HV.out
     have h3 := HO.out
     rw [set_mid h1.2.2.2 HLT.out] at h3
     rw [drop_getD HLT.out z50, ← HXE.out] at h2
     refine ⟨wrap64 ((laws_markValS.mk (wrap64 (wrap64 (laws_markMovS.mk x1_1 xe.f0 + 1) + 1)) xe.f3) + 1), wrap64 (x5_1 + 1), dn ++ [⟨mkM x1_1 xe.f0, laws_markMovS.mk x1_1 xe.f0, wrap64 (laws_markMovS.mk x1_1 xe.f0 + 1), mkV (wrap64 (wrap64 (laws_markMovS.mk x1_1 xe.f0 + 1) + 1)) xe.f3, laws_markValS.mk (wrap64 (wrap64 (laws_markMovS.mk x1_1 xe.f0 + 1) + 1)) xe.f3⟩], rfl, rfl, ⟨by omega, by omega, by omega, by rw [List.length_append, h1.2.2.2]; show _ + 1 = _; omega⟩, ⟨?_, ?_⟩, ⟨?_⟩, HK, HB⟩
     · rw [hw1, show (x5_1 + 1).toNat = x5_1.toNat + 1 by omega]
       exact h2.1
     · rw [hw1, show (x5_1 + 1).toNat = x5_1.toNat + 1 by omega, h2.2, List.append_assoc]
       rfl
     · rw [hw1, show (x5_1 + 1).toNat = x5_1.toNat + 1 by omega]
       exact h3
  · have c3b0 : decide (x5_1 < (l0.length : Int)) = false := decide_eq_false c3
    have hv := HV.out
    have h1 := HA.out
    have h3 := HO.out
    rw [List.drop_of_length_le (by omega)] at hv h3
    rw [List.append_nil] at h3
    have hv1 : x1_1 = laws_markAsmInsS.mk a1 l0 := hv.1
    have hv2 : mkA a1 l0 = dn := hv.2.trans (List.append_nil _)
    rw [← hv2] at h3
    have H3 := Aside0.mk h3
    clear c3 hv h1 h3 hv2
    go_wp2
    go_ret
    exact ⟨by first | rfl | (simp; done) | (simp [*]; done), H3.out, HB.out, HK.out⟩
/-- The law's argument, as it came in. -/
def AM (w : World) (A0 : Option Addr) (c0 : Nat) (a0 : List S74) : Prop := Kd.C k74 w A0 a0.length a0 ∧ a0.length ≤ c0
theorem AM.below {w W : World} {A0 : Option Addr} {c0 : Nat} {a0 : List S74} (h : AM w A0 c0 a0) (hb : Below w.heap.size w W) : AM W A0 c0 a0 := ⟨Kd.C_below h.1 hb, h.2⟩
/-- A program that was made here. -/
def XM (w : World) (base : Nat) (ok : Nat → Prop) (A : Option Addr) (n c : Nat) (P : List S53) : Prop := Kd.R k53 53 w base ok (.slice A n c) P
/-- Code that was made here. -/
def WM (w : World) (base : Nat) (ok : Nat → Prop) (v1 v2 : Value) (C : List S50) (M : List (List S55)) : Prop := Kd.S k50 50 w base ok v1 C ∧ Kd.S (Kd.slice 55 k55) 47 w base ok v2 M
/-- Code that was made here, its two parts apart. -/
def GM (w : World) (base : Nat) (ok : Nat → Prop) (v1 v2 : Value) (C : List S50) (M : List (List S55)) : Prop := ∃ D : Nat → Prop, Kd.S k50 50 w base (fun k => ok k ∧ D k) v1 C ∧ Kd.S (Kd.slice 55 k55) 47 w base (fun k => ok k ∧ ¬ D k) v2 M
section
variable {w w1 : World} {base base1 : Nat} {ok ok1 : Nat → Prop} {A : Option Addr} {n c : Nat} {P : List S53} {v1 v2 : Value} {C : List S50} {M : List (List S55)}
theorem XM.step (h : XM w base ok A n c P) (hm : ∀ k, ok k → k < w.heap.size → w1.heap[k]? = w.heap[k]?) : XM w1 base ok A n c P := Kd.R_step h hm
theorem XM.mono (h : XM w base ok A n c P) (hk : ∀ k, base ≤ k → k < w.heap.size → ok k → ok1 k) : XM w base ok1 A n c P := Kd.R_mono (Kd.R_bound h) (fun k a => hk k a.2.1 a.2.2.1 a.1)
theorem XM.lower (h : XM w base ok A n c P) (hb : base1 ≤ base) : XM w base1 ok A n c P := Kd.R_lower h hb
theorem WM.step (h : WM w base ok v1 v2 C M) (hm : ∀ k, ok k → k < w.heap.size → w1.heap[k]? = w.heap[k]?) : WM w1 base ok v1 v2 C M := ⟨Kd.S_step h.1 hm, Kd.S_step h.2 hm⟩
theorem WM.mono (h : WM w base ok v1 v2 C M) (hk : ∀ k, base ≤ k → k < w.heap.size → ok k → ok1 k) : WM w base ok1 v1 v2 C M := ⟨Kd.S_mono (Kd.S_bound h.1) (fun k a => hk k a.2.1 a.2.2.1 a.1), Kd.S_mono (Kd.S_bound h.2) (fun k a => hk k a.2.1 a.2.2.1 a.1)⟩
theorem WM.lower (h : WM w base ok v1 v2 C M) (hb : base1 ≤ base) : WM w base1 ok v1 v2 C M := ⟨Kd.S_lower h.1 hb, Kd.S_lower h.2 hb⟩
theorem GM.step (h : GM w base ok v1 v2 C M) (hm : ∀ k, ok k → k < w.heap.size → w1.heap[k]? = w.heap[k]?) : GM w1 base ok v1 v2 C M := by
 obtain ⟨D, h1, h2⟩ := h
 exact ⟨D, Kd.S_step h1 (fun k a => hm k a.1), Kd.S_step h2 (fun k a => hm k a.1)⟩
theorem GM.mono (h : GM w base ok v1 v2 C M) (hk : ∀ k, base ≤ k → k < w.heap.size → ok k → ok1 k) : GM w base ok1 v1 v2 C M := by
 obtain ⟨D, h1, h2⟩ := h
 exact ⟨D, Kd.S_mono (Kd.S_bound h1) (fun k a => ⟨hk k a.2.1 a.2.2.1 a.1.1, a.1.2⟩), Kd.S_mono (Kd.S_bound h2) (fun k a => ⟨hk k a.2.1 a.2.2.1 a.1.1, a.1.2⟩)⟩
theorem GM.lower (h : GM w base ok v1 v2 C M) (hb : base1 ≤ base) : GM w base1 ok v1 v2 C M := by
 obtain ⟨D, h1, h2⟩ := h
 exact ⟨D, Kd.S_lower h1 hb, Kd.S_lower h2 hb⟩
/-- What the program's Plain leaves. -/
theorem GM.mk {D : Nat → Prop} (h1 : Kd.S (rk D k50) 50 w base (fun _ => True) v1 C) (h2 : Kd.S (rk (nD D) (Kd.slice 55 k55)) 47 w base (fun _ => True) v2 M) : GM w base (fun _ => True) v1 v2 C M := by
 refine ⟨fun k => (some k = v1.ownBlock ∨ D k) ∧ some k ≠ v2.ownBlock, Kd.S_mono (Kd.S_apart' (rk_out h1) (Kd.S_typed h2) (by decide)) (fun k a => ⟨trivial, a.1.2, a.2⟩), Kd.S_mono (Kd.S_apart' (rk_out h2) (Kd.S_typed h1) (by decide)) (fun k a => ⟨trivial, fun b => ?_⟩)⟩
 rcases b.1 with h | h
 · exact a.2 h
 · exact a.1.2.elim b.2 (fun q => q h)
set_option maxHeartbeats 4000000 in
set_option maxRecDepth 100000 in
theorem markG {f : Int} {w0 : World} (hB : Below w0.heap.size w0 w) (hG : GM w w0.heap.size ok v1 v2 C M) :
  Calls Try.prog 11 #[.agg #[.int .i64 f, v1, v2], .int .i64 1] w fun e w' => e = .returned (.int .i64 (laws_markValSS.mk (laws_markAsmInsS.mk 1 C) M)) ∧ GM w' w0.heap.size ok v1 v2 (mkA 1 C) (mkVS (laws_markAsmInsS.mk 1 C) M) ∧ Below w0.heap.size w0 w' ∧ Kept w w' ok := by
 have HB := Aside0.mk hB
 obtain ⟨D, hG1, hG2⟩ := hG
 have G1 := Aside0.mk (Kd.S_mono (Kd.S_bound hG1) (ok' := fun k => (ok k ∧ D k) ∧ k < w.heap.size) (fun k a => ⟨a.1, a.2.2.1⟩))
 have G2 := Aside0.mk hG2
 have hbx := heap_alloc_new w (.cells #[.int .i64 f, v1, v2] 29)
 have HX := Aside0.mk hbx
 clear hB hG1 hG2 hbx
 go_enter Try.func11, Try.ntmps11
 go_wp2_with (first | ((with_reducible refine gate_callee (f := 25) rfl ?_); refine goesL_ _ rfl rfl Try.func25 (by kernel_rfl) rfl #[v1, .int .i64 1] rfl gl ?_; refine (markA_rel _ v1 C 1 w0 _ (below_alloc HB.out _) (Kd.S_alloc G1.out _)).mono ?_; rintro e w6 ⟨rfl, hr, hb, hk⟩; refine ⟨_, rfl, ?_⟩; have HR1 := Aside0.mk hr; have HB6 := Aside0.mk hb; have HK6 := Aside0.mk hk; have HX6 := Aside0.mk ((hk.2 w.heap.size (blk_lt HX.out) (fun a => Nat.lt_irrefl _ a.2)).trans HX.out); have hc2_ := (blk_cell HX6.out 2).trans rfl; clear hr hb hk) | ((with_reducible refine gate_callee (f := 26) rfl ?_); refine goesL_ _ rfl rfl Try.func26 (by kernel_rfl) rfl #[v2, .int .i64 _] rfl gl ?_; refine (markVS_rel _ v2 M (laws_markAsmInsS.mk 1 C) w0 _ HB6.out (Kd.S_kept (Kd.S_alloc G2.out _) HK6.out (fun k a b => a.2 b.1.2))).mono ?_; rintro e w7 ⟨rfl, hr, hb, hk⟩; refine ⟨_, rfl, ?_⟩; have HR2 := Aside0.mk hr; have HB7 := Aside0.mk hb; have HK7 := Aside0.mk hk; clear hr hb hk))
 go_ret
 refine ⟨rfl, ⟨D, ?_, HR2.out⟩, HB7.out, ?_⟩
 · exact Kd.S_mono (Kd.S_kept HR1.out HK7.out (fun k a b => b.2 a.1.2)) (fun k a => a.1)
 · exact (((Kept.refl w ok).alloc _).then_ HK6.out (fun k a => .inl a.1.1)).then_ HK7.out (fun k a => .inl a.1)
variable {A0 B1 B2 : Option Addr} {c0 m1 m2 d1 d2 : Nat} {a0 : List S74} {f fu : Int} {k : Nat}
theorem szX {left : Int} (hA : AM w A0 c0 a0) (h : laws_szProgram.f k a0 1048576 = some left) :
  Calls Try.prog 4 #[.agg #[.slice A0 a0.length c0], .int .i64 1048576] w fun e w' => e = .returned (.int .i64 left) ∧ Below w.heap.size w w' :=
 laws_szProgram.calls k A0 c0 a0 1048576 left w hA.1 hA.2 h
theorem toX (hA : AM w A0 c0 a0) (h : laws_toProgram.f k a0 = some P) :
  Calls Try.prog 6 #[.agg #[.slice A0 a0.length c0]] w fun e w' => ∃ (B : Option Addr) (m d : Nat), e = .returned (.agg #[.slice B m d]) ∧ XM w' w.heap.size (fun _ => True) B m d P ∧ Below w.heap.size w w' := by
 refine (laws_toProgram.calls k A0 c0 a0 P w hA.1 hA.2 h).mono ?_
 rintro e w' ⟨v0, rfl, h0, hb⟩
 obtain ⟨B, d, rfl⟩ := Kd.S_slice h0
 exact ⟨B, _, d, rfl, Kd.S_R h0, hb⟩
theorem specG (hX : XM w base ok A n c P) (h : spec_Plain.f k P f = some (fu, C, M)) :
  Calls Try.prog 5 #[.agg #[.slice A n c], .int .i64 f] w fun e w' => ∃ (B1 B2 : Option Addr) (m1 m2 d1 d2 : Nat), e = .returned (.agg #[.int .i64 fu, .slice B1 m1 d1, .slice B2 m2 d2]) ∧ WM w' w.heap.size (fun _ => True) (.slice B1 m1 d1) (.slice B2 m2 d2) C M ∧ Below w.heap.size w w' := by
 obtain ⟨rfl, x0, y0⟩ := Kd.R_reads' hX
 refine (spec_Plain.calls k A c P f fu C M w y0 x0 h).mono ?_
 rintro e w' ⟨v1, v2, rfl, h1, h2, hb⟩
 obtain ⟨B1, d1, rfl⟩ := Kd.S_slice h1
 obtain ⟨B2, d2, rfl⟩ := Kd.S_slice h2
 exact ⟨B1, B2, _, _, d1, d2, rfl, ⟨h1, h2⟩, hb⟩
theorem implG (hX : XM w base ok A n c P) (h : impl_Plain.f k P f = some (fu, C, M)) :
  Calls Try.prog 7 #[.agg #[.slice A n c], .int .i64 f] w fun e w' => ∃ (B1 B2 : Option Addr) (m1 m2 d1 d2 : Nat), e = .returned (.agg #[.int .i64 fu, .slice B1 m1 d1, .slice B2 m2 d2]) ∧ GM w' w.heap.size (fun _ => True) (.slice B1 m1 d1) (.slice B2 m2 d2) C M ∧ Below w.heap.size w w' := by
 obtain ⟨rfl, x0, y0⟩ := Kd.R_reads' hX
 refine (impl_Plain.calls k A c P f fu C M w y0 x0 h).mono ?_
 rintro e w' ⟨D, v1, v2, rfl, h1, h2, hb⟩
 have g := GM.mk h1 h2
 obtain ⟨B1, d1, rfl⟩ := Kd.S_slice h1
 obtain ⟨B2, d2, rfl⟩ := Kd.S_slice h2
 exact ⟨B1, B2, _, _, d1, d2, rfl, g, hb⟩
theorem eqX {b1 : Nat} {o1 : Nat → Prop} {B : Option Addr} {m d : Nat} (hX : XM w base ok A n c P) (hY : XM w b1 o1 B m d P) (h : laws_eqProgram.f k P P = some true) :
  Calls Try.prog 9 #[.agg #[.slice A n c], .agg #[.slice B m d]] w fun e w' => e = .returned (.bool true) ∧ Below w.heap.size w w' := by
 obtain ⟨rfl, x0, y0⟩ := Kd.R_reads' hX
 obtain ⟨rfl, p0, q0⟩ := Kd.R_reads' hY
 exact laws_eqProgram.calls k A c P B d P true w y0 x0 q0 p0 h
theorem markX {w0 : World} {k1 : Int} (hB : Below w0.heap.size w0 w) (hX : XM w w0.heap.size ok A n c P) (h : laws_markProgram.f P 1 = some k1) :
  Calls Try.prog 10 #[.agg #[.slice A n c], .int .i64 1] w fun e w' => e = .returned (.int .i64 k1) ∧ Below w0.heap.size w0 w' ∧ Kept w w' ok :=
 laws_markProgram.calls ok _ P 1 k1 w0 w hB hX h
theorem eqG {n1 n2 c1 c2 b1 : Nat} {A1 A2 : Option Addr} {o1 : Nat → Prop} (hX : GM w base ok (.slice A1 n1 c1) (.slice A2 n2 c2) C M) (hY : WM w b1 o1 (.slice B1 m1 d1) (.slice B2 m2 d2) C M) (h : laws_eqAsm.f k fu C M fu C M = some true) :
  Calls Try.prog 8 #[.agg #[.int .i64 fu, .slice A1 n1 c1, .slice A2 n2 c2], .agg #[.int .i64 fu, .slice B1 m1 d1, .slice B2 m2 d2]] w fun e w' => e = .returned (.bool true) ∧ Below w.heap.size w w' := by
 obtain ⟨D, hX1, hX2⟩ := hX
 obtain ⟨rfl, x1, y1⟩ := Kd.S_reads' hX1
 obtain ⟨rfl, x2, y2⟩ := Kd.S_reads' hX2
 obtain ⟨rfl, p1, q1⟩ := Kd.S_reads' hY.1
 obtain ⟨rfl, p2, q2⟩ := Kd.S_reads' hY.2
 exact laws_eqAsm.calls k fu A1 c1 C A2 c2 M fu B1 d1 C B2 d2 M true w y1 x1 y2 x2 q1 p1 q2 p2 h
theorem heldG {n1 n2 c1 c2 : Nat} {A1 A2 : Option Addr} {m : Int} (hX : GM w base ok (.slice A1 n1 c1) (.slice A2 n2 c2) C M) (h : laws_heldAsm.f k fu C M 1 = some m) :
  Calls Try.prog 12 #[.agg #[.int .i64 fu, .slice A1 n1 c1, .slice A2 n2 c2], .int .i64 1] w fun e w' => e = .returned (.int .i64 m) ∧ Below w.heap.size w w' := by
 obtain ⟨D, hX1, hX2⟩ := hX
 obtain ⟨rfl, x1, y1⟩ := Kd.S_reads' hX1
 obtain ⟨rfl, x2, y2⟩ := Kd.S_reads' hX2
 exact laws_heldAsm.calls k fu A1 c1 C A2 c2 M 1 m w y1 x1 y2 x2 h
end
/-- What the law asks at its arguments. -/
def LawP (a0 : List S74) (f : Int) : Prop := ∃ (k : Nat) (left : Int), laws_szProgram.f k a0 1048576 = some left ∧ (¬ left < 0 → ∃ (P : List S53) (fu : Int) (C : List S50) (M : List (List S55)) (k1 m : Int),
 laws_toProgram.f k a0 = some P ∧ spec_Plain.f k P f = some (fu, C, M) ∧ impl_Plain.f k P f = some (fu, C, M) ∧ laws_eqAsm.f k fu C M fu C M = some true ∧ laws_eqProgram.f k P P = some true ∧ (laws_markProgram.f P 1 = some k1 ∧ ¬ k1 < 0) ∧
 (laws_heldAsm.f k fu (mkA 1 C) (mkVS (laws_markAsmInsS.mk 1 C) M) 1 = some m ∧ laws_markValSS.mk (laws_markAsmInsS.mk 1 C) M = m ∧ ¬ m < 0))
theorem markGm {v1 v2 : Value} {C : List S50} {M : List (List S55)} {f m : Int} {ok : Nat → Prop} {w0 w : World} (hm : laws_markValSS.mk (laws_markAsmInsS.mk 1 C) M = m) (hB : Below w0.heap.size w0 w) (hG : GM w w0.heap.size ok v1 v2 C M) :
  Calls Try.prog 11 #[.agg #[.int .i64 f, v1, v2], .int .i64 1] w fun e w' => e = .returned (.int .i64 m) ∧ GM w' w0.heap.size ok v1 v2 (mkA 1 C) (mkVS (laws_markAsmInsS.mk 1 C) M) ∧ Below w0.heap.size w0 w' ∧ Kept w w' ok := by
 subst hm
 exact markG hB hG
set_option maxHeartbeats 16000000 in
set_option maxRecDepth 100000 in
theorem law_rel {A0 : Option Addr} {c0 : Nat} {a0 : List S74} {f : Int} {w : World} (hA : AM w A0 c0 a0) (hL : LawP a0 f) :
  Calls Try.prog 3 #[.agg #[.slice A0 a0.length c0], .int .i64 f] w fun e w' => e = .returned (.bool true) ∧ Below w.heap.size w w' := by
 have HR := Aside0.mk hA
 obtain ⟨k, left, hsz, hF⟩ := hL
 have HSZ := Aside0.mk hsz
 have HF := Aside0.mk hF
 clear hA hsz hF
 have ZP := Aside0.mk (heap_alloc_new w (.cells #[.slice A0 a0.length c0] 24))
 have HB := Aside0.mk (below_alloc (Below.refl w.heap.size w) (.cells #[.slice A0 a0.length c0] 24))
 have zp0 := (blk_cell ZP.out 0).trans rfl
 by_cases hlf : left < 0
 · have hlfd : decide (left < 0) = true := decide_eq_true hlf
   clear HF
   go_enter Try.func3, Try.ntmps3
   go_wp2_with (first | ((with_reducible refine gate_dst (N := 15) rfl ?_); refine goesL_ _ rfl rfl Try.func4 (by kernel_rfl) rfl #[.agg #[.slice A0 a0.length c0], .int .i64 1048576] rfl gl ?_; refine (szX (HR.out.below HB.out) HSZ.out).mono ?_; rintro e w1 ⟨rfl, hb⟩; refine ⟨_, rfl, ?_⟩; clear zp0; have n0_ := Aside0.mk (below_step HB.out hb); have n1_ := Aside0.mk (blk_below ZP.out hb); clear HB ZP; have HB := n0_; have ZP := n1_; clear n0_ n1_; clear hb; have zp0 := (blk_cell ZP.out 0).trans rfl))
   go_ret
   exact ⟨rfl, HB.out⟩
 have hlfd : decide (left < 0) = false := decide_eq_false hlf
 obtain ⟨P, fu, C, M, k1, m, hf1, hf2, hf3, hf4, hf5, hf6, hf7⟩ := HF.out hlf
 have F1 := Aside0.mk hf1
 have F2 := Aside0.mk hf2
 have F3 := Aside0.mk hf3
 have F4 := Aside0.mk hf4
 have F5 := Aside0.mk hf5
 have F6 := Aside0.mk hf6
 have F7 := Aside0.mk hf7
 have hk1 : decide (k1 < 0) = false := decide_eq_false hf6.2
 have hmn : decide (m < 0) = false := decide_eq_false hf7.2.2
 clear HF hf1 hf2 hf3 hf4 hf5 hf6 hf7 hlf
 go_enter Try.func3, Try.ntmps3
 go_wp2_with (first | ((with_reducible refine gate_dst (N := 15) rfl ?_); refine goesL_ _ rfl rfl Try.func4 (by kernel_rfl) rfl #[.agg #[.slice A0 a0.length c0], .int .i64 1048576] rfl gl ?_; refine (szX (HR.out.below HB.out) HSZ.out).mono ?_; rintro e w1 ⟨rfl, hb⟩; refine ⟨_, rfl, ?_⟩; clear zp0; have n0_ := Aside0.mk (below_step HB.out hb); have n1_ := Aside0.mk (blk_below ZP.out hb); clear HB ZP; have HB := n0_; have ZP := n1_; clear n0_ n1_; clear hb; have zp0 := (blk_cell ZP.out 0).trans rfl) | ((with_reducible refine gate_dst (N := 19) rfl ?_); refine goesL_ _ rfl rfl Try.func6 (by kernel_rfl) rfl #[.agg #[.slice A0 a0.length c0]] rfl gl ?_; refine (toX (HR.out.below HB.out) F1.out).mono ?_; rintro e w2 ⟨At, nt, ct, rfl, hX, hb⟩; refine ⟨_, rfl, ?_⟩; have T0 := Aside0.mk hX; clear hX; clear zp0; have n0_ := Aside0.mk (below_step HB.out hb); have n1_ := Aside0.mk (blk_below ZP.out hb); clear HB ZP; have HB := n0_; have ZP := n1_; clear n0_ n1_; clear hb; have zp0 := (blk_cell ZP.out 0).trans rfl; have HS := Aside0.mk (show w.heap.size < w2.heap.size from by have := blk_lt ZP.out; exact this)) | ((with_reducible refine gate_dst (N := 21) rfl ?_); refine goesL_ _ rfl rfl Try.func5 (by kernel_rfl) rfl #[.agg #[.slice At nt ct], .int .i64 f] rfl gl ?_; refine (specG T0.out F2.out).mono ?_; rintro e w3 ⟨Aa1, Aa2, na1, na2, ca1, ca2, rfl, hG, hb⟩; refine ⟨_, rfl, ?_⟩; clear T0; have W0 := Aside0.mk ((hG.mono (ok1 := fun k_ => w2.heap.size ≤ k_ ∧ k_ < w3.heap.size) (fun k_ a_ b_ _ => ⟨by (try simp at a_); omega, b_⟩)).lower (show w.heap.size ≤ _ from HB.out.size)); clear hG; have n_ := Aside0.mk (show w.heap.size < w2.heap.size ∧ w2.heap.size ≤ w3.heap.size from by have h9 := HS.out; have h8 := hb.size; (try simp at h8); omega); clear HS; have HS := n_; clear n_; clear zp0; have n0_ := Aside0.mk (below_step HB.out hb); have n1_ := Aside0.mk (blk_below ZP.out hb); clear HB ZP; have HB := n0_; have ZP := n1_; clear n0_ n1_; clear hb; have zp0 := (blk_cell ZP.out 0).trans rfl; clear zp0; have hb := below_alloc (Below.refl w3.heap.size w3) (.cells #[.int .i64 fu, .slice Aa1 na1 ca1, .slice Aa2 na2 ca2] 29); have Z10 := Aside0.mk (heap_alloc_new w3 (.cells #[.int .i64 fu, .slice Aa1 na1 ca1, .slice Aa2 na2 ca2] 29)); have n0_ := Aside0.mk (below_step HB.out hb); have n1_ := Aside0.mk (blk_below ZP.out hb); have n2_ := Aside0.mk (W0.out.step (fun k_ _ hk_ => hb.block k_ hk_)); clear HB ZP W0; have HB := n0_; have ZP := n1_; have W0 := n2_; clear n0_ n1_ n2_; clear hb; have zp0 := (blk_cell ZP.out 0).trans rfl; have za0 := (blk_cell Z10.out 0).trans rfl; have za1 := (blk_cell Z10.out 1).trans rfl; have za2 := (blk_cell Z10.out 2).trans rfl) | ((with_reducible refine gate_dst (N := 23) rfl ?_); refine goesL_ _ rfl rfl Try.func6 (by kernel_rfl) rfl #[.agg #[.slice A0 a0.length c0]] rfl gl ?_; refine (toX (HR.out.below HB.out) F1.out).mono ?_; rintro e w4 ⟨Ax, nx, cx, rfl, hX, hb⟩; refine ⟨_, rfl, ?_⟩; have X0 := Aside0.mk ((hX.mono (ok1 := fun k_ => w3.heap.size + 1 ≤ k_ ∧ k_ < w4.heap.size) (fun k_ a_ b_ _ => ⟨by (try simp at a_); omega, b_⟩)).lower (show w.heap.size ≤ _ from HB.out.size)); clear hX; have n_ := Aside0.mk (show w.heap.size < w2.heap.size ∧ w2.heap.size ≤ w3.heap.size ∧ w3.heap.size + 1 ≤ w4.heap.size from by have h9 := HS.out; have h8 := hb.size; (try simp at h8); omega); clear HS; have HS := n_; clear n_; clear zp0 za0 za1 za2; have n0_ := Aside0.mk (below_step HB.out hb); have n1_ := Aside0.mk (blk_below ZP.out hb); have n2_ := Aside0.mk (W0.out.step (fun k_ _ hk_ => hb.block k_ hk_)); have n3_ := Aside0.mk (blk_below Z10.out hb); clear HB ZP W0 Z10; have HB := n0_; have ZP := n1_; have W0 := n2_; have Z10 := n3_; clear n0_ n1_ n2_ n3_; clear hb; have zp0 := (blk_cell ZP.out 0).trans rfl; have za0 := (blk_cell Z10.out 0).trans rfl; have za1 := (blk_cell Z10.out 1).trans rfl; have za2 := (blk_cell Z10.out 2).trans rfl; clear zp0 za0 za1 za2; have hb := below_alloc (Below.refl w4.heap.size w4) (.cells #[.slice Ax nx cx] 33); have Z11 := Aside0.mk (heap_alloc_new w4 (.cells #[.slice Ax nx cx] 33)); have n0_ := Aside0.mk (below_step HB.out hb); have n1_ := Aside0.mk (blk_below ZP.out hb); have n2_ := Aside0.mk (W0.out.step (fun k_ _ hk_ => hb.block k_ hk_)); have n3_ := Aside0.mk (blk_below Z10.out hb); have n4_ := Aside0.mk (X0.out.step (fun k_ _ hk_ => hb.block k_ hk_)); clear HB ZP W0 Z10 X0; have HB := n0_; have ZP := n1_; have W0 := n2_; have Z10 := n3_; have X0 := n4_; clear n0_ n1_ n2_ n3_ n4_; clear hb; have zp0 := (blk_cell ZP.out 0).trans rfl; have za0 := (blk_cell Z10.out 0).trans rfl; have za1 := (blk_cell Z10.out 1).trans rfl; have za2 := (blk_cell Z10.out 2).trans rfl; have zx0 := (blk_cell Z11.out 0).trans rfl) | ((with_reducible refine gate_dst (N := 26) rfl ?_); refine goesL_ _ rfl rfl Try.func7 (by kernel_rfl) rfl #[.agg #[.slice Ax nx cx], .int .i64 f] rfl gl ?_; refine (implG X0.out F3.out).mono ?_; rintro e w5 ⟨Ag1, Ag2, ng1, ng2, cg1, cg2, rfl, hG, hb⟩; refine ⟨_, rfl, ?_⟩; have G0 := Aside0.mk ((hG.mono (ok1 := fun k_ => w4.heap.size + 1 ≤ k_ ∧ k_ < w5.heap.size) (fun k_ a_ b_ _ => ⟨by (try simp at a_); omega, b_⟩)).lower (show w.heap.size ≤ _ from HB.out.size)); clear hG; have n_ := Aside0.mk (show w.heap.size < w2.heap.size ∧ w2.heap.size ≤ w3.heap.size ∧ w3.heap.size + 1 ≤ w4.heap.size ∧ w4.heap.size + 1 ≤ w5.heap.size from by have h9 := HS.out; have h8 := hb.size; (try simp at h8); omega); clear HS; have HS := n_; clear n_; clear zp0 za0 za1 za2 zx0; have n0_ := Aside0.mk (below_step HB.out hb); have n1_ := Aside0.mk (blk_below ZP.out hb); have n2_ := Aside0.mk (W0.out.step (fun k_ _ hk_ => hb.block k_ hk_)); have n3_ := Aside0.mk (blk_below Z10.out hb); have n4_ := Aside0.mk (X0.out.step (fun k_ _ hk_ => hb.block k_ hk_)); have n5_ := Aside0.mk (blk_below Z11.out hb); clear HB ZP W0 Z10 X0 Z11; have HB := n0_; have ZP := n1_; have W0 := n2_; have Z10 := n3_; have X0 := n4_; have Z11 := n5_; clear n0_ n1_ n2_ n3_ n4_ n5_; clear hb; have zp0 := (blk_cell ZP.out 0).trans rfl; have za0 := (blk_cell Z10.out 0).trans rfl; have za1 := (blk_cell Z10.out 1).trans rfl; have za2 := (blk_cell Z10.out 2).trans rfl; have zx0 := (blk_cell Z11.out 0).trans rfl; clear zp0 za0 za1 za2 zx0; have hb := below_alloc (Below.refl w5.heap.size w5) (.cells #[.int .i64 fu, .slice Ag1 ng1 cg1, .slice Ag2 ng2 cg2] 29); have Z13 := Aside0.mk (heap_alloc_new w5 (.cells #[.int .i64 fu, .slice Ag1 ng1 cg1, .slice Ag2 ng2 cg2] 29)); have n0_ := Aside0.mk (below_step HB.out hb); have n1_ := Aside0.mk (blk_below ZP.out hb); have n2_ := Aside0.mk (W0.out.step (fun k_ _ hk_ => hb.block k_ hk_)); have n3_ := Aside0.mk (blk_below Z10.out hb); have n4_ := Aside0.mk (X0.out.step (fun k_ _ hk_ => hb.block k_ hk_)); have n5_ := Aside0.mk (blk_below Z11.out hb); have n6_ := Aside0.mk (G0.out.step (fun k_ _ hk_ => hb.block k_ hk_)); clear HB ZP W0 Z10 X0 Z11 G0; have HB := n0_; have ZP := n1_; have W0 := n2_; have Z10 := n3_; have X0 := n4_; have Z11 := n5_; have G0 := n6_; clear n0_ n1_ n2_ n3_ n4_ n5_ n6_; clear hb; have zp0 := (blk_cell ZP.out 0).trans rfl; have za0 := (blk_cell Z10.out 0).trans rfl; have za1 := (blk_cell Z10.out 1).trans rfl; have za2 := (blk_cell Z10.out 2).trans rfl; have zx0 := (blk_cell Z11.out 0).trans rfl; have zg0 := (blk_cell Z13.out 0).trans rfl; have zg1 := (blk_cell Z13.out 1).trans rfl; have zg2 := (blk_cell Z13.out 2).trans rfl) | ((with_reducible refine gate_dst (N := 29) rfl ?_); refine goesL_ _ rfl rfl Try.func8 (by kernel_rfl) rfl #[.agg #[.int .i64 fu, .slice Ag1 ng1 cg1, .slice Ag2 ng2 cg2], .agg #[.int .i64 fu, .slice Aa1 na1 ca1, .slice Aa2 na2 ca2]] rfl gl ?_; refine (eqG G0.out W0.out F4.out).mono ?_; rintro e w6 ⟨rfl, hb⟩; refine ⟨_, rfl, ?_⟩; clear zp0 za0 za1 za2 zx0 zg0 zg1 zg2; have n0_ := Aside0.mk (below_step HB.out hb); have n1_ := Aside0.mk (blk_below ZP.out hb); have n2_ := Aside0.mk (W0.out.step (fun k_ _ hk_ => hb.block k_ hk_)); have n3_ := Aside0.mk (blk_below Z10.out hb); have n4_ := Aside0.mk (X0.out.step (fun k_ _ hk_ => hb.block k_ hk_)); have n5_ := Aside0.mk (blk_below Z11.out hb); have n6_ := Aside0.mk (G0.out.step (fun k_ _ hk_ => hb.block k_ hk_)); have n7_ := Aside0.mk (blk_below Z13.out hb); clear HB ZP W0 Z10 X0 Z11 G0 Z13; have HB := n0_; have ZP := n1_; have W0 := n2_; have Z10 := n3_; have X0 := n4_; have Z11 := n5_; have G0 := n6_; have Z13 := n7_; clear n0_ n1_ n2_ n3_ n4_ n5_ n6_ n7_; clear hb; have zp0 := (blk_cell ZP.out 0).trans rfl; have za0 := (blk_cell Z10.out 0).trans rfl; have za1 := (blk_cell Z10.out 1).trans rfl; have za2 := (blk_cell Z10.out 2).trans rfl; have zx0 := (blk_cell Z11.out 0).trans rfl; have zg0 := (blk_cell Z13.out 0).trans rfl; have zg1 := (blk_cell Z13.out 1).trans rfl; have zg2 := (blk_cell Z13.out 2).trans rfl))
 have hb := below_drew1 (Below.refl w6.heap.size w6)
 clear zp0 za0 za1 za2 zx0 zg0 zg1 zg2
 have n0_ := Aside0.mk (below_step HB.out hb)
 have n1_ := Aside0.mk (blk_below ZP.out hb)
 have n2_ := Aside0.mk (W0.out.step (fun k_ _ hk_ => hb.block k_ hk_))
 have n3_ := Aside0.mk (blk_below Z10.out hb)
 have n4_ := Aside0.mk (X0.out.step (fun k_ _ hk_ => hb.block k_ hk_))
 have n5_ := Aside0.mk (blk_below Z11.out hb)
 have n6_ := Aside0.mk (G0.out.step (fun k_ _ hk_ => hb.block k_ hk_))
 have n7_ := Aside0.mk (blk_below Z13.out hb)
 clear HB ZP W0 Z10 X0 Z11 G0 Z13
 have HB := n0_
 have ZP := n1_
 have W0 := n2_
 have Z10 := n3_
 have X0 := n4_
 have Z11 := n5_
 have G0 := n6_
 have Z13 := n7_
 clear n0_ n1_ n2_ n3_ n4_ n5_ n6_ n7_
 clear hb
 have zp0 := (blk_cell ZP.out 0).trans rfl
 have za0 := (blk_cell Z10.out 0).trans rfl
 have za1 := (blk_cell Z10.out 1).trans rfl
 have za2 := (blk_cell Z10.out 2).trans rfl
 have zx0 := (blk_cell Z11.out 0).trans rfl
 have zg0 := (blk_cell Z13.out 0).trans rfl
 have zg1 := (blk_cell Z13.out 1).trans rfl
 have zg2 := (blk_cell Z13.out 2).trans rfl
 go_region_held3 (fun w' => w'.cell? ⟨w4.heap.size, 0, none⟩ = some (.slice Ax nx cx) ∧ w'.cell? ⟨w.heap.size, 0, none⟩ = some (.slice A0 a0.length c0)) (exact ⟨(blk_cell Z11.out 0).trans rfl, (blk_cell ZP.out 0).trans rfl⟩) (first | (go_at_call 6; refine (toX (HR.out.below HB.out) F1.out).mono ?_; rintro e w8 ⟨At, nt, ct, rfl, hX, hb⟩; have T0 := Aside0.mk hX; clear hX; clear zp0 za0 za1 za2 zx0 zg0 zg1 zg2; have n0_ := Aside0.mk (below_step HB.out hb); have n1_ := Aside0.mk (blk_below ZP.out hb); have n2_ := Aside0.mk (W0.out.step (fun k_ _ hk_ => hb.block k_ hk_)); have n3_ := Aside0.mk (blk_below Z10.out hb); have n4_ := Aside0.mk (X0.out.step (fun k_ _ hk_ => hb.block k_ hk_)); have n5_ := Aside0.mk (blk_below Z11.out hb); have n6_ := Aside0.mk (G0.out.step (fun k_ _ hk_ => hb.block k_ hk_)); have n7_ := Aside0.mk (blk_below Z13.out hb); clear HB ZP W0 Z10 X0 Z11 G0 Z13; have HB := n0_; have ZP := n1_; have W0 := n2_; have Z10 := n3_; have X0 := n4_; have Z11 := n5_; have G0 := n6_; have Z13 := n7_; clear n0_ n1_ n2_ n3_ n4_ n5_ n6_ n7_; clear hb; have zp0 := (blk_cell ZP.out 0).trans rfl; have za0 := (blk_cell Z10.out 0).trans rfl; have za1 := (blk_cell Z10.out 1).trans rfl; have za2 := (blk_cell Z10.out 2).trans rfl; have zx0 := (blk_cell Z11.out 0).trans rfl; have zg0 := (blk_cell Z13.out 0).trans rfl; have zg1 := (blk_cell Z13.out 1).trans rfl; have zg2 := (blk_cell Z13.out 2).trans rfl) | (go_at_call 9; refine (eqX X0.out T0.out F5.out).mono ?_; rintro e w9 ⟨rfl, hb⟩; clear T0; clear zp0 za0 za1 za2 zx0 zg0 zg1 zg2; have n0_ := Aside0.mk (below_step HB.out hb); have n1_ := Aside0.mk (blk_below ZP.out hb); have n2_ := Aside0.mk (W0.out.step (fun k_ _ hk_ => hb.block k_ hk_)); have n3_ := Aside0.mk (blk_below Z10.out hb); have n4_ := Aside0.mk (X0.out.step (fun k_ _ hk_ => hb.block k_ hk_)); have n5_ := Aside0.mk (blk_below Z11.out hb); have n6_ := Aside0.mk (G0.out.step (fun k_ _ hk_ => hb.block k_ hk_)); have n7_ := Aside0.mk (blk_below Z13.out hb); clear HB ZP W0 Z10 X0 Z11 G0 Z13; have HB := n0_; have ZP := n1_; have W0 := n2_; have Z10 := n3_; have X0 := n4_; have Z11 := n5_; have G0 := n6_; have Z13 := n7_; clear n0_ n1_ n2_ n3_ n4_ n5_ n6_ n7_; clear hb; have zp0 := (blk_cell ZP.out 0).trans rfl; have za0 := (blk_cell Z10.out 0).trans rfl; have za1 := (blk_cell Z10.out 1).trans rfl; have za2 := (blk_cell Z10.out 2).trans rfl; have zx0 := (blk_cell Z11.out 0).trans rfl; have zg0 := (blk_cell Z13.out 0).trans rfl; have zg1 := (blk_cell Z13.out 1).trans rfl; have zg2 := (blk_cell Z13.out 2).trans rfl))
 go_wp2_with (first | ((with_reducible refine gate_dst (N := 38) rfl ?_); refine goesL_ _ rfl rfl Try.func10 (by kernel_rfl) rfl #[.agg #[.slice Ax nx cx], .int .i64 1] rfl gl ?_; refine (markX (w0 := w) HB.out X0.out F6.out.1).mono ?_; rintro e w10 ⟨rfl, hb, hk⟩; refine ⟨_, rfl, ?_⟩; clear X0; clear zp0 za0 za1 za2 zx0 zg0 zg1 zg2; have n0_ := Aside0.mk (hb); have n1_ := Aside0.mk ((hk.2 _ (blk_lt ZP.out) (fun h_ => by have h9 := HS.out; have h8 := h_; first | omega | (simp at h8; done) | (simp at h8; omega))).trans ZP.out); have n2_ := Aside0.mk (W0.out.step (fun k_ a_ b_ => hk.2 k_ b_ (fun h_ => by have h9 := HS.out; have h7 := a_; have h8 := h_; first | omega | (simp at h7 h8; done) | (simp at h7 h8; omega)))); have n3_ := Aside0.mk ((hk.2 _ (blk_lt Z10.out) (fun h_ => by have h9 := HS.out; have h8 := h_; first | omega | (simp at h8; done) | (simp at h8; omega))).trans Z10.out); have n4_ := Aside0.mk ((hk.2 _ (blk_lt Z11.out) (fun h_ => by have h9 := HS.out; have h8 := h_; first | omega | (simp at h8; done) | (simp at h8; omega))).trans Z11.out); have n5_ := Aside0.mk (G0.out.step (fun k_ a_ b_ => hk.2 k_ b_ (fun h_ => by have h9 := HS.out; have h7 := a_; have h8 := h_; first | omega | (simp at h7 h8; done) | (simp at h7 h8; omega)))); have n6_ := Aside0.mk ((hk.2 _ (blk_lt Z13.out) (fun h_ => by have h9 := HS.out; have h8 := h_; first | omega | (simp at h8; done) | (simp at h8; omega))).trans Z13.out); clear HB ZP W0 Z10 Z11 G0 Z13; have HB := n0_; have ZP := n1_; have W0 := n2_; have Z10 := n3_; have Z11 := n4_; have G0 := n5_; have Z13 := n6_; clear n0_ n1_ n2_ n3_ n4_ n5_ n6_; clear hb hk; have zp0 := (blk_cell ZP.out 0).trans rfl; have za0 := (blk_cell Z10.out 0).trans rfl; have za1 := (blk_cell Z10.out 1).trans rfl; have za2 := (blk_cell Z10.out 2).trans rfl; have zx0 := (blk_cell Z11.out 0).trans rfl; have zg0 := (blk_cell Z13.out 0).trans rfl; have zg1 := (blk_cell Z13.out 1).trans rfl; have zg2 := (blk_cell Z13.out 2).trans rfl) | ((refine gate_guard (by rfl) ?_); (with_reducible refine gate_dst (N := 44) rfl ?_); refine goesL_ _ rfl rfl Try.func8 (by kernel_rfl) rfl #[.agg #[.int .i64 fu, .slice Ag1 ng1 cg1, .slice Ag2 ng2 cg2], .agg #[.int .i64 fu, .slice Aa1 na1 ca1, .slice Aa2 na2 ca2]] rfl gl ?_; refine (eqG G0.out W0.out F4.out).mono ?_; rintro e w11 ⟨rfl, hb⟩; refine ⟨_, rfl, ?_⟩; clear zp0 za0 za1 za2 zx0 zg0 zg1 zg2; have n0_ := Aside0.mk (below_step HB.out hb); have n1_ := Aside0.mk (blk_below ZP.out hb); have n2_ := Aside0.mk (W0.out.step (fun k_ _ hk_ => hb.block k_ hk_)); have n3_ := Aside0.mk (blk_below Z10.out hb); have n4_ := Aside0.mk (blk_below Z11.out hb); have n5_ := Aside0.mk (G0.out.step (fun k_ _ hk_ => hb.block k_ hk_)); have n6_ := Aside0.mk (blk_below Z13.out hb); clear HB ZP W0 Z10 Z11 G0 Z13; have HB := n0_; have ZP := n1_; have W0 := n2_; have Z10 := n3_; have Z11 := n4_; have G0 := n5_; have Z13 := n6_; clear n0_ n1_ n2_ n3_ n4_ n5_ n6_; clear hb; have zp0 := (blk_cell ZP.out 0).trans rfl; have za0 := (blk_cell Z10.out 0).trans rfl; have za1 := (blk_cell Z10.out 1).trans rfl; have za2 := (blk_cell Z10.out 2).trans rfl; have zx0 := (blk_cell Z11.out 0).trans rfl; have zg0 := (blk_cell Z13.out 0).trans rfl; have zg1 := (blk_cell Z13.out 1).trans rfl; have zg2 := (blk_cell Z13.out 2).trans rfl) | ((with_reducible refine gate_dst (N := 49) rfl ?_); refine goesL_ _ rfl rfl Try.func11 (by kernel_rfl) rfl #[.agg #[.int .i64 fu, .slice Ag1 ng1 cg1, .slice Ag2 ng2 cg2], .int .i64 1] rfl gl ?_; refine (markGm F7.out.2.1 (w0 := w) HB.out G0.out).mono ?_; rintro e w12 ⟨rfl, hG, hb, hk⟩; refine ⟨_, rfl, ?_⟩; clear G0; clear zp0 za0 za1 za2 zx0 zg0 zg1 zg2; have n0_ := Aside0.mk (hb); have n1_ := Aside0.mk ((hk.2 _ (blk_lt ZP.out) (fun h_ => by have h9 := HS.out; have h8 := h_; first | omega | (simp at h8; done) | (simp at h8; omega))).trans ZP.out); have n2_ := Aside0.mk (W0.out.step (fun k_ a_ b_ => hk.2 k_ b_ (fun h_ => by have h9 := HS.out; have h7 := a_; have h8 := h_; first | omega | (simp at h7 h8; done) | (simp at h7 h8; omega)))); have n3_ := Aside0.mk ((hk.2 _ (blk_lt Z10.out) (fun h_ => by have h9 := HS.out; have h8 := h_; first | omega | (simp at h8; done) | (simp at h8; omega))).trans Z10.out); have n4_ := Aside0.mk ((hk.2 _ (blk_lt Z11.out) (fun h_ => by have h9 := HS.out; have h8 := h_; first | omega | (simp at h8; done) | (simp at h8; omega))).trans Z11.out); have n5_ := Aside0.mk ((hk.2 _ (blk_lt Z13.out) (fun h_ => by have h9 := HS.out; have h8 := h_; first | omega | (simp at h8; done) | (simp at h8; omega))).trans Z13.out); clear HB ZP W0 Z10 Z11 Z13; have HB := n0_; have ZP := n1_; have W0 := n2_; have Z10 := n3_; have Z11 := n4_; have Z13 := n5_; clear n0_ n1_ n2_ n3_ n4_ n5_; clear hb hk; have zp0 := (blk_cell ZP.out 0).trans rfl; have za0 := (blk_cell Z10.out 0).trans rfl; have za1 := (blk_cell Z10.out 1).trans rfl; have za2 := (blk_cell Z10.out 2).trans rfl; have zx0 := (blk_cell Z11.out 0).trans rfl; have zg0 := (blk_cell Z13.out 0).trans rfl; have zg1 := (blk_cell Z13.out 1).trans rfl; have zg2 := (blk_cell Z13.out 2).trans rfl; have G0 := Aside0.mk hG; clear hG) | ((with_reducible refine gate_dst (N := 52) rfl ?_); refine goesL_ _ rfl rfl Try.func12 (by kernel_rfl) rfl #[.agg #[.int .i64 fu, .slice Ag1 ng1 cg1, .slice Ag2 ng2 cg2], .int .i64 1] rfl gl ?_; refine (heldG G0.out F7.out.1).mono ?_; rintro e w13 ⟨rfl, hb⟩; refine ⟨_, rfl, ?_⟩; clear zp0 za0 za1 za2 zx0 zg0 zg1 zg2; have n0_ := Aside0.mk (below_step HB.out hb); have n1_ := Aside0.mk (blk_below ZP.out hb); have n2_ := Aside0.mk (W0.out.step (fun k_ _ hk_ => hb.block k_ hk_)); have n3_ := Aside0.mk (blk_below Z10.out hb); have n4_ := Aside0.mk (blk_below Z11.out hb); have n5_ := Aside0.mk (G0.out.step (fun k_ _ hk_ => hb.block k_ hk_)); have n6_ := Aside0.mk (blk_below Z13.out hb); clear HB ZP W0 Z10 Z11 G0 Z13; have HB := n0_; have ZP := n1_; have W0 := n2_; have Z10 := n3_; have Z11 := n4_; have G0 := n5_; have Z13 := n6_; clear n0_ n1_ n2_ n3_ n4_ n5_ n6_; clear hb; have zp0 := (blk_cell ZP.out 0).trans rfl; have za0 := (blk_cell Z10.out 0).trans rfl; have za1 := (blk_cell Z10.out 1).trans rfl; have za2 := (blk_cell Z10.out 2).trans rfl; have zx0 := (blk_cell Z11.out 0).trans rfl; have zg0 := (blk_cell Z13.out 0).trans rfl; have zg1 := (blk_cell Z13.out 1).trans rfl; have zg2 := (blk_cell Z13.out 2).trans rfl) | ((with_reducible refine gate_dst (N := 59) rfl ?_); refine goesL_ _ rfl rfl Try.func6 (by kernel_rfl) rfl #[.agg #[.slice A0 a0.length c0]] rfl gl ?_; refine (toX (HR.out.below HB.out) F1.out).mono ?_; rintro e w14 ⟨At, nt, ct, rfl, hX, hb⟩; refine ⟨_, rfl, ?_⟩; have T0 := Aside0.mk hX; clear hX; clear zp0 za0 za1 za2 zx0 zg0 zg1 zg2; have n0_ := Aside0.mk (below_step HB.out hb); have n1_ := Aside0.mk (blk_below ZP.out hb); have n2_ := Aside0.mk (W0.out.step (fun k_ _ hk_ => hb.block k_ hk_)); have n3_ := Aside0.mk (blk_below Z10.out hb); have n4_ := Aside0.mk (blk_below Z11.out hb); have n5_ := Aside0.mk (G0.out.step (fun k_ _ hk_ => hb.block k_ hk_)); have n6_ := Aside0.mk (blk_below Z13.out hb); clear HB ZP W0 Z10 Z11 G0 Z13; have HB := n0_; have ZP := n1_; have W0 := n2_; have Z10 := n3_; have Z11 := n4_; have G0 := n5_; have Z13 := n6_; clear n0_ n1_ n2_ n3_ n4_ n5_ n6_; clear hb; have zp0 := (blk_cell ZP.out 0).trans rfl; have za0 := (blk_cell Z10.out 0).trans rfl; have za1 := (blk_cell Z10.out 1).trans rfl; have za2 := (blk_cell Z10.out 2).trans rfl; have zx0 := (blk_cell Z11.out 0).trans rfl; have zg0 := (blk_cell Z13.out 0).trans rfl; have zg1 := (blk_cell Z13.out 1).trans rfl; have zg2 := (blk_cell Z13.out 2).trans rfl) | ((with_reducible refine gate_dst (N := 61) rfl ?_); refine goesL_ _ rfl rfl Try.func7 (by kernel_rfl) rfl #[.agg #[.slice At nt ct], .int .i64 f] rfl gl ?_; refine (implG T0.out F3.out).mono ?_; rintro e w15 ⟨Ah1, Ah2, nh1, nh2, ch1, ch2, rfl, hG, hb⟩; refine ⟨_, rfl, ?_⟩; have H0 := Aside0.mk hG; clear T0 hG; clear zp0 za0 za1 za2 zx0 zg0 zg1 zg2; have n0_ := Aside0.mk (below_step HB.out hb); have n1_ := Aside0.mk (blk_below ZP.out hb); have n2_ := Aside0.mk (W0.out.step (fun k_ _ hk_ => hb.block k_ hk_)); have n3_ := Aside0.mk (blk_below Z10.out hb); have n4_ := Aside0.mk (blk_below Z11.out hb); have n5_ := Aside0.mk (G0.out.step (fun k_ _ hk_ => hb.block k_ hk_)); have n6_ := Aside0.mk (blk_below Z13.out hb); clear HB ZP W0 Z10 Z11 G0 Z13; have HB := n0_; have ZP := n1_; have W0 := n2_; have Z10 := n3_; have Z11 := n4_; have G0 := n5_; have Z13 := n6_; clear n0_ n1_ n2_ n3_ n4_ n5_ n6_; clear hb; have zp0 := (blk_cell ZP.out 0).trans rfl; have za0 := (blk_cell Z10.out 0).trans rfl; have za1 := (blk_cell Z10.out 1).trans rfl; have za2 := (blk_cell Z10.out 2).trans rfl; have zx0 := (blk_cell Z11.out 0).trans rfl; have zg0 := (blk_cell Z13.out 0).trans rfl; have zg1 := (blk_cell Z13.out 1).trans rfl; have zg2 := (blk_cell Z13.out 2).trans rfl; clear zp0 za0 za1 za2 zx0 zg0 zg1 zg2; have hb := below_alloc (Below.refl w15.heap.size w15) (.cells #[.int .i64 fu, .slice Ah1 nh1 ch1, .slice Ah2 nh2 ch2] 29); have Z17 := Aside0.mk (heap_alloc_new w15 (.cells #[.int .i64 fu, .slice Ah1 nh1 ch1, .slice Ah2 nh2 ch2] 29)); have n0_ := Aside0.mk (below_step HB.out hb); have n1_ := Aside0.mk (blk_below ZP.out hb); have n2_ := Aside0.mk (W0.out.step (fun k_ _ hk_ => hb.block k_ hk_)); have n3_ := Aside0.mk (blk_below Z10.out hb); have n4_ := Aside0.mk (blk_below Z11.out hb); have n5_ := Aside0.mk (G0.out.step (fun k_ _ hk_ => hb.block k_ hk_)); have n6_ := Aside0.mk (blk_below Z13.out hb); have n7_ := Aside0.mk (H0.out.step (fun k_ _ hk_ => hb.block k_ hk_)); clear HB ZP W0 Z10 Z11 G0 Z13 H0; have HB := n0_; have ZP := n1_; have W0 := n2_; have Z10 := n3_; have Z11 := n4_; have G0 := n5_; have Z13 := n6_; have H0 := n7_; clear n0_ n1_ n2_ n3_ n4_ n5_ n6_ n7_; clear hb; have zp0 := (blk_cell ZP.out 0).trans rfl; have za0 := (blk_cell Z10.out 0).trans rfl; have za1 := (blk_cell Z10.out 1).trans rfl; have za2 := (blk_cell Z10.out 2).trans rfl; have zx0 := (blk_cell Z11.out 0).trans rfl; have zg0 := (blk_cell Z13.out 0).trans rfl; have zg1 := (blk_cell Z13.out 1).trans rfl; have zg2 := (blk_cell Z13.out 2).trans rfl; have zh0 := (blk_cell Z17.out 0).trans rfl; have zh1 := (blk_cell Z17.out 1).trans rfl; have zh2 := (blk_cell Z17.out 2).trans rfl) | ((with_reducible refine gate_dst (N := 64) rfl ?_); refine goesL_ _ rfl rfl Try.func8 (by kernel_rfl) rfl #[.agg #[.int .i64 fu, .slice Ah1 nh1 ch1, .slice Ah2 nh2 ch2], .agg #[.int .i64 fu, .slice Aa1 na1 ca1, .slice Aa2 na2 ca2]] rfl gl ?_; refine (eqG H0.out W0.out F4.out).mono ?_; rintro e w16 ⟨rfl, hb⟩; refine ⟨_, rfl, ?_⟩; clear zp0 za0 za1 za2 zx0 zg0 zg1 zg2 zh0 zh1 zh2; have n0_ := Aside0.mk (below_step HB.out hb); have n1_ := Aside0.mk (blk_below ZP.out hb); have n2_ := Aside0.mk (W0.out.step (fun k_ _ hk_ => hb.block k_ hk_)); have n3_ := Aside0.mk (blk_below Z10.out hb); have n4_ := Aside0.mk (blk_below Z11.out hb); have n5_ := Aside0.mk (G0.out.step (fun k_ _ hk_ => hb.block k_ hk_)); have n6_ := Aside0.mk (blk_below Z13.out hb); have n7_ := Aside0.mk (H0.out.step (fun k_ _ hk_ => hb.block k_ hk_)); have n8_ := Aside0.mk (blk_below Z17.out hb); clear HB ZP W0 Z10 Z11 G0 Z13 H0 Z17; have HB := n0_; have ZP := n1_; have W0 := n2_; have Z10 := n3_; have Z11 := n4_; have G0 := n5_; have Z13 := n6_; have H0 := n7_; have Z17 := n8_; clear n0_ n1_ n2_ n3_ n4_ n5_ n6_ n7_ n8_; clear hb; have zp0 := (blk_cell ZP.out 0).trans rfl; have za0 := (blk_cell Z10.out 0).trans rfl; have za1 := (blk_cell Z10.out 1).trans rfl; have za2 := (blk_cell Z10.out 2).trans rfl; have zx0 := (blk_cell Z11.out 0).trans rfl; have zg0 := (blk_cell Z13.out 0).trans rfl; have zg1 := (blk_cell Z13.out 1).trans rfl; have zg2 := (blk_cell Z13.out 2).trans rfl; have zh0 := (blk_cell Z17.out 0).trans rfl; have zh1 := (blk_cell Z17.out 1).trans rfl; have zh2 := (blk_cell Z17.out 2).trans rfl) | ((with_reducible refine gate_dst (N := 68) rfl ?_); refine goesL_ _ rfl rfl Try.func12 (by kernel_rfl) rfl #[.agg #[.int .i64 fu, .slice Ag1 ng1 cg1, .slice Ag2 ng2 cg2], .int .i64 1] rfl gl ?_; refine (heldG G0.out F7.out.1).mono ?_; rintro e w17 ⟨rfl, hb⟩; refine ⟨_, rfl, ?_⟩; skip; have n0_ := Aside0.mk (below_step HB.out hb); have n1_ := Aside0.mk (G0.out.step (fun k_ _ hk_ => hb.block k_ hk_)); clear HB G0; have HB := n0_; have G0 := n1_; clear n0_ n1_; clear hb; skip))
 go_ret
 exact ⟨rfl, HB.out⟩
end Go.Proofs.Ytcdohkilplgmjaa.QFnExactPlain
