import Derived.Test.YtcdohkilplgmjaaCFnExactPlainx0
import Derived.Test.YtcdohkilplgmjaaCFnExactPlainx16
namespace Go.Proofs.Ytcdohkilplgmjaa.QFnExactPlain
open Go.RowKit Go.Proofs.YtcdohkilplgmjaaW
open PrintWords PrintLast PrintMore PrintShort PrintIsh
attribute [local go_sem] max2_int min2_int max_two min_two max_three min_three max_four min_four   -- for this text's walks alone
set_option linter.unusedVariables false
set_option maxHeartbeats 8000000
set_option maxRecDepth 100000
set_option linter.unusedSimpArgs false

def laws_eqProgram.f (k : Nat) (l0_0 : List (S53)) (l1_0 : List (S53)) : Option (Bool) := (laws_eqFuncS.f k l0_0 l1_0).bind fun t571 => (if t571 = true then (some true) else (some false))
theorem laws_eqProgram.mono : ∀ a0 a1 k, LeO (laws_eqProgram.f k a0 a1) (laws_eqProgram.f (k + 1) a0 a1) := by
 intro a0 a1 k
 unfold laws_eqProgram.f
 with_reducible repeat' first | exact laws_eqFuncS.mono .. | exact LeO.refl _ | exact LeO.none _ | refine LeO.ite ?_ ?_ | refine LeO.bind ?_ (fun _ => ?_)
theorem laws_eqProgram.calls (k : Nat) (A0_0 : Option Addr) (c0_0 : Nat) (l0_0 : List (S53)) (A1_0 : Option Addr) (c1_0 : Nat) (l1_0 : List (S53)) (r : Bool) (w : World) (hr0_0 : Kd.C k53 w A0_0 l0_0.length l0_0) (hc0_0 : l0_0.length ≤ c0_0) (hr1_0 : Kd.C k53 w A1_0 l1_0.length l1_0) (hc1_0 : l1_0.length ≤ c1_0) (h : laws_eqProgram.f k l0_0 l1_0 = some r) :
  Calls Try.prog 9 #[.agg #[.slice A0_0 l0_0.length c0_0], .agg #[.slice A1_0 l1_0.length c1_0]] w fun e w' => e = .returned (.bool r) ∧ Below w.heap.size w w' := by
 have hu33 := Try.underlying33
 have HR0_0 := am hr0_0
 have HC0_0 := am hc0_0
 clear hr0_0 hc0_0
 have HR1_0 := am hr1_0
 have HC1_0 := am hc1_0
 clear hr1_0 hc1_0
 have HB := am (Below.refl w.heap.size w)
 have H : ((laws_eqFuncS.f k l0_0 l1_0).bind fun t571 => (if t571 = true then (some true) else (some false))) = some r := h
 clear h
 refine be H ?_; clear H; intro t571 A3 H
 have HC4 := am H
 clear H
 go_enter Try.func9, Try.ntmps9
 go_upto_if 10 with (first | ((with_reducible refine gd 2 rfl ?_); refine bX 2 #[.slice A0_0 l0_0.length c0_0] 33 HB ?_; clear HB; intro gb569 w5 hg hb BK569 GW569 HB; clear hb hg) | ((with_reducible refine gd 3 rfl ?_); refine bX 3 #[.slice A1_0 l1_0.length c1_0] 33 HB ?_; clear HB; intro gb570 w6 hg hb BK570 GW570 HB; obtain ⟨NB569_570, NB570_569, BK569⟩ := b3 hg BK569 hb; clear hb hg; have hnb7 := NB569_570.out; have hnc7 := NB570_569.out; have hcz8 := bK w6 BK569; have hfz8 := bF BK569; have hcz9 := bK w6 BK570; have hfz9 := bF BK570) | ((with_reducible refine gk 23 rfl ?_); refine gB 23 (some 9) Try.func23 #[.slice A0_0 l0_0.length c0_0, .slice A1_0 l1_0.length c1_0] (laws_eqFuncS.calls k _ _ l0_0 _ _ l1_0 t571 _ (cc (Kd.C_below HR0_0.out HB.out)) HC0_0.out (cc (Kd.C_below HR1_0.out HB.out)) HC1_0.out A3.out) ?_; intro w10 hb; replace BK569 := bb BK569 hb; replace BK570 := bb BK570 hb; replace HB := bs HB hb; clear hb))
 (try simp only [Act.put, sa, sz, ss])
 have H := HC4.out
 clear HC4
 refine qT H ?_ ?_ <;> clear H <;> intro c11 H <;> subst c11
 ·obtain rfl := Option.some.inj H
  go_wp2
  go_ret
  exact ⟨er, bw HB⟩
 obtain rfl := Option.some.inj H
 go_wp2
 go_ret
 exact ⟨er, bw HB⟩

def sh59 (x y : S59) : Prop := (fun _ _ => True) x.f0 y.f0 ∧ (fun _ _ => True) x.f1 y.f1
theorem twn59 : Twn k59 sh59 := twn_iso (twn_pair (twn_int .i64) (twn_int .i64)) (fun x : S59 => (x.f0, x.f1)) (fun a => (⟨a.1, a.2⟩ : S59)) (fun _ => rfl)
def laws_markInsS.g (k : Int) (x : S59) : Int := (wrap64 ((wrap64 (k + 1)) + 1))
theorem laws_markInsS.g_sh {k : Int} {x y : S59} (h : sh59 x y) : laws_markInsS.g k x = laws_markInsS.g k y := by
 unfold laws_markInsS.g
 rfl
def laws_markInsS.mk (k : Int) (l : List (S59)) : Int := l.foldl laws_markInsS.g k
theorem laws_markInsS.mk_sh {k : Int} {xs ys : List (S59)} (h : All2 sh59 xs ys) : laws_markInsS.mk k xs = laws_markInsS.mk k ys := fold_sh (g := laws_markInsS.g) (sh := sh59) (fun _ _ _ h => laws_markInsS.g_sh h) k h
theorem laws_markInsS.ish (P0_ : Nat → Prop) (u : Value) (l0 : List (S59)) (a1 : Int) (w0 w : World) (hB : Below w0.heap.size w0 w) (ho0 : Kd.R k59 59 w w0.heap.size P0_ u l0) :
  Calls Try.prog 51 #[u, .int .i64 a1] w fun e w' => e = .returned (.int .i64 (laws_markInsS.mk a1 l0)) ∧ Below w0.heap.size w0 w' ∧ Ish w w' P0_ := by
 have HB := am hB
 have HI := am (Ish.refl w P0_)
 have HO := am ho0
 have hln : l0.length ≤ 9223372036854775807 := by obtain ⟨_, _, rfl⟩ := Kd.R_slice ho0; exact (Kd.R_reads' ho0).2.2.2.1
 clear hB
 obtain ⟨Aa, ca, rfl⟩ := Kd.R_slice ho0
 clear ho0
 go_enter Try.func51, Try.ntmps51
 go_wp2
 go_loopg [1, 5] (l0.length + 1) (fun kq v1 v5 w' => ∃ (x1_1 : Int) (x5_1 : Int), v1 = .int .i64 x1_1 ∧ v5 = .int .i64 x5_1 ∧ Aside0 (kq + x5_1.toNat = l0.length + 1 ∧ 0 ≤ x5_1 ∧ x5_1 ≤ l0.length) ∧ Aside0 (laws_markInsS.mk x1_1 (l0.drop x5_1.toNat) = laws_markInsS.mk a1 l0) ∧ Aside0 (Ish w w' P0_) ∧ Aside0 (Below w0.heap.size w0 w'))
 case atStart => exact ⟨a1, 0, dr, dr, ⟨by simp, by omega, by omega⟩, ⟨rfl⟩, ⟨iw HI⟩, ⟨bw HB⟩⟩
 obtain ⟨x1_1, x5_1, rfl, rfl, HA, HV, HI, HB⟩ := hrel
 by_cases c3 : x5_1 < (l0.length : Int)
 ·have c3b0 := decide_eq_true c3
  obtain ⟨k1, rfl⟩ : ∃ k1, gk = k1 + 1 := ⟨gk - 1, by have := HA.out; omega⟩
  obtain ⟨la, hsa, hRa⟩ := R_twn twn59 HI.out HO.out
  have hla := hsa.1
  obtain ⟨go5, co5, eo5, gb5, gl5, cl5, HG5⟩ := Kd.R_form hRa (by have h00 := HA.out.2.1; omega)
  (first | cases eo5 | (injection eo5 with ea_ en_ ec_; (first | subst ea_ | (injection ea_ with ea_; subst ea_)); subst ec_; clear en_))
  have GB5 := am gb5
  have GP5 := am (show P0_ go5 from HO.out.1 _ rfl)
  clear gb5 gl5 HG5 hRa hsa
  have p5 : 0 ≤ x5_1 := HA.out.2.1
  have q5 := c3
  replace p5 := eq_true p5
  replace q5 := eq_true q5
  clear c3
  obtain ⟨l1, hs0, hR0⟩ := R_twn twn59 HI.out HO.out
  obtain ⟨ce0, hcl0, hM0, hcc0, hfr0⟩ := Kd.R_elem hR0 z59 x5_1 (of_eq_true p5) (of_eq_true q5)
  obtain rfl := k59_openM hM0
  have hx0 : wr.cell? ⟨go5, x5_1.toNat * 2, none⟩ = some _ := (hcc0 0 _ rfl)
  have hf0 : wr.frozen? ⟨go5, x5_1.toNat * 2, none⟩ = false := (hfr0 0)
  (try clear hM0)
  (try clear hfr0)
  (try clear hcc0)
  (try clear hcl0)
  (try clear hs0)
  (try clear hR0)
  go_wp2_with (first | ((with_reducible refine gt 2 16 rfl ?_); refine sE 2 16 (wr.setCell ⟨go5, x5_1.toNat * 2, none⟩ (.int .i64 x1_1)) ?_; intro wq0 hw; replace HI := am (show Ish w wq0 P0_ by rw [hw]; exact HI.out.set hx0 (twin.ofInt _ _ _) (fun _ => GP5.out)); replace HB := am ((by rw [hw]; exact below_set (HB.out) GB5.out : Below w0.heap.size w0 wq0)); clear hw; clear hx0; clear hf0; obtain ⟨l2, hs1, hR1⟩ := R_twn twn59 HI.out HO.out; obtain ⟨ce1, hcl1, hM1, hcc1, hfr1⟩ := Kd.R_elem hR1 z59 x5_1 (of_eq_true p5) (of_eq_true q5); obtain rfl := k59_openM hM1; have hx1 : wq0.cell? ⟨go5, x5_1.toNat * 2 + 1, none⟩ = some _ := (hcc1 1 _ rfl); have hf1 : wq0.frozen? ⟨go5, x5_1.toNat * 2 + 1, none⟩ = false := (hfr1 1); (try clear hM1); (try clear hfr1); (try clear hcc1); (try clear hcl1); (try clear hs1); (try clear hR1)) | ((with_reducible refine gt 2 23 rfl ?_); refine sE 2 23 (wq0.setCell ⟨go5, x5_1.toNat * 2 + 1, none⟩ (.int .i64 (wrap64 (x1_1 + 1)))) ?_; intro wq1 hw; replace HI := am (show Ish w wq1 P0_ by rw [hw]; exact HI.out.set hx1 (twin.ofInt _ _ _) (fun _ => GP5.out)); replace HB := am ((by rw [hw]; exact below_set (HB.out) GB5.out : Below w0.heap.size w0 wq1)); clear hw; clear hx1; clear hf1))
  go_roundg k1
  case measure => omega
  case rel =>
   have h1 := HA.out
   have hq : x5_1 < (l0.length : Int) := of_eq_true q5
   have hw1 : wrap64 (x5_1 + 1) = x5_1 + 1 := by unfold wrap64; omega
   have hlt : x5_1.toNat < l0.length := by omega
   refine ⟨(wrap64 ((wrap64 (x1_1 + 1)) + 1)), wrap64 (x5_1 + 1), dr, dr, ⟨by omega, by omega, by omega⟩, ⟨?_⟩, ⟨iw HI⟩, ⟨bw HB⟩⟩
   have h2 := HV.out
   rw [List.drop_eq_getElem_cons hlt] at h2
   rw [hw1, show (x5_1 + 1).toNat = x5_1.toNat + 1 by omega]
   exact h2
 have c3b0 := decide_eq_false c3
 have hv := HV.out
 have h1 := HA.out
 rw [List.drop_of_length_le (by omega)] at hv
 have hv : x1_1 = laws_markInsS.mk a1 l0 := hv
 clear c3
 go_wp2
 go_ret
 exact ⟨by first | rfl | (simp; done) | (simp [*]; done), bw HB, iw HI⟩
def laws_markInsS.f (l0 : List (S59)) (a1 : Int) : Option Int := some (laws_markInsS.mk a1 l0)
theorem laws_markInsS.calls (P0_ : Nat → Prop) (u9000_ : Value) (l0 : List (S59)) (a1 : Int) (r1 : Int) (w0 w : World) (hB : Below w0.heap.size w0 w) (ho0 : Kd.R k59 59 w w0.heap.size P0_ u9000_ l0) (h : laws_markInsS.f l0 a1 = some r1) :
  Calls Try.prog 51 #[u9000_, .int .i64 a1] w fun e w' => e = .returned (.int .i64 r1) ∧ Below w0.heap.size w0 w' ∧ Kept w w' (fun k_ => P0_ k_) := by
 have e : laws_markInsS.mk a1 l0 = r1 := Option.some.inj h
 subst e
 exact (laws_markInsS.ish P0_ u9000_ l0 a1 w0 w hB ho0).mono fun e w' hq => ⟨hq.1, hq.2.1, hq.2.2.kept⟩

def sh53 (x y : S53) : Prop := (fun _ _ => True) x.f0 y.f0 ∧ (fun _ _ => True) x.f1 y.f1 ∧ (All2 sh59) x.f2 y.f2
theorem twn53 : Twn k53 sh53 := twn_iso (twn_pair (twn_int .i64) (twn_pair (twn_int .i64) (twn_slice twn59 59))) (fun x : S53 => (x.f0, x.f1, x.f2)) (fun a => (⟨a.1, a.2.1, a.2.2⟩ : S53)) (fun _ => rfl)
def laws_markFuncS.g (k : Int) (x : S53) : Int := (laws_markInsS.mk (wrap64 ((wrap64 (k + 1)) + 1)) x.f2)
theorem laws_markFuncS.g_sh {k : Int} {x y : S53} (h : sh53 x y) : laws_markFuncS.g k x = laws_markFuncS.g k y := by
 unfold laws_markFuncS.g
 rw [laws_markInsS.mk_sh (show All2 _ _ _ from h.2.2)]
def laws_markFuncS.mk (k : Int) (l : List (S53)) : Int := l.foldl laws_markFuncS.g k
theorem laws_markFuncS.mk_sh {k : Int} {xs ys : List (S53)} (h : All2 sh53 xs ys) : laws_markFuncS.mk k xs = laws_markFuncS.mk k ys := fold_sh (g := laws_markFuncS.g) (sh := sh53) (fun _ _ _ h => laws_markFuncS.g_sh h) k h
theorem laws_markFuncS.ish (P0_ : Nat → Prop) (u : Value) (l0 : List (S53)) (a1 : Int) (w0 w : World) (hB : Below w0.heap.size w0 w) (ho0 : Kd.R k53 53 w w0.heap.size P0_ u l0) :
  Calls Try.prog 24 #[u, .int .i64 a1] w fun e w' => e = .returned (.int .i64 (laws_markFuncS.mk a1 l0)) ∧ Below w0.heap.size w0 w' ∧ Ish w w' P0_ := by
 have HB := am hB
 have HI := am (Ish.refl w P0_)
 have HO := am ho0
 have hln : l0.length ≤ 9223372036854775807 := by obtain ⟨_, _, rfl⟩ := Kd.R_slice ho0; exact (Kd.R_reads' ho0).2.2.2.1
 clear hB
 obtain ⟨Aa, ca, rfl⟩ := Kd.R_slice ho0
 clear ho0
 go_enter Try.func24, Try.ntmps24
 go_wp2
 go_loopg [1, 5] (l0.length + 1) (fun kq v1 v5 w' => ∃ (x1_1 : Int) (x5_1 : Int), v1 = .int .i64 x1_1 ∧ v5 = .int .i64 x5_1 ∧ Aside0 (kq + x5_1.toNat = l0.length + 1 ∧ 0 ≤ x5_1 ∧ x5_1 ≤ l0.length) ∧ Aside0 (laws_markFuncS.mk x1_1 (l0.drop x5_1.toNat) = laws_markFuncS.mk a1 l0) ∧ Aside0 (Ish w w' P0_) ∧ Aside0 (Below w0.heap.size w0 w'))
 case atStart => exact ⟨a1, 0, dr, dr, ⟨by simp, by omega, by omega⟩, ⟨rfl⟩, ⟨iw HI⟩, ⟨bw HB⟩⟩
 obtain ⟨x1_1, x5_1, rfl, rfl, HA, HV, HI, HB⟩ := hrel
 by_cases c3 : x5_1 < (l0.length : Int)
 ·have c3b0 := decide_eq_true c3
  obtain ⟨k1, rfl⟩ : ∃ k1, gk = k1 + 1 := ⟨gk - 1, by have := HA.out; omega⟩
  obtain ⟨la, hsa, hRa⟩ := R_twn twn53 HI.out HO.out
  have hla := hsa.1
  obtain ⟨go5, co5, eo5, gb5, gl5, cl5, HG5⟩ := Kd.R_form hRa (by have h00 := HA.out.2.1; omega)
  (first | cases eo5 | (injection eo5 with ea_ en_ ec_; (first | subst ea_ | (injection ea_ with ea_; subst ea_)); subst ec_; clear en_))
  have GB5 := am gb5
  have GP5 := am (show P0_ go5 from HO.out.1 _ rfl)
  clear gb5 gl5 HG5 hRa hsa
  have p5 : 0 ≤ x5_1 := HA.out.2.1
  have q5 := c3
  replace p5 := eq_true p5
  replace q5 := eq_true q5
  clear c3
  obtain ⟨l1, hs0, hR0⟩ := R_twn twn53 HI.out HO.out
  obtain ⟨ce0, hcl0, hM0, hcc0, hfr0⟩ := Kd.R_elem hR0 z53 x5_1 (of_eq_true p5) (of_eq_true q5)
  obtain ⟨v0_2, rfl, hr0_2⟩ := k53_openM hM0
  have hx0 : wr.cell? ⟨go5, x5_1.toNat * 3, none⟩ = some _ := (hcc0 0 _ rfl)
  have hf0 : wr.frozen? ⟨go5, x5_1.toNat * 3, none⟩ = false := (hfr0 0)
  (try clear hM0)
  (try clear hfr0)
  (try clear hcc0)
  (try clear hcl0)
  (try clear hs0)
  (try clear hR0)
  (try clear hr0_2)
  go_wp2_with (first | ((with_reducible refine gt 2 16 rfl ?_); refine sE 2 16 (wr.setCell ⟨go5, x5_1.toNat * 3, none⟩ (.int .i64 x1_1)) ?_; intro wq0 hw; replace HI := am (show Ish w wq0 P0_ by rw [hw]; exact HI.out.set hx0 (twin.ofInt _ _ _) (fun _ => GP5.out)); replace HB := am ((by rw [hw]; exact below_set (HB.out) GB5.out : Below w0.heap.size w0 wq0)); clear hw; clear hx0; clear hf0; obtain ⟨l2, hs1, hR1⟩ := R_twn twn53 HI.out HO.out; obtain ⟨ce1, hcl1, hM1, hcc1, hfr1⟩ := Kd.R_elem hR1 z53 x5_1 (of_eq_true p5) (of_eq_true q5); obtain ⟨v1_2, rfl, hr1_2⟩ := k53_openM hM1; have hx1 : wq0.cell? ⟨go5, x5_1.toNat * 3 + 1, none⟩ = some _ := (hcc1 1 _ rfl); have hf1 : wq0.frozen? ⟨go5, x5_1.toNat * 3 + 1, none⟩ = false := (hfr1 1); (try clear hM1); (try clear hfr1); (try clear hcc1); (try clear hcl1); (try clear hs1); (try clear hR1); (try clear hr1_2)) | ((with_reducible refine gt 2 23 rfl ?_); refine sE 2 23 (wq0.setCell ⟨go5, x5_1.toNat * 3 + 1, none⟩ (.int .i64 (wrap64 (x1_1 + 1)))) ?_; intro wq1 hw; replace HI := am (show Ish w wq1 P0_ by rw [hw]; exact HI.out.set hx1 (twin.ofInt _ _ _) (fun _ => GP5.out)); replace HB := am ((by rw [hw]; exact below_set (HB.out) GB5.out : Below w0.heap.size w0 wq1)); clear hw; clear hx1; clear hf1; obtain ⟨l3, hs2, hR2⟩ := R_twn twn53 HI.out HO.out; obtain ⟨ce2, hcl2, hM2, hcc2, hfr2⟩ := Kd.R_elem hR2 z53 x5_1 (of_eq_true p5) (of_eq_true q5); obtain ⟨v2_2, rfl, hr2_2⟩ := k53_openM hM2; obtain ⟨A2, c2, rfl⟩ := Kd.R_slice hr2_2; have hx2 : wq1.cell? ⟨go5, x5_1.toNat * 3 + 2, none⟩ = some _ := (hcc2 2 _ rfl); have HR2 := am hr2_2; have HS2 := am hs2; (try clear hM2); (try clear hfr2); (try clear hcc2); (try clear hcl2); (try clear hs2); (try clear hR2); (try clear hr2_2)) | (go_at_call 51; (refine (laws_markInsS.ish _ _ _ _ _ _ (bw HB) HR2.out).mono ?_); rintro e wq2 ⟨rfl, hb, hi⟩; replace HB := am hb; replace HI := am (HI.out.trans hi (fun b _ h_ => h_.1)); clear hb hi; clear hx2 HR2))
  go_roundg k1
  case measure => omega
  case rel =>
   have h1 := HA.out
   have hq : x5_1 < (l0.length : Int) := of_eq_true q5
   have hw1 : wrap64 (x5_1 + 1) = x5_1 + 1 := by unfold wrap64; omega
   have hlt : x5_1.toNat < l0.length := by omega
   have hsh2 := HS2.out.2 x5_1.toNat l0[x5_1.toNat] (l3.getD x5_1.toNat z53) (List.getElem?_eq_getElem hlt) (by rw [List.getD_eq_getElem?_getD, List.getElem?_eq_getElem (by have := HS2.out.1; omega)]; rfl)
   refine ⟨(laws_markInsS.mk (wrap64 ((wrap64 (x1_1 + 1)) + 1)) (l3.getD x5_1.toNat z53).f2), wrap64 (x5_1 + 1), dr, dr, ⟨by omega, by omega, by omega⟩, ⟨?_⟩, ⟨iw HI⟩, ⟨bw HB⟩⟩
   have h2 := HV.out
   rw [List.drop_eq_getElem_cons hlt] at h2
   rw [hw1, show (x5_1 + 1).toNat = x5_1.toNat + 1 by omega]
   rw [← laws_markInsS.mk_sh (show All2 _ _ _ from hsh2.2.2)]
   exact h2
 have c3b0 := decide_eq_false c3
 have hv := HV.out
 have h1 := HA.out
 rw [List.drop_of_length_le (by omega)] at hv
 have hv : x1_1 = laws_markFuncS.mk a1 l0 := hv
 clear c3
 go_wp2
 go_ret
 exact ⟨by first | rfl | (simp; done) | (simp [*]; done), bw HB, iw HI⟩
def laws_markFuncS.f (l0 : List (S53)) (a1 : Int) : Option Int := some (laws_markFuncS.mk a1 l0)
theorem laws_markFuncS.calls (P0_ : Nat → Prop) (u9000_ : Value) (l0 : List (S53)) (a1 : Int) (r1 : Int) (w0 w : World) (hB : Below w0.heap.size w0 w) (ho0 : Kd.R k53 53 w w0.heap.size P0_ u9000_ l0) (h : laws_markFuncS.f l0 a1 = some r1) :
  Calls Try.prog 24 #[u9000_, .int .i64 a1] w fun e w' => e = .returned (.int .i64 r1) ∧ Below w0.heap.size w0 w' ∧ Kept w w' (fun k_ => P0_ k_) := by
 have e : laws_markFuncS.mk a1 l0 = r1 := Option.some.inj h
 subst e
 exact (laws_markFuncS.ish P0_ u9000_ l0 a1 w0 w hB ho0).mono fun e w' hq => ⟨hq.1, hq.2.1, hq.2.2.kept⟩

def laws_markProgram.mk (a1 : Int) (l0_0 : List (S53)) : Int := (laws_markFuncS.mk a1 l0_0)
theorem laws_markProgram.mk_sh {a1 : Int} {l0_0 m0_0 : List (S53)} (h0_0 : All2 sh53 l0_0 m0_0) : laws_markProgram.mk a1 l0_0 = laws_markProgram.mk a1 m0_0 := by
 unfold laws_markProgram.mk
 rw [laws_markFuncS.mk_sh h0_0]
theorem laws_markProgram.ish (P0_0_ : Nat → Prop) (u0_0 : Value) (l0_0 : List (S53)) (a1 : Int) (w0 w : World) (hB : Below w0.heap.size w0 w) (ho0_0 : Kd.R k53 53 w w0.heap.size P0_0_ u0_0 l0_0) :
  Calls Try.prog 10 #[.agg #[u0_0], .int .i64 a1] w fun e w' => e = .returned (.int .i64 (laws_markProgram.mk a1 l0_0)) ∧ Below w0.heap.size w0 w' ∧ Ish w w' (fun k_ => P0_0_ k_) := by
 have hu33 := Try.underlying33
 have HB := am hB
 have HI := am (Ish.refl w (fun k_ => P0_0_ k_))
 have HS := am hB.size
 clear hB
 obtain ⟨A0_0, c0_0, rfl⟩ := Kd.R_slice ho0_0
 have HO0_0 := am (R_in ho0_0)
 clear ho0_0
 go_enter Try.func10, Try.ntmps10
 go_wp2_with (first | ((with_reducible refine gd 2 rfl ?_); refine bx 2 #[.slice A0_0 l0_0.length c0_0] 33 ?_; intro gb1 hg wz0 hbox hb; replace HB := bs HB hb; have BK1 := am hbox; have GW1 := am (show w.heap.size ≤ gb1 by rw [hg]; exact (iw HI : Ish w _ _).size); replace HI := am (Ish.below (iw HI) hb); clear hb hbox hg; have hcz0 := bK wz0 BK1; have hfz0 := bF BK1) | (go_at_call 24; obtain ⟨m0_0, hm0_0, hR0_0⟩ := R_twn twn53 (iw HI : Ish w _ _) HO0_0.out; have e0_0 := hm0_0.1; (refine (laws_markFuncS.ish (fun k_ => P0_0_ k_ ∧ k_ < w.heap.size) _ _ _ w0 _ (bw HB) hR0_0).mono ?_); rintro e wz1 ⟨he_, hb, hi⟩; rw [← laws_markFuncS.mk_sh hm0_0] at he_; subst he_; replace HB := am hb; replace HI := am ((iw HI : Ish w _ (fun k_ => P0_0_ k_)).trans hi (fun k_ _ h_ => h_.1)); replace BK1 := am (Ish.box hi (bp BK1) (fun h_ => absurd (Nat.lt_of_lt_of_le h_.2 GW1.out) (Nat.lt_irrefl _))); clear hb hi; (try clear hR0_0); (try clear hm0_0 e0_0); (try clear hcz0); (try clear hfz0)))
 go_ret
 exact ⟨by first | rfl | (simp; done) | (simp [*]; done), bw HB, iw HI⟩
def laws_markProgram.f (l0_0 : List (S53)) (a1 : Int) : Option Int := some (laws_markProgram.mk a1 l0_0)
theorem laws_markProgram.calls (P0_0_ : Nat → Prop) (u9000_ : Value) (l0_0 : List (S53)) (a1 : Int) (r1 : Int) (w0 w : World) (hB : Below w0.heap.size w0 w) (ho0_0 : Kd.R k53 53 w w0.heap.size P0_0_ u9000_ l0_0) (h : laws_markProgram.f l0_0 a1 = some r1) :
  Calls Try.prog 10 #[.agg #[u9000_], .int .i64 a1] w fun e w' => e = .returned (.int .i64 r1) ∧ Below w0.heap.size w0 w' ∧ Kept w w' (fun k_ => P0_0_ k_) := by
 have e : laws_markProgram.mk a1 l0_0 = r1 := Option.some.inj h
 subst e
 exact (laws_markProgram.ish P0_0_ u9000_ l0_0 a1 w0 w hB ho0_0).mono fun e w' hq => ⟨hq.1, hq.2.1, hq.2.2.kept⟩

def sh55 (x y : S55) : Prop := (fun _ _ => True) x.f0 y.f0 ∧ (fun _ _ => True) x.f1 y.f1
theorem twn55 : Twn k55 sh55 := twn_iso (twn_pair (twn_int .i64) (twn_int .i64)) (fun x : S55 => (x.f0, x.f1)) (fun a => (⟨a.1, a.2⟩ : S55)) (fun _ => rfl)
def sh108 (x y : S108) : Prop := (fun _ _ => True) x.f0 y.f0 ∧ sh55 x.f1 y.f1
theorem twn108 : Twn k108 sh108 := twn_iso (twn_pair (twn_int .i64) twn55) (fun x : S108 => (x.f0, x.f1)) (fun a => (⟨a.1, a.2⟩ : S108)) (fun _ => rfl)
def laws_markMovS.g (k : Int) (x : S108) : Int := (wrap64 ((wrap64 ((wrap64 (k + 1)) + 1)) + 1))
theorem laws_markMovS.g_sh {k : Int} {x y : S108} (h : sh108 x y) : laws_markMovS.g k x = laws_markMovS.g k y := by
 unfold laws_markMovS.g
 rfl
def laws_markMovS.mk (k : Int) (l : List (S108)) : Int := l.foldl laws_markMovS.g k
theorem laws_markMovS.mk_sh {k : Int} {xs ys : List (S108)} (h : All2 sh108 xs ys) : laws_markMovS.mk k xs = laws_markMovS.mk k ys := fold_sh (g := laws_markMovS.g) (sh := sh108) (fun _ _ _ h => laws_markMovS.g_sh h) k h
theorem laws_markMovS.ish (P0_ : Nat → Prop) (u : Value) (l0 : List (S108)) (a1 : Int) (w0 w : World) (hB : Below w0.heap.size w0 w) (ho0 : Kd.R k108 108 w w0.heap.size P0_ u l0) :
  Calls Try.prog 52 #[u, .int .i64 a1] w fun e w' => e = .returned (.int .i64 (laws_markMovS.mk a1 l0)) ∧ Below w0.heap.size w0 w' ∧ Ish w w' P0_ := by
 have HB := am hB
 have HI := am (Ish.refl w P0_)
 have HO := am ho0
 have hln : l0.length ≤ 9223372036854775807 := by obtain ⟨_, _, rfl⟩ := Kd.R_slice ho0; exact (Kd.R_reads' ho0).2.2.2.1
 clear hB
 obtain ⟨Aa, ca, rfl⟩ := Kd.R_slice ho0
 clear ho0
 go_enter Try.func52, Try.ntmps52
 go_wp2
 go_loopg [1, 5] (l0.length + 1) (fun kq v1 v5 w' => ∃ (x1_1 : Int) (x5_1 : Int), v1 = .int .i64 x1_1 ∧ v5 = .int .i64 x5_1 ∧ Aside0 (kq + x5_1.toNat = l0.length + 1 ∧ 0 ≤ x5_1 ∧ x5_1 ≤ l0.length) ∧ Aside0 (laws_markMovS.mk x1_1 (l0.drop x5_1.toNat) = laws_markMovS.mk a1 l0) ∧ Aside0 (Ish w w' P0_) ∧ Aside0 (Below w0.heap.size w0 w'))
 case atStart => exact ⟨a1, 0, dr, dr, ⟨by simp, by omega, by omega⟩, ⟨rfl⟩, ⟨iw HI⟩, ⟨bw HB⟩⟩
 obtain ⟨x1_1, x5_1, rfl, rfl, HA, HV, HI, HB⟩ := hrel
 by_cases c3 : x5_1 < (l0.length : Int)
 ·have c3b0 := decide_eq_true c3
  obtain ⟨k1, rfl⟩ : ∃ k1, gk = k1 + 1 := ⟨gk - 1, by have := HA.out; omega⟩
  obtain ⟨la, hsa, hRa⟩ := R_twn twn108 HI.out HO.out
  have hla := hsa.1
  obtain ⟨go5, co5, eo5, gb5, gl5, cl5, HG5⟩ := Kd.R_form hRa (by have h00 := HA.out.2.1; omega)
  (first | cases eo5 | (injection eo5 with ea_ en_ ec_; (first | subst ea_ | (injection ea_ with ea_; subst ea_)); subst ec_; clear en_))
  have GB5 := am gb5
  have GP5 := am (show P0_ go5 from HO.out.1 _ rfl)
  clear gb5 gl5 HG5 hRa hsa
  have p5 : 0 ≤ x5_1 := HA.out.2.1
  have q5 := c3
  replace p5 := eq_true p5
  replace q5 := eq_true q5
  clear c3
  obtain ⟨l1, hs0, hR0⟩ := R_twn twn108 HI.out HO.out
  obtain ⟨ce0, hcl0, hM0, hcc0, hfr0⟩ := Kd.R_elem hR0 z108 x5_1 (of_eq_true p5) (of_eq_true q5)
  obtain rfl := k108_openM hM0
  have hx0 : wr.cell? ⟨go5, x5_1.toNat * 3, none⟩ = some _ := (hcc0 0 _ rfl)
  have hf0 : wr.frozen? ⟨go5, x5_1.toNat * 3, none⟩ = false := (hfr0 0)
  (try clear hM0)
  (try clear hfr0)
  (try clear hcc0)
  (try clear hcl0)
  (try clear hs0)
  (try clear hR0)
  go_wp2_with (first | ((with_reducible refine gt 2 16 rfl ?_); refine sE 2 16 (wr.setCell ⟨go5, x5_1.toNat * 3, none⟩ (.int .i64 x1_1)) ?_; intro wq0 hw; replace HI := am (show Ish w wq0 P0_ by rw [hw]; exact HI.out.set hx0 (twin.ofInt _ _ _) (fun _ => GP5.out)); replace HB := am ((by rw [hw]; exact below_set (HB.out) GB5.out : Below w0.heap.size w0 wq0)); clear hw; clear hx0; clear hf0; obtain ⟨l2, hs1, hR1⟩ := R_twn twn108 HI.out HO.out; obtain ⟨ce1, hcl1, hM1, hcc1, hfr1⟩ := Kd.R_elem hR1 z108 x5_1 (of_eq_true p5) (of_eq_true q5); obtain rfl := k108_openM hM1; have hx1 : wq0.cell? ⟨go5, x5_1.toNat * 3 + 1, none⟩ = some _ := (hcc1 1 _ rfl); have hf1 : wq0.frozen? ⟨go5, x5_1.toNat * 3 + 1, none⟩ = false := (hfr1 1); (try clear hM1); (try clear hfr1); (try clear hcc1); (try clear hcl1); (try clear hs1); (try clear hR1)) | ((with_reducible refine gt 2 24 rfl ?_); refine sE 2 24 (wq0.setCell ⟨go5, x5_1.toNat * 3 + 1, none⟩ (.int .i64 (wrap64 (x1_1 + 1)))) ?_; intro wq1 hw; replace HI := am (show Ish w wq1 P0_ by rw [hw]; exact HI.out.set hx1 (twin.ofInt _ _ _) (fun _ => GP5.out)); replace HB := am ((by rw [hw]; exact below_set (HB.out) GB5.out : Below w0.heap.size w0 wq1)); clear hw; clear hx1; clear hf1; obtain ⟨l3, hs2, hR2⟩ := R_twn twn108 HI.out HO.out; obtain ⟨ce2, hcl2, hM2, hcc2, hfr2⟩ := Kd.R_elem hR2 z108 x5_1 (of_eq_true p5) (of_eq_true q5); obtain rfl := k108_openM hM2; have hx2 : wq1.cell? ⟨go5, x5_1.toNat * 3 + 2, none⟩ = some _ := (hcc2 2 _ rfl); have hf2 : wq1.frozen? ⟨go5, x5_1.toNat * 3 + 2, none⟩ = false := (hfr2 2); (try clear hM2); (try clear hfr2); (try clear hcc2); (try clear hcl2); (try clear hs2); (try clear hR2)) | ((with_reducible refine gt 2 32 rfl ?_); refine sE 2 32 (wq1.setCell ⟨go5, x5_1.toNat * 3 + 2, none⟩ (.int .i64 (wrap64 ((wrap64 (x1_1 + 1)) + 1)))) ?_; intro wq2 hw; replace HI := am (show Ish w wq2 P0_ by rw [hw]; exact HI.out.set hx2 (twin.ofInt _ _ _) (fun _ => GP5.out)); replace HB := am ((by rw [hw]; exact below_set (HB.out) GB5.out : Below w0.heap.size w0 wq2)); clear hw; clear hx2; clear hf2))
  go_roundg k1
  case measure => omega
  case rel =>
   have h1 := HA.out
   have hq : x5_1 < (l0.length : Int) := of_eq_true q5
   have hw1 : wrap64 (x5_1 + 1) = x5_1 + 1 := by unfold wrap64; omega
   have hlt : x5_1.toNat < l0.length := by omega
   refine ⟨(wrap64 ((wrap64 ((wrap64 (x1_1 + 1)) + 1)) + 1)), wrap64 (x5_1 + 1), dr, dr, ⟨by omega, by omega, by omega⟩, ⟨?_⟩, ⟨iw HI⟩, ⟨bw HB⟩⟩
   have h2 := HV.out
   rw [List.drop_eq_getElem_cons hlt] at h2
   rw [hw1, show (x5_1 + 1).toNat = x5_1.toNat + 1 by omega]
   exact h2
 have c3b0 := decide_eq_false c3
 have hv := HV.out
 have h1 := HA.out
 rw [List.drop_of_length_le (by omega)] at hv
 have hv : x1_1 = laws_markMovS.mk a1 l0 := hv
 clear c3
 go_wp2
 go_ret
 exact ⟨by first | rfl | (simp; done) | (simp [*]; done), bw HB, iw HI⟩
def laws_markMovS.f (l0 : List (S108)) (a1 : Int) : Option Int := some (laws_markMovS.mk a1 l0)
theorem laws_markMovS.calls (P0_ : Nat → Prop) (u9000_ : Value) (l0 : List (S108)) (a1 : Int) (r1 : Int) (w0 w : World) (hB : Below w0.heap.size w0 w) (ho0 : Kd.R k108 108 w w0.heap.size P0_ u9000_ l0) (h : laws_markMovS.f l0 a1 = some r1) :
  Calls Try.prog 52 #[u9000_, .int .i64 a1] w fun e w' => e = .returned (.int .i64 r1) ∧ Below w0.heap.size w0 w' ∧ Kept w w' (fun k_ => P0_ k_) := by
 have e : laws_markMovS.mk a1 l0 = r1 := Option.some.inj h
 subst e
 exact (laws_markMovS.ish P0_ u9000_ l0 a1 w0 w hB ho0).mono fun e w' hq => ⟨hq.1, hq.2.1, hq.2.2.kept⟩

def laws_markValS.g (k : Int) (x : S55) : Int := (wrap64 ((wrap64 (k + 1)) + 1))
theorem laws_markValS.g_sh {k : Int} {x y : S55} (h : sh55 x y) : laws_markValS.g k x = laws_markValS.g k y := by
 unfold laws_markValS.g
 rfl
def laws_markValS.mk (k : Int) (l : List (S55)) : Int := l.foldl laws_markValS.g k
theorem laws_markValS.mk_sh {k : Int} {xs ys : List (S55)} (h : All2 sh55 xs ys) : laws_markValS.mk k xs = laws_markValS.mk k ys := fold_sh (g := laws_markValS.g) (sh := sh55) (fun _ _ _ h => laws_markValS.g_sh h) k h
theorem laws_markValS.ish (P0_ : Nat → Prop) (u : Value) (l0 : List (S55)) (a1 : Int) (w0 w : World) (hB : Below w0.heap.size w0 w) (ho0 : Kd.R k55 55 w w0.heap.size P0_ u l0) :
  Calls Try.prog 53 #[u, .int .i64 a1] w fun e w' => e = .returned (.int .i64 (laws_markValS.mk a1 l0)) ∧ Below w0.heap.size w0 w' ∧ Ish w w' P0_ := by
 have HB := am hB
 have HI := am (Ish.refl w P0_)
 have HO := am ho0
 have hln : l0.length ≤ 9223372036854775807 := by obtain ⟨_, _, rfl⟩ := Kd.R_slice ho0; exact (Kd.R_reads' ho0).2.2.2.1
 clear hB
 obtain ⟨Aa, ca, rfl⟩ := Kd.R_slice ho0
 clear ho0
 go_enter Try.func53, Try.ntmps53
 go_wp2
 go_loopg [1, 5] (l0.length + 1) (fun kq v1 v5 w' => ∃ (x1_1 : Int) (x5_1 : Int), v1 = .int .i64 x1_1 ∧ v5 = .int .i64 x5_1 ∧ Aside0 (kq + x5_1.toNat = l0.length + 1 ∧ 0 ≤ x5_1 ∧ x5_1 ≤ l0.length) ∧ Aside0 (laws_markValS.mk x1_1 (l0.drop x5_1.toNat) = laws_markValS.mk a1 l0) ∧ Aside0 (Ish w w' P0_) ∧ Aside0 (Below w0.heap.size w0 w'))
 case atStart => exact ⟨a1, 0, dr, dr, ⟨by simp, by omega, by omega⟩, ⟨rfl⟩, ⟨iw HI⟩, ⟨bw HB⟩⟩
 obtain ⟨x1_1, x5_1, rfl, rfl, HA, HV, HI, HB⟩ := hrel
 by_cases c3 : x5_1 < (l0.length : Int)
 ·have c3b0 := decide_eq_true c3
  obtain ⟨k1, rfl⟩ : ∃ k1, gk = k1 + 1 := ⟨gk - 1, by have := HA.out; omega⟩
  obtain ⟨la, hsa, hRa⟩ := R_twn twn55 HI.out HO.out
  have hla := hsa.1
  obtain ⟨go5, co5, eo5, gb5, gl5, cl5, HG5⟩ := Kd.R_form hRa (by have h00 := HA.out.2.1; omega)
  (first | cases eo5 | (injection eo5 with ea_ en_ ec_; (first | subst ea_ | (injection ea_ with ea_; subst ea_)); subst ec_; clear en_))
  have GB5 := am gb5
  have GP5 := am (show P0_ go5 from HO.out.1 _ rfl)
  clear gb5 gl5 HG5 hRa hsa
  have p5 : 0 ≤ x5_1 := HA.out.2.1
  have q5 := c3
  replace p5 := eq_true p5
  replace q5 := eq_true q5
  clear c3
  obtain ⟨l1, hs0, hR0⟩ := R_twn twn55 HI.out HO.out
  obtain ⟨ce0, hcl0, hM0, hcc0, hfr0⟩ := Kd.R_elem hR0 z55 x5_1 (of_eq_true p5) (of_eq_true q5)
  obtain rfl := k55_openM hM0
  have hx0 : wr.cell? ⟨go5, x5_1.toNat * 2, none⟩ = some _ := (hcc0 0 _ rfl)
  have hf0 : wr.frozen? ⟨go5, x5_1.toNat * 2, none⟩ = false := (hfr0 0)
  (try clear hM0)
  (try clear hfr0)
  (try clear hcc0)
  (try clear hcl0)
  (try clear hs0)
  (try clear hR0)
  go_wp2_with (first | ((with_reducible refine gt 2 16 rfl ?_); refine sE 2 16 (wr.setCell ⟨go5, x5_1.toNat * 2, none⟩ (.int .i64 x1_1)) ?_; intro wq0 hw; replace HI := am (show Ish w wq0 P0_ by rw [hw]; exact HI.out.set hx0 (twin.ofInt _ _ _) (fun _ => GP5.out)); replace HB := am ((by rw [hw]; exact below_set (HB.out) GB5.out : Below w0.heap.size w0 wq0)); clear hw; clear hx0; clear hf0; obtain ⟨l2, hs1, hR1⟩ := R_twn twn55 HI.out HO.out; obtain ⟨ce1, hcl1, hM1, hcc1, hfr1⟩ := Kd.R_elem hR1 z55 x5_1 (of_eq_true p5) (of_eq_true q5); obtain rfl := k55_openM hM1; have hx1 : wq0.cell? ⟨go5, x5_1.toNat * 2 + 1, none⟩ = some _ := (hcc1 1 _ rfl); have hf1 : wq0.frozen? ⟨go5, x5_1.toNat * 2 + 1, none⟩ = false := (hfr1 1); (try clear hM1); (try clear hfr1); (try clear hcc1); (try clear hcl1); (try clear hs1); (try clear hR1)) | ((with_reducible refine gt 2 23 rfl ?_); refine sE 2 23 (wq0.setCell ⟨go5, x5_1.toNat * 2 + 1, none⟩ (.int .i64 (wrap64 (x1_1 + 1)))) ?_; intro wq1 hw; replace HI := am (show Ish w wq1 P0_ by rw [hw]; exact HI.out.set hx1 (twin.ofInt _ _ _) (fun _ => GP5.out)); replace HB := am ((by rw [hw]; exact below_set (HB.out) GB5.out : Below w0.heap.size w0 wq1)); clear hw; clear hx1; clear hf1))
  go_roundg k1
  case measure => omega
  case rel =>
   have h1 := HA.out
   have hq : x5_1 < (l0.length : Int) := of_eq_true q5
   have hw1 : wrap64 (x5_1 + 1) = x5_1 + 1 := by unfold wrap64; omega
   have hlt : x5_1.toNat < l0.length := by omega
   refine ⟨(wrap64 ((wrap64 (x1_1 + 1)) + 1)), wrap64 (x5_1 + 1), dr, dr, ⟨by omega, by omega, by omega⟩, ⟨?_⟩, ⟨iw HI⟩, ⟨bw HB⟩⟩
   have h2 := HV.out
   rw [List.drop_eq_getElem_cons hlt] at h2
   rw [hw1, show (x5_1 + 1).toNat = x5_1.toNat + 1 by omega]
   exact h2
 have c3b0 := decide_eq_false c3
 have hv := HV.out
 have h1 := HA.out
 rw [List.drop_of_length_le (by omega)] at hv
 have hv : x1_1 = laws_markValS.mk a1 l0 := hv
 clear c3
 go_wp2
 go_ret
 exact ⟨by first | rfl | (simp; done) | (simp [*]; done), bw HB, iw HI⟩
def laws_markValS.f (l0 : List (S55)) (a1 : Int) : Option Int := some (laws_markValS.mk a1 l0)
theorem laws_markValS.calls (P0_ : Nat → Prop) (u9000_ : Value) (l0 : List (S55)) (a1 : Int) (r1 : Int) (w0 w : World) (hB : Below w0.heap.size w0 w) (ho0 : Kd.R k55 55 w w0.heap.size P0_ u9000_ l0) (h : laws_markValS.f l0 a1 = some r1) :
  Calls Try.prog 53 #[u9000_, .int .i64 a1] w fun e w' => e = .returned (.int .i64 r1) ∧ Below w0.heap.size w0 w' ∧ Kept w w' (fun k_ => P0_ k_) := by
 have e : laws_markValS.mk a1 l0 = r1 := Option.some.inj h
 subst e
 exact (laws_markValS.ish P0_ u9000_ l0 a1 w0 w hB ho0).mono fun e w' hq => ⟨hq.1, hq.2.1, hq.2.2.kept⟩

def sh50 (x y : S50) : Prop := (All2 sh108) x.f0 y.f0 ∧ (fun _ _ => True) x.f1 y.f1 ∧ (fun _ _ => True) x.f2 y.f2 ∧ (All2 sh55) x.f3 y.f3 ∧ (fun _ _ => True) x.f4 y.f4
theorem twn50 : Twn k50 sh50 := twn_iso (twn_pair (twn_slice twn108 108) (twn_pair (twn_int .i64) (twn_pair (twn_int .i64) (twn_pair (twn_slice twn55 55) (twn_int .i64))))) (fun x : S50 => (x.f0, x.f1, x.f2, x.f3, x.f4)) (fun a => (⟨a.1, a.2.1, a.2.2.1, a.2.2.2.1, a.2.2.2.2⟩ : S50)) (fun _ => rfl)
def laws_markAsmInsS.g (k : Int) (x : S50) : Int := (wrap64 ((laws_markValS.mk (wrap64 ((wrap64 ((laws_markMovS.mk k x.f0) + 1)) + 1)) x.f3) + 1))
theorem laws_markAsmInsS.g_sh {k : Int} {x y : S50} (h : sh50 x y) : laws_markAsmInsS.g k x = laws_markAsmInsS.g k y := by
 unfold laws_markAsmInsS.g
 rw [laws_markValS.mk_sh (show All2 _ _ _ from h.2.2.2.1), laws_markMovS.mk_sh (show All2 _ _ _ from h.1)]
def laws_markAsmInsS.mk (k : Int) (l : List (S50)) : Int := l.foldl laws_markAsmInsS.g k
theorem laws_markAsmInsS.mk_sh {k : Int} {xs ys : List (S50)} (h : All2 sh50 xs ys) : laws_markAsmInsS.mk k xs = laws_markAsmInsS.mk k ys := fold_sh (g := laws_markAsmInsS.g) (sh := sh50) (fun _ _ _ h => laws_markAsmInsS.g_sh h) k h
theorem laws_markAsmInsS.ish (P0_ : Nat → Prop) (u : Value) (l0 : List (S50)) (a1 : Int) (w0 w : World) (hB : Below w0.heap.size w0 w) (ho0 : Kd.R k50 50 w w0.heap.size P0_ u l0) :
  Calls Try.prog 25 #[u, .int .i64 a1] w fun e w' => e = .returned (.int .i64 (laws_markAsmInsS.mk a1 l0)) ∧ Below w0.heap.size w0 w' ∧ Ish w w' P0_ := by
 have HB := am hB
 have HI := am (Ish.refl w P0_)
 have HO := am ho0
 have hln : l0.length ≤ 9223372036854775807 := by obtain ⟨_, _, rfl⟩ := Kd.R_slice ho0; exact (Kd.R_reads' ho0).2.2.2.1
 clear hB
 obtain ⟨Aa, ca, rfl⟩ := Kd.R_slice ho0
 clear ho0
 go_enter Try.func25, Try.ntmps25
 go_wp2
 go_loopg [1, 5] (l0.length + 1) (fun kq v1 v5 w' => ∃ (x1_1 : Int) (x5_1 : Int), v1 = .int .i64 x1_1 ∧ v5 = .int .i64 x5_1 ∧ Aside0 (kq + x5_1.toNat = l0.length + 1 ∧ 0 ≤ x5_1 ∧ x5_1 ≤ l0.length) ∧ Aside0 (laws_markAsmInsS.mk x1_1 (l0.drop x5_1.toNat) = laws_markAsmInsS.mk a1 l0) ∧ Aside0 (Ish w w' P0_) ∧ Aside0 (Below w0.heap.size w0 w'))
 case atStart => exact ⟨a1, 0, dr, dr, ⟨by simp, by omega, by omega⟩, ⟨rfl⟩, ⟨iw HI⟩, ⟨bw HB⟩⟩
 obtain ⟨x1_1, x5_1, rfl, rfl, HA, HV, HI, HB⟩ := hrel
 by_cases c3 : x5_1 < (l0.length : Int)
 ·have c3b0 := decide_eq_true c3
  obtain ⟨k1, rfl⟩ : ∃ k1, gk = k1 + 1 := ⟨gk - 1, by have := HA.out; omega⟩
  obtain ⟨la, hsa, hRa⟩ := R_twn twn50 HI.out HO.out
  have hla := hsa.1
  obtain ⟨go5, co5, eo5, gb5, gl5, cl5, HG5⟩ := Kd.R_form hRa (by have h00 := HA.out.2.1; omega)
  (first | cases eo5 | (injection eo5 with ea_ en_ ec_; (first | subst ea_ | (injection ea_ with ea_; subst ea_)); subst ec_; clear en_))
  have GB5 := am gb5
  have GP5 := am (show P0_ go5 from HO.out.1 _ rfl)
  clear gb5 gl5 HG5 hRa hsa
  have p5 : 0 ≤ x5_1 := HA.out.2.1
  have q5 := c3
  replace p5 := eq_true p5
  replace q5 := eq_true q5
  clear c3
  obtain ⟨l1, hs0, hR0⟩ := R_twn twn50 HI.out HO.out
  obtain ⟨ce0, hcl0, hM0, hcc0, hfr0⟩ := Kd.R_elem hR0 z50 x5_1 (of_eq_true p5) (of_eq_true q5)
  obtain ⟨v0_0, v0_3, rfl, hr0_0, hr0_3⟩ := k50_openM hM0
  obtain ⟨A0, c0, rfl⟩ := Kd.R_slice hr0_0
  have hx0 : wr.cell? ⟨go5, x5_1.toNat * 5, none⟩ = some _ := (hcc0 0 _ rfl)
  have HR0 := am hr0_0
  have HS0 := am hs0
  (try clear hM0)
  (try clear hfr0)
  (try clear hcc0)
  (try clear hcl0)
  (try clear hs0)
  (try clear hR0)
  (try clear hr0_0)
  (try clear hr0_3)
  go_wp2_with (first | (go_at_call 52; (refine (laws_markMovS.ish _ _ _ _ _ _ (bw HB) HR0.out).mono ?_); rintro e wq0 ⟨rfl, hb, hi⟩; replace HB := am hb; replace HI := am (HI.out.trans hi (fun b _ h_ => h_.1)); clear hb hi; clear hx0 HR0; obtain ⟨l2, hs1, hR1⟩ := R_twn twn50 HI.out HO.out; obtain ⟨ce1, hcl1, hM1, hcc1, hfr1⟩ := Kd.R_elem hR1 z50 x5_1 (of_eq_true p5) (of_eq_true q5); obtain ⟨v1_0, v1_3, rfl, hr1_0, hr1_3⟩ := k50_openM hM1; have hx1 : wq0.cell? ⟨go5, x5_1.toNat * 5 + 1, none⟩ = some _ := (hcc1 1 _ rfl); have hf1 : wq0.frozen? ⟨go5, x5_1.toNat * 5 + 1, none⟩ = false := (hfr1 1); (try clear hM1); (try clear hfr1); (try clear hcc1); (try clear hcl1); (try clear hs1); (try clear hR1); (try clear hr1_0); (try clear hr1_3)) | ((with_reducible refine gt 2 23 rfl ?_); refine sE 2 23 (wq0.setCell ⟨go5, x5_1.toNat * 5 + 1, none⟩ (.int .i64 (laws_markMovS.mk x1_1 (l1.getD x5_1.toNat z50).f0))) ?_; intro wq1 hw; replace HI := am (show Ish w wq1 P0_ by rw [hw]; exact HI.out.set hx1 (twin.ofInt _ _ _) (fun _ => GP5.out)); replace HB := am ((by rw [hw]; exact below_set (HB.out) GB5.out : Below w0.heap.size w0 wq1)); clear hw; clear hx1; clear hf1; obtain ⟨l3, hs2, hR2⟩ := R_twn twn50 HI.out HO.out; obtain ⟨ce2, hcl2, hM2, hcc2, hfr2⟩ := Kd.R_elem hR2 z50 x5_1 (of_eq_true p5) (of_eq_true q5); obtain ⟨v2_0, v2_3, rfl, hr2_0, hr2_3⟩ := k50_openM hM2; have hx2 : wq1.cell? ⟨go5, x5_1.toNat * 5 + 2, none⟩ = some _ := (hcc2 2 _ rfl); have hf2 : wq1.frozen? ⟨go5, x5_1.toNat * 5 + 2, none⟩ = false := (hfr2 2); (try clear hM2); (try clear hfr2); (try clear hcc2); (try clear hcl2); (try clear hs2); (try clear hR2); (try clear hr2_0); (try clear hr2_3)) | ((with_reducible refine gt 2 30 rfl ?_); refine sE 2 30 (wq1.setCell ⟨go5, x5_1.toNat * 5 + 2, none⟩ (.int .i64 (wrap64 ((laws_markMovS.mk x1_1 (l1.getD x5_1.toNat z50).f0) + 1)))) ?_; intro wq2 hw; replace HI := am (show Ish w wq2 P0_ by rw [hw]; exact HI.out.set hx2 (twin.ofInt _ _ _) (fun _ => GP5.out)); replace HB := am ((by rw [hw]; exact below_set (HB.out) GB5.out : Below w0.heap.size w0 wq2)); clear hw; clear hx2; clear hf2; obtain ⟨l4, hs3, hR3⟩ := R_twn twn50 HI.out HO.out; obtain ⟨ce3, hcl3, hM3, hcc3, hfr3⟩ := Kd.R_elem hR3 z50 x5_1 (of_eq_true p5) (of_eq_true q5); obtain ⟨v3_0, v3_3, rfl, hr3_0, hr3_3⟩ := k50_openM hM3; obtain ⟨A3, c3, rfl⟩ := Kd.R_slice hr3_3; have hx3 : wq2.cell? ⟨go5, x5_1.toNat * 5 + 3, none⟩ = some _ := (hcc3 3 _ rfl); have HR3 := am hr3_3; have HS3 := am hs3; (try clear hM3); (try clear hfr3); (try clear hcc3); (try clear hcl3); (try clear hs3); (try clear hR3); (try clear hr3_0); (try clear hr3_3)) | (go_at_call 53; (refine (laws_markValS.ish _ _ _ _ _ _ (bw HB) HR3.out).mono ?_); rintro e wq3 ⟨rfl, hb, hi⟩; replace HB := am hb; replace HI := am (HI.out.trans hi (fun b _ h_ => h_.1)); clear hb hi; clear hx3 HR3; obtain ⟨l5, hs4, hR4⟩ := R_twn twn50 HI.out HO.out; obtain ⟨ce4, hcl4, hM4, hcc4, hfr4⟩ := Kd.R_elem hR4 z50 x5_1 (of_eq_true p5) (of_eq_true q5); obtain ⟨v4_0, v4_3, rfl, hr4_0, hr4_3⟩ := k50_openM hM4; have hx4 : wq3.cell? ⟨go5, x5_1.toNat * 5 + 4, none⟩ = some _ := (hcc4 4 _ rfl); have hf4 : wq3.frozen? ⟨go5, x5_1.toNat * 5 + 4, none⟩ = false := (hfr4 4); (try clear hM4); (try clear hfr4); (try clear hcc4); (try clear hcl4); (try clear hs4); (try clear hR4); (try clear hr4_0); (try clear hr4_3)) | ((with_reducible refine gt 2 44 rfl ?_); refine sE 2 44 (wq3.setCell ⟨go5, x5_1.toNat * 5 + 4, none⟩ (.int .i64 (laws_markValS.mk (wrap64 ((wrap64 ((laws_markMovS.mk x1_1 (l1.getD x5_1.toNat z50).f0) + 1)) + 1)) (l4.getD x5_1.toNat z50).f3))) ?_; intro wq4 hw; replace HI := am (show Ish w wq4 P0_ by rw [hw]; exact HI.out.set hx4 (twin.ofInt _ _ _) (fun _ => GP5.out)); replace HB := am ((by rw [hw]; exact below_set (HB.out) GB5.out : Below w0.heap.size w0 wq4)); clear hw; clear hx4; clear hf4))
  go_roundg k1
  case measure => omega
  case rel =>
   have h1 := HA.out
   have hq : x5_1 < (l0.length : Int) := of_eq_true q5
   have hw1 : wrap64 (x5_1 + 1) = x5_1 + 1 := by unfold wrap64; omega
   have hlt : x5_1.toNat < l0.length := by omega
   have hsh0 := HS0.out.2 x5_1.toNat l0[x5_1.toNat] (l1.getD x5_1.toNat z50) (List.getElem?_eq_getElem hlt) (by rw [List.getD_eq_getElem?_getD, List.getElem?_eq_getElem (by have := HS0.out.1; omega)]; rfl)
   have hsh3 := HS3.out.2 x5_1.toNat l0[x5_1.toNat] (l4.getD x5_1.toNat z50) (List.getElem?_eq_getElem hlt) (by rw [List.getD_eq_getElem?_getD, List.getElem?_eq_getElem (by have := HS3.out.1; omega)]; rfl)
   refine ⟨(wrap64 ((laws_markValS.mk (wrap64 ((wrap64 ((laws_markMovS.mk x1_1 (l1.getD x5_1.toNat z50).f0) + 1)) + 1)) (l4.getD x5_1.toNat z50).f3) + 1)), wrap64 (x5_1 + 1), dr, dr, ⟨by omega, by omega, by omega⟩, ⟨?_⟩, ⟨iw HI⟩, ⟨bw HB⟩⟩
   have h2 := HV.out
   rw [List.drop_eq_getElem_cons hlt] at h2
   rw [hw1, show (x5_1 + 1).toNat = x5_1.toNat + 1 by omega]
   rw [← laws_markValS.mk_sh (show All2 _ _ _ from hsh3.2.2.2.1), ← laws_markMovS.mk_sh (show All2 _ _ _ from hsh0.1)]
   exact h2
 have c3b0 := decide_eq_false c3
 have hv := HV.out
 have h1 := HA.out
 rw [List.drop_of_length_le (by omega)] at hv
 have hv : x1_1 = laws_markAsmInsS.mk a1 l0 := hv
 clear c3
 go_wp2
 go_ret
 exact ⟨by first | rfl | (simp; done) | (simp [*]; done), bw HB, iw HI⟩
def laws_markAsmInsS.f (l0 : List (S50)) (a1 : Int) : Option Int := some (laws_markAsmInsS.mk a1 l0)
theorem laws_markAsmInsS.calls (P0_ : Nat → Prop) (u9000_ : Value) (l0 : List (S50)) (a1 : Int) (r1 : Int) (w0 w : World) (hB : Below w0.heap.size w0 w) (ho0 : Kd.R k50 50 w w0.heap.size P0_ u9000_ l0) (h : laws_markAsmInsS.f l0 a1 = some r1) :
  Calls Try.prog 25 #[u9000_, .int .i64 a1] w fun e w' => e = .returned (.int .i64 r1) ∧ Below w0.heap.size w0 w' ∧ Kept w w' (fun k_ => P0_ k_) := by
 have e : laws_markAsmInsS.mk a1 l0 = r1 := Option.some.inj h
 subst e
 exact (laws_markAsmInsS.ish P0_ u9000_ l0 a1 w0 w hB ho0).mono fun e w' hq => ⟨hq.1, hq.2.1, hq.2.2.kept⟩

def laws_markValSS.g (k : Int) (x : List (S55)) : Int := (laws_markValS.mk k x)
theorem laws_markValSS.g_sh {k : Int} {x y : List (S55)} (h : (All2 sh55) x y) : laws_markValSS.g k x = laws_markValSS.g k y := by
 unfold laws_markValSS.g
 rw [laws_markValS.mk_sh (show All2 _ _ _ from h)]
def laws_markValSS.mk (k : Int) (l : List (List (S55))) : Int := l.foldl laws_markValSS.g k
theorem laws_markValSS.mk_sh {k : Int} {xs ys : List (List (S55))} (h : All2 (All2 sh55) xs ys) : laws_markValSS.mk k xs = laws_markValSS.mk k ys := fold_sh (g := laws_markValSS.g) (sh := (All2 sh55)) (fun _ _ _ h => laws_markValSS.g_sh h) k h
theorem laws_markValSS.ish (P0_ : Nat → Prop) (u : Value) (l0 : List (List (S55))) (a1 : Int) (w0 w : World) (hB : Below w0.heap.size w0 w) (ho0 : Kd.R (Kd.slice 55 k55) 47 w w0.heap.size P0_ u l0) :
  Calls Try.prog 26 #[u, .int .i64 a1] w fun e w' => e = .returned (.int .i64 (laws_markValSS.mk a1 l0)) ∧ Below w0.heap.size w0 w' ∧ Ish w w' P0_ := by
 have HB := am hB
 have HI := am (Ish.refl w P0_)
 have HO := am ho0
 have hln : l0.length ≤ 9223372036854775807 := by obtain ⟨_, _, rfl⟩ := Kd.R_slice ho0; exact (Kd.R_reads' ho0).2.2.2.1
 clear hB
 obtain ⟨Aa, ca, rfl⟩ := Kd.R_slice ho0
 clear ho0
 go_enter Try.func26, Try.ntmps26
 go_wp2
 go_loopg [1, 5] (l0.length + 1) (fun kq v1 v5 w' => ∃ (x1_1 : Int) (x5_1 : Int), v1 = .int .i64 x1_1 ∧ v5 = .int .i64 x5_1 ∧ Aside0 (kq + x5_1.toNat = l0.length + 1 ∧ 0 ≤ x5_1 ∧ x5_1 ≤ l0.length) ∧ Aside0 (laws_markValSS.mk x1_1 (l0.drop x5_1.toNat) = laws_markValSS.mk a1 l0) ∧ Aside0 (Ish w w' P0_) ∧ Aside0 (Below w0.heap.size w0 w'))
 case atStart => exact ⟨a1, 0, dr, dr, ⟨by simp, by omega, by omega⟩, ⟨rfl⟩, ⟨iw HI⟩, ⟨bw HB⟩⟩
 obtain ⟨x1_1, x5_1, rfl, rfl, HA, HV, HI, HB⟩ := hrel
 by_cases c3 : x5_1 < (l0.length : Int)
 ·have c3b0 := decide_eq_true c3
  obtain ⟨k1, rfl⟩ : ∃ k1, gk = k1 + 1 := ⟨gk - 1, by have := HA.out; omega⟩
  obtain ⟨la, hsa, hRa⟩ := R_twn (twn_slice twn55 55) HI.out HO.out
  have hla := hsa.1
  obtain ⟨go5, co5, eo5, gb5, gl5, cl5, HG5⟩ := Kd.R_form hRa (by have h00 := HA.out.2.1; omega)
  (first | cases eo5 | (injection eo5 with ea_ en_ ec_; (first | subst ea_ | (injection ea_ with ea_; subst ea_)); subst ec_; clear en_))
  have GB5 := am gb5
  have GP5 := am (show P0_ go5 from HO.out.1 _ rfl)
  clear gb5 gl5 HG5 hRa hsa
  have p5 : 0 ≤ x5_1 := HA.out.2.1
  have q5 := c3
  replace p5 := eq_true p5
  replace q5 := eq_true q5
  clear c3
  obtain ⟨l1, hs0, hR0⟩ := R_twn (twn_slice twn55 55) HI.out HO.out
  obtain ⟨ce0, hcl0, hM0, hcc0, hfr0⟩ := Kd.R_elem hR0 [] x5_1 (of_eq_true p5) (of_eq_true q5)
  obtain ⟨v0_0, rfl, hr0_0⟩ := hM0
  obtain ⟨A0, c0, rfl⟩ := Kd.R_slice hr0_0
  have hx0 : wr.cell? ⟨go5, x5_1.toNat, none⟩ = some _ := cell1 (hcc0 0 _ rfl)
  have HR0 := am hr0_0
  have HS0 := am hs0
  (try clear hM0)
  (try clear hfr0)
  (try clear hcc0)
  (try clear hcl0)
  (try clear hs0)
  (try clear hR0)
  (try clear hr0_0)
  go_wp2_with (first | (go_at_call 53; (refine (laws_markValS.ish _ _ _ _ _ _ (bw HB) HR0.out).mono ?_); rintro e wq0 ⟨rfl, hb, hi⟩; replace HB := am hb; replace HI := am (HI.out.trans hi (fun b _ h_ => h_.1)); clear hb hi; clear hx0 HR0))
  go_roundg k1
  case measure => omega
  case rel =>
   have h1 := HA.out
   have hq : x5_1 < (l0.length : Int) := of_eq_true q5
   have hw1 : wrap64 (x5_1 + 1) = x5_1 + 1 := by unfold wrap64; omega
   have hlt : x5_1.toNat < l0.length := by omega
   have hsh0 := HS0.out.2 x5_1.toNat l0[x5_1.toNat] (l1.getD x5_1.toNat []) (List.getElem?_eq_getElem hlt) (by rw [List.getD_eq_getElem?_getD, List.getElem?_eq_getElem (by have := HS0.out.1; omega)]; rfl)
   refine ⟨(laws_markValS.mk x1_1 (l1.getD x5_1.toNat [])), wrap64 (x5_1 + 1), dr, dr, ⟨by omega, by omega, by omega⟩, ⟨?_⟩, ⟨iw HI⟩, ⟨bw HB⟩⟩
   have h2 := HV.out
   rw [List.drop_eq_getElem_cons hlt] at h2
   rw [hw1, show (x5_1 + 1).toNat = x5_1.toNat + 1 by omega]
   rw [← laws_markValS.mk_sh (show All2 _ _ _ from hsh0)]
   exact h2
 have c3b0 := decide_eq_false c3
 have hv := HV.out
 have h1 := HA.out
 rw [List.drop_of_length_le (by omega)] at hv
 have hv : x1_1 = laws_markValSS.mk a1 l0 := hv
 clear c3
 go_wp2
 go_ret
 exact ⟨by first | rfl | (simp; done) | (simp [*]; done), bw HB, iw HI⟩
def laws_markValSS.f (l0 : List (List (S55))) (a1 : Int) : Option Int := some (laws_markValSS.mk a1 l0)
theorem laws_markValSS.calls (P0_ : Nat → Prop) (u9000_ : Value) (l0 : List (List (S55))) (a1 : Int) (r1 : Int) (w0 w : World) (hB : Below w0.heap.size w0 w) (ho0 : Kd.R (Kd.slice 55 k55) 47 w w0.heap.size P0_ u9000_ l0) (h : laws_markValSS.f l0 a1 = some r1) :
  Calls Try.prog 26 #[u9000_, .int .i64 a1] w fun e w' => e = .returned (.int .i64 r1) ∧ Below w0.heap.size w0 w' ∧ Kept w w' (fun k_ => P0_ k_) := by
 have e : laws_markValSS.mk a1 l0 = r1 := Option.some.inj h
 subst e
 exact (laws_markValSS.ish P0_ u9000_ l0 a1 w0 w hB ho0).mono fun e w' hq => ⟨hq.1, hq.2.1, hq.2.2.kept⟩

def laws_markAsm.mk (a1 : Int) (l0_1 : List (S50)) (l0_2 : List (List (S55))) : Int := (laws_markValSS.mk (laws_markAsmInsS.mk a1 l0_1) l0_2)
theorem laws_markAsm.mk_sh {a1 : Int} {l0_1 m0_1 : List (S50)} {l0_2 m0_2 : List (List (S55))} (h0_1 : All2 sh50 l0_1 m0_1) (h0_2 : All2 (All2 sh55) l0_2 m0_2) : laws_markAsm.mk a1 l0_1 l0_2 = laws_markAsm.mk a1 m0_1 m0_2 := by
 unfold laws_markAsm.mk
 rw [laws_markAsmInsS.mk_sh h0_1, laws_markValSS.mk_sh h0_2]
theorem laws_markAsm.ish (a0_0 : Int) (P0_1_ : Nat → Prop) (u0_1 : Value) (l0_1 : List (S50)) (P0_2_ : Nat → Prop) (u0_2 : Value) (l0_2 : List (List (S55))) (a1 : Int) (w0 w : World) (hB : Below w0.heap.size w0 w) (ho0_1 : Kd.R k50 50 w w0.heap.size P0_1_ u0_1 l0_1) (ho0_2 : Kd.R (Kd.slice 55 k55) 47 w w0.heap.size P0_2_ u0_2 l0_2) :
  Calls Try.prog 11 #[.agg #[.int .i64 a0_0, u0_1, u0_2], .int .i64 a1] w fun e w' => e = .returned (.int .i64 (laws_markAsm.mk a1 l0_1 l0_2)) ∧ Below w0.heap.size w0 w' ∧ Ish w w' (fun k_ => P0_1_ k_ ∨ P0_2_ k_) := by
 have hu29 := Try.underlying29
 have HB := am hB
 have HI := am (Ish.refl w (fun k_ => P0_1_ k_ ∨ P0_2_ k_))
 have HS := am hB.size
 clear hB
 obtain ⟨A0_1, c0_1, rfl⟩ := Kd.R_slice ho0_1
 have HO0_1 := am (R_in ho0_1)
 clear ho0_1
 obtain ⟨A0_2, c0_2, rfl⟩ := Kd.R_slice ho0_2
 have HO0_2 := am (R_in ho0_2)
 clear ho0_2
 go_enter Try.func11, Try.ntmps11
 go_wp2_with (first | ((with_reducible refine gd 2 rfl ?_); refine bx 2 #[.int .i64 a0_0, .slice A0_1 l0_1.length c0_1, .slice A0_2 l0_2.length c0_2] 29 ?_; intro gb1 hg wz0 hbox hb; replace HB := bs HB hb; have BK1 := am hbox; have GW1 := am (show w.heap.size ≤ gb1 by rw [hg]; exact (iw HI : Ish w _ _).size); replace HI := am (Ish.below (iw HI) hb); clear hb hbox hg; have hcz0 := bK wz0 BK1; have hfz0 := bF BK1) | (go_at_call 25; obtain ⟨m0_1, hm0_1, hR0_1⟩ := R_twn twn50 (iw HI : Ish w _ _) HO0_1.out; have e0_1 := hm0_1.1; (refine (laws_markAsmInsS.ish (fun k_ => P0_1_ k_ ∧ k_ < w.heap.size) _ _ _ w0 _ (bw HB) hR0_1).mono ?_); rintro e wz1 ⟨he_, hb, hi⟩; rw [← laws_markAsmInsS.mk_sh hm0_1] at he_; subst he_; replace HB := am hb; replace HI := am ((iw HI : Ish w _ (fun k_ => P0_1_ k_ ∨ P0_2_ k_)).trans hi (fun k_ _ h_ => (.inl h_.1))); replace BK1 := am (Ish.box hi (bp BK1) (fun h_ => absurd (Nat.lt_of_lt_of_le h_.2 GW1.out) (Nat.lt_irrefl _))); clear hb hi; (try clear hR0_1); (try clear hm0_1 e0_1); (try clear hcz0); (try clear hfz0); have hcz1 := bK wz1 BK1; have hfz1 := bF BK1) | (go_at_call 26; obtain ⟨m1_2, hm1_2, hR1_2⟩ := R_twn (twn_slice twn55 55) (iw HI : Ish w _ _) HO0_2.out; have e1_2 := hm1_2.1; (refine (laws_markValSS.ish (fun k_ => P0_2_ k_ ∧ k_ < w.heap.size) _ _ _ w0 _ (bw HB) hR1_2).mono ?_); rintro e wz2 ⟨he_, hb, hi⟩; rw [← laws_markValSS.mk_sh hm1_2] at he_; subst he_; replace HB := am hb; replace HI := am ((iw HI : Ish w _ (fun k_ => P0_1_ k_ ∨ P0_2_ k_)).trans hi (fun k_ _ h_ => (.inr h_.1))); replace BK1 := am (Ish.box hi (bp BK1) (fun h_ => absurd (Nat.lt_of_lt_of_le h_.2 GW1.out) (Nat.lt_irrefl _))); clear hb hi; (try clear hR1_2); (try clear hm1_2 e1_2); (try clear hcz1); (try clear hfz1)))
 go_ret
 exact ⟨by first | rfl | (simp; done) | (simp [*]; done), bw HB, iw HI⟩
def laws_markAsm.f (a0_0 : Int) (l0_1 : List (S50)) (l0_2 : List (List (S55))) (a1 : Int) : Option Int := some (laws_markAsm.mk a1 l0_1 l0_2)
theorem laws_markAsm.calls (a0_0 : Int) (P0_1_ : Nat → Prop) (u9000_ : Value) (l0_1 : List (S50)) (P0_2_ : Nat → Prop) (u9001_ : Value) (l0_2 : List (List (S55))) (a1 : Int) (r1 : Int) (w0 w : World) (hB : Below w0.heap.size w0 w) (ho0_1 : Kd.R k50 50 w w0.heap.size P0_1_ u9000_ l0_1) (ho0_2 : Kd.R (Kd.slice 55 k55) 47 w w0.heap.size P0_2_ u9001_ l0_2) (h : laws_markAsm.f a0_0 l0_1 l0_2 a1 = some r1) :
  Calls Try.prog 11 #[.agg #[.int .i64 a0_0, u9000_, u9001_], .int .i64 a1] w fun e w' => e = .returned (.int .i64 r1) ∧ Below w0.heap.size w0 w' ∧ Kept w w' (fun k_ => P0_1_ k_ ∨ P0_2_ k_) := by
 have e : laws_markAsm.mk a1 l0_1 l0_2 = r1 := Option.some.inj h
 subst e
 exact (laws_markAsm.ish a0_0 P0_1_ u9000_ l0_1 P0_2_ u9001_ l0_2 a1 w0 w hB ho0_1 ho0_2).mono fun e w' hq => ⟨hq.1, hq.2.1, hq.2.2.kept⟩

def laws_heldMovS.l0 : Nat → List (S108) → Int → Int → Option (Int)
 | 0, _, _, _ => none
 | k + 1, x0, x1, x5 => if x5 < (x0.length : Int) then (if 0 ≤ x5 then (if ((rd_T108 x0 x5).f0) = x1 then (if ((rd_T108 x0 x5).f1.f0) = (wrap64 (x1 + 1)) then (if ((rd_T108 x0 x5).f1.f1) = (wrap64 ((wrap64 (x1 + 1)) + 1)) then (laws_heldMovS.l0 k x0 (wrap64 ((wrap64 ((wrap64 (x1 + 1)) + 1)) + 1)) (wrap64 (x5 + 1))) else (some (-1))) else (some (-1))) else (some (-1))) else (none)) else (some x1)
def laws_heldMovS.f (k : Nat) (l0 : List (S108)) (a1 : Int) : Option (Int) := laws_heldMovS.l0 k l0 a1 0
theorem laws_heldMovS.mono_l : ∀ k, (∀ y0 y1 y2, LeO (laws_heldMovS.l0 k y0 y1 y2) (laws_heldMovS.l0 (k + 1) y0 y1 y2))
 | 0 => fun _ _ _ r h => by simp [laws_heldMovS.l0] at h
 | k + 1 => by
  have ih0 := laws_heldMovS.mono_l k
  ·intro y0 y1 y2
   unfold laws_heldMovS.l0
   with_reducible repeat' first | exact ih0 .. | exact LeO.refl _ | exact LeO.none _ | refine LeO.ite ?_ ?_ | refine LeO.bind ?_ (fun _ => ?_)
theorem laws_heldMovS.mono : ∀ a0 a1 k, LeO (laws_heldMovS.f k a0 a1) (laws_heldMovS.f (k + 1) a0 a1) := by
 intro a0 a1 k
 have ih0 := laws_heldMovS.mono_l k
 unfold laws_heldMovS.f
 with_reducible repeat' first | exact ih0 .. | exact LeO.refl _ | exact LeO.none _ | refine LeO.ite ?_ ?_ | refine LeO.bind ?_ (fun _ => ?_)
theorem laws_heldMovS.calls (k : Nat) (A0 : Option Addr) (c0 : Nat) (l0 : List (S108)) (a1 : Int) (r : Int) (w : World) (hr0 : Kd.C k108 w A0 l0.length l0) (hc0 : l0.length ≤ c0) (h : laws_heldMovS.f k l0 a1 = some r) :
  Calls Try.prog 54 #[.slice A0 l0.length c0, .int .i64 a1] w fun e w' => e = .returned (.int .i64 r) ∧ Drawn0 w w' := by
 have HR0 := am hr0
 have HC0 := am hc0
 clear hr0 hc0
 have H : (laws_heldMovS.l0 k l0 a1 0) = some r := h
 clear h
 have H' := am H
 clear H
 go_enter Try.func54, Try.ntmps54
 go_wp2
 go_loopg [1, 5] k (fun kq v1 v5 w' => ∃ (x1_1 : Int) (x5_1 : Int), v1 = .int .i64 x1_1 ∧ v5 = .int .i64 x5_1 ∧ Aside0 (laws_heldMovS.l0 kq l0 x1_1 x5_1 = some r) ∧ Aside0 (kq ≤ k) ∧ Drawn0 w w')
 case atStart => exact ⟨(a1), (0), dr, dr, H', ⟨Nat.le_refl _⟩, by repeat (first | exact Drawn0.refl _ | apply Drawn0.step)⟩
 clear H'
 try clear p2
 obtain ⟨x1_1, x5_1, rfl, rfl, HA, HK1, ⟨m1, rfl⟩⟩ := hrel
 rcases gk with _ | k1
 ·exact absurd HA.out (by simp [laws_heldMovS.l0])
 have H := HA.out
 clear HA
 simp only [laws_heldMovS.l0] at H
 refine qI H ?_ ?_ <;> clear H <;> intro c3b0 H
 ·refine iM H ?_; clear H; intro c4b0 H
  refine qE H ?_ ?_ <;> clear H
  ·intro c5b0 c5b1 H
   refine qE H ?_ ?_ <;> clear H
   ·intro c6b0 c6b1 H
    refine qE H ?_ ?_ <;> clear H
    ·intro c7b0 c7b1 H
     have H' := am H
     clear H
     have p572 : 0 ≤ (x5_1 : Int) := of_decide_eq_true as1
     have q572 : x5_1 < (l0.length : Int) := of_decide_eq_true as1
     obtain ⟨ad572, e572, hx572_0, hx572_1, hx572_2⟩ := at_T108 HR0.out x5_1 p572 q572
     cases e572
     replace p572 := eq_true p572
     replace q572 := eq_true q572
     have p573 : 0 ≤ (x5_1 : Int) := of_decide_eq_true as1
     have q573 : x5_1 < (l0.length : Int) := of_decide_eq_true as1
     obtain ⟨ad573, e573, hx573_0, hx573_1, hx573_2⟩ := at_T108 HR0.out x5_1 p573 q573
     obtain rfl : ad572 = ad573 := (by injection e573)
     replace p573 := eq_true p573
     replace q573 := eq_true q573
     have p574 : 0 ≤ (x5_1 : Int) := of_decide_eq_true as1
     have q574 : x5_1 < (l0.length : Int) := of_decide_eq_true as1
     obtain ⟨ad574, e574, hx574_0, hx574_1, hx574_2⟩ := at_T108 HR0.out x5_1 p574 q574
     obtain rfl : ad572 = ad574 := (by injection e574)
     replace p574 := eq_true p574
     replace q574 := eq_true q574
     go_wp2
     go_roundg k1
     case measure => have := HK1.out; omega
     case rel => exact ⟨(wrap64 ((wrap64 ((wrap64 (x1_1 + 1)) + 1)) + 1)), (wrap64 (x5_1 + 1)), dr, dr, H', ⟨by have := HK1.out; omega⟩, by repeat (first | exact Drawn0.refl _ | apply Drawn0.step)⟩
    intro c7 c7b0 c7b1 H
    obtain rfl := Option.some.inj H
    have p572 : 0 ≤ (x5_1 : Int) := of_decide_eq_true as1
    have q572 : x5_1 < (l0.length : Int) := of_decide_eq_true as1
    obtain ⟨ad572, e572, hx572_0, hx572_1, hx572_2⟩ := at_T108 HR0.out x5_1 p572 q572
    cases e572
    replace p572 := eq_true p572
    replace q572 := eq_true q572
    have p573 : 0 ≤ (x5_1 : Int) := of_decide_eq_true as1
    have q573 : x5_1 < (l0.length : Int) := of_decide_eq_true as1
    obtain ⟨ad573, e573, hx573_0, hx573_1, hx573_2⟩ := at_T108 HR0.out x5_1 p573 q573
    obtain rfl : ad572 = ad573 := (by injection e573)
    replace p573 := eq_true p573
    replace q573 := eq_true q573
    have p574 : 0 ≤ (x5_1 : Int) := of_decide_eq_true as1
    have q574 : x5_1 < (l0.length : Int) := of_decide_eq_true as1
    obtain ⟨ad574, e574, hx574_0, hx574_1, hx574_2⟩ := at_T108 HR0.out x5_1 p574 q574
    obtain rfl : ad572 = ad574 := (by injection e574)
    replace p574 := eq_true p574
    replace q574 := eq_true q574
    go_wp2
    go_ret
    exact ⟨by first | rfl | (simp; done) | (simp [*]; done), by repeat (first | exact Drawn0.refl _ | apply Drawn0.step)⟩
   intro c6 c6b0 c6b1 H
   obtain rfl := Option.some.inj H
   have p572 : 0 ≤ (x5_1 : Int) := of_decide_eq_true as1
   have q572 : x5_1 < (l0.length : Int) := of_decide_eq_true as1
   obtain ⟨ad572, e572, hx572_0, hx572_1, hx572_2⟩ := at_T108 HR0.out x5_1 p572 q572
   cases e572
   replace p572 := eq_true p572
   replace q572 := eq_true q572
   have p573 : 0 ≤ (x5_1 : Int) := of_decide_eq_true as1
   have q573 : x5_1 < (l0.length : Int) := of_decide_eq_true as1
   obtain ⟨ad573, e573, hx573_0, hx573_1, hx573_2⟩ := at_T108 HR0.out x5_1 p573 q573
   obtain rfl : ad572 = ad573 := (by injection e573)
   replace p573 := eq_true p573
   replace q573 := eq_true q573
   go_wp2
   go_ret
   exact ⟨by first | rfl | (simp; done) | (simp [*]; done), by repeat (first | exact Drawn0.refl _ | apply Drawn0.step)⟩
  intro c5 c5b0 c5b1 H
  obtain rfl := Option.some.inj H
  have p572 : 0 ≤ (x5_1 : Int) := of_decide_eq_true as1
  have q572 : x5_1 < (l0.length : Int) := of_decide_eq_true as1
  obtain ⟨ad572, e572, hx572_0, hx572_1, hx572_2⟩ := at_T108 HR0.out x5_1 p572 q572
  cases e572
  replace p572 := eq_true p572
  replace q572 := eq_true q572
  go_wp2
  go_ret
  exact ⟨by first | rfl | (simp; done) | (simp [*]; done), by repeat (first | exact Drawn0.refl _ | apply Drawn0.step)⟩
 obtain rfl := Option.some.inj H
 go_wp2
 go_ret
 exact ⟨by first | rfl | (simp; done) | (simp [*]; done), by repeat (first | exact Drawn0.refl _ | apply Drawn0.step)⟩

end Go.Proofs.Ytcdohkilplgmjaa.QFnExactPlain
