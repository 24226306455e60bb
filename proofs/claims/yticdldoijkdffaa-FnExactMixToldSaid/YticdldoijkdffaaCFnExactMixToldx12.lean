import Derived.Test.YticdldoijkdffaaCFnExactMixToldx0
import Derived.Test.YticdldoijkdffaaCFnExactMixToldx11
namespace Go.Proofs.Yticdldoijkdffaa.QFnExactMixTold
open Go.RowKit Go.Proofs.YticdldoijkdffaaW
open PrintWords PrintLast PrintMore PrintShort PrintIsh
attribute [local go_sem] max2_int min2_int max_two min_two max_three min_three max_four min_four   -- for this text's walks alone
set_option linter.unusedVariables false
set_option maxHeartbeats 8000000
set_option maxRecDepth 100000
set_option linter.unusedSimpArgs false

def sh73 (x y : S73) : Prop := (fun _ _ => True) x.f0 y.f0 ∧ (All2 sh94) x.f1 y.f1 ∧ (All2 (All2 sh107)) x.f2 y.f2
theorem twn73 : Twn k73 sh73 := twn_iso (twn_pair (twn_int .i64) (twn_pair (twn_slice twn94 94) (twn_slice (twn_slice twn107 107) 92))) (fun x : S73 => (x.f0, x.f1, x.f2)) (fun a => (⟨a.1, a.2.1, a.2.2⟩ : S73)) (fun _ => rfl)
def laws_markAsmS.g (k : Int) (x : S73) : Int := (laws_markValSS.mk (laws_markAsmInsS.mk (wrap64 (k + 1)) x.f1) x.f2)
theorem laws_markAsmS.g_sh {k : Int} {x y : S73} (h : sh73 x y) : laws_markAsmS.g k x = laws_markAsmS.g k y := by
 unfold laws_markAsmS.g
 rw [laws_markValSS.mk_sh (show All2 _ _ _ from h.2.2), laws_markAsmInsS.mk_sh (show All2 _ _ _ from h.2.1)]
def laws_markAsmS.mk (k : Int) (l : List (S73)) : Int := l.foldl laws_markAsmS.g k
theorem laws_markAsmS.mk_sh {k : Int} {xs ys : List (S73)} (h : All2 sh73 xs ys) : laws_markAsmS.mk k xs = laws_markAsmS.mk k ys := fold_sh (g := laws_markAsmS.g) (sh := sh73) (fun _ _ _ h => laws_markAsmS.g_sh h) k h
theorem laws_markAsmS.ish (P0_ : Nat → Prop) (u : Value) (l0 : List (S73)) (a1 : Int) (w0 w : World) (hB : Below w0.heap.size w0 w) (ho0 : Kd.R k73 73 w w0.heap.size P0_ u l0) :
  Calls Try.prog 28 #[u, .int .i64 a1] w fun e w' => e = .returned (.int .i64 (laws_markAsmS.mk a1 l0)) ∧ Below w0.heap.size w0 w' ∧ Ish w w' P0_ := by
 have HB := am hB
 have HI := am (Ish.refl w P0_)
 have HO := am ho0
 have hln : l0.length ≤ 9223372036854775807 := by obtain ⟨_, _, rfl⟩ := Kd.R_slice ho0; exact (Kd.R_reads' ho0).2.2.2.1
 clear hB
 obtain ⟨Aa, ca, rfl⟩ := Kd.R_slice ho0
 clear ho0
 go_enter Try.func28, Try.ntmps28
 go_wp2
 go_loopg [1, 5] (l0.length + 1) (fun kq v1 v5 w' => ∃ (x1_1 : Int) (x5_1 : Int), v1 = .int .i64 x1_1 ∧ v5 = .int .i64 x5_1 ∧ Aside0 (kq + x5_1.toNat = l0.length + 1 ∧ 0 ≤ x5_1 ∧ x5_1 ≤ l0.length) ∧ Aside0 (laws_markAsmS.mk x1_1 (l0.drop x5_1.toNat) = laws_markAsmS.mk a1 l0) ∧ Aside0 (Ish w w' P0_) ∧ Aside0 (Below w0.heap.size w0 w'))
 case atStart => exact ⟨a1, 0, dr, dr, ⟨by simp, by omega, by omega⟩, ⟨rfl⟩, ⟨iw HI⟩, ⟨bw HB⟩⟩
 obtain ⟨x1_1, x5_1, rfl, rfl, HA, HV, HI, HB⟩ := hrel
 by_cases c3 : x5_1 < (l0.length : Int)
 ·have c3b0 := decide_eq_true c3
  obtain ⟨k1, rfl⟩ : ∃ k1, gk = k1 + 1 := ⟨gk - 1, by have := HA.out; omega⟩
  obtain ⟨la, hsa, hRa⟩ := R_twn twn73 HI.out HO.out
  have hla := hsa.1
  obtain ⟨go5, co5, eo5, gb5, gl5, cl5, HG5⟩ := Kd.R_form hRa (by have h00 := HA.out.2.1; omega)
  (first | cases eo5 | (injection eo5 with ea_ en_ ec_; (first | subst ea_ | (injection ea_ with ea_; subst ea_)); subst ec_; clear en_))
  have GB5 := am gb5
  have GP5 := am (show P0_ go5 from HO.out.1 _ rfl)
  clear gb5 gl5 HG5 hRa hsa
  have p5 : 0 ≤ x5_1 := HA.out.2.1
  have q5 := c3
  replace p5 := eq_true p5
  replace q5 := eq_true q5
  clear c3
  obtain ⟨l1, hs0, hR0⟩ := R_twn twn73 HI.out HO.out
  obtain ⟨ce0, hcl0, hM0, hcc0, hfr0⟩ := Kd.R_elem hR0 z73 x5_1 (of_eq_true p5) (of_eq_true q5)
  obtain ⟨v0_1, v0_2, rfl, hr0_1, hr0_2⟩ := k73_openM hM0
  have hx0 : wr.cell? ⟨go5, x5_1.toNat * 3, none⟩ = some _ := (hcc0 0 _ rfl)
  have hf0 : wr.frozen? ⟨go5, x5_1.toNat * 3, none⟩ = false := (hfr0 0)
  (try clear hM0)
  (try clear hfr0)
  (try clear hcc0)
  (try clear hcl0)
  (try clear hs0)
  (try clear hR0)
  (try clear hr0_1)
  (try clear hr0_2)
  go_wp2_with (first | ((with_reducible refine gt 2 16 rfl ?_); refine sE 2 16 (wr.setCell ⟨go5, x5_1.toNat * 3, none⟩ (.int .i64 x1_1)) ?_; intro wq0 hw; replace HI := am (show Ish w wq0 P0_ by rw [hw]; exact HI.out.set hx0 (twin.ofInt _ _ _) (fun _ => GP5.out)); replace HB := am ((by rw [hw]; exact below_set (HB.out) GB5.out : Below w0.heap.size w0 wq0)); clear hw; clear hx0; clear hf0; obtain ⟨l2, hs1, hR1⟩ := R_twn twn73 HI.out HO.out; obtain ⟨ce1, hcl1, hM1, hcc1, hfr1⟩ := Kd.R_elem hR1 z73 x5_1 (of_eq_true p5) (of_eq_true q5); obtain ⟨v1_1, v1_2, rfl, hr1_1, hr1_2⟩ := k73_openM hM1; obtain ⟨A1, c1, rfl⟩ := Kd.R_slice hr1_1; have hx1 : wq0.cell? ⟨go5, x5_1.toNat * 3 + 1, none⟩ = some _ := (hcc1 1 _ rfl); have HR1 := am hr1_1; have HS1 := am hs1; (try clear hM1); (try clear hfr1); (try clear hcc1); (try clear hcl1); (try clear hs1); (try clear hR1); (try clear hr1_1); (try clear hr1_2)) | (go_at_call 45; (refine (laws_markAsmInsS.ish _ _ _ _ _ _ (bw HB) HR1.out).mono ?_); rintro e wq1 ⟨rfl, hb, hi⟩; replace HB := am hb; replace HI := am (HI.out.trans hi (fun b _ h_ => h_.1)); clear hb hi; clear hx1 HR1; obtain ⟨l3, hs2, hR2⟩ := R_twn twn73 HI.out HO.out; obtain ⟨ce2, hcl2, hM2, hcc2, hfr2⟩ := Kd.R_elem hR2 z73 x5_1 (of_eq_true p5) (of_eq_true q5); obtain ⟨v2_1, v2_2, rfl, hr2_1, hr2_2⟩ := k73_openM hM2; obtain ⟨A2, c2, rfl⟩ := Kd.R_slice hr2_2; have hx2 : wq1.cell? ⟨go5, x5_1.toNat * 3 + 2, none⟩ = some _ := (hcc2 2 _ rfl); have HR2 := am hr2_2; have HS2 := am hs2; (try clear hM2); (try clear hfr2); (try clear hcc2); (try clear hcl2); (try clear hs2); (try clear hR2); (try clear hr2_1); (try clear hr2_2)) | (go_at_call 46; (refine (laws_markValSS.ish _ _ _ _ _ _ (bw HB) HR2.out).mono ?_); rintro e wq2 ⟨rfl, hb, hi⟩; replace HB := am hb; replace HI := am (HI.out.trans hi (fun b _ h_ => h_.1)); clear hb hi; clear hx2 HR2))
  go_roundg k1
  case measure => omega
  case rel =>
   have h1 := HA.out
   have hq : x5_1 < (l0.length : Int) := of_eq_true q5
   have hw1 : wrap64 (x5_1 + 1) = x5_1 + 1 := by unfold wrap64; omega
   have hlt : x5_1.toNat < l0.length := by omega
   have hsh1 := HS1.out.2 x5_1.toNat l0[x5_1.toNat] (l2.getD x5_1.toNat z73) (List.getElem?_eq_getElem hlt) (by rw [List.getD_eq_getElem?_getD, List.getElem?_eq_getElem (by have := HS1.out.1; omega)]; rfl)
   have hsh2 := HS2.out.2 x5_1.toNat l0[x5_1.toNat] (l3.getD x5_1.toNat z73) (List.getElem?_eq_getElem hlt) (by rw [List.getD_eq_getElem?_getD, List.getElem?_eq_getElem (by have := HS2.out.1; omega)]; rfl)
   refine ⟨(laws_markValSS.mk (laws_markAsmInsS.mk (wrap64 (x1_1 + 1)) (l2.getD x5_1.toNat z73).f1) (l3.getD x5_1.toNat z73).f2), wrap64 (x5_1 + 1), dr, dr, ⟨by omega, by omega, by omega⟩, ⟨?_⟩, ⟨iw HI⟩, ⟨bw HB⟩⟩
   have h2 := HV.out
   rw [List.drop_eq_getElem_cons hlt] at h2
   rw [hw1, show (x5_1 + 1).toNat = x5_1.toNat + 1 by omega]
   rw [← laws_markValSS.mk_sh (show All2 _ _ _ from hsh2.2.2), ← laws_markAsmInsS.mk_sh (show All2 _ _ _ from hsh1.2.1)]
   exact h2
 have c3b0 := decide_eq_false c3
 have hv := HV.out
 have h1 := HA.out
 rw [List.drop_of_length_le (by omega)] at hv
 have hv : x1_1 = laws_markAsmS.mk a1 l0 := hv
 clear c3
 go_wp2
 go_ret
 exact ⟨by first | rfl | (simp; done) | (simp [*]; done), bw HB, iw HI⟩
def laws_markAsmS.f (l0 : List (S73)) (a1 : Int) : Option Int := some (laws_markAsmS.mk a1 l0)
theorem laws_markAsmS.calls (P0_ : Nat → Prop) (u9000_ : Value) (l0 : List (S73)) (a1 : Int) (r1 : Int) (w0 w : World) (hB : Below w0.heap.size w0 w) (ho0 : Kd.R k73 73 w w0.heap.size P0_ u9000_ l0) (h : laws_markAsmS.f l0 a1 = some r1) :
  Calls Try.prog 28 #[u9000_, .int .i64 a1] w fun e w' => e = .returned (.int .i64 r1) ∧ Below w0.heap.size w0 w' ∧ Kept w w' (fun k_ => P0_ k_) := by
 have e : laws_markAsmS.mk a1 l0 = r1 := Option.some.inj h
 subst e
 exact (laws_markAsmS.ish P0_ u9000_ l0 a1 w0 w hB ho0).mono fun e w' hq => ⟨hq.1, hq.2.1, hq.2.2.kept⟩

def laws_markInt64S.g (k : Int) (x : Int) : Int := (wrap64 (k + 1))
theorem laws_markInt64S.g_sh {k : Int} {x y : Int} (h : (fun _ _ => True) x y) : laws_markInt64S.g k x = laws_markInt64S.g k y := by
 unfold laws_markInt64S.g
 rfl
def laws_markInt64S.mk (k : Int) (l : List Int) : Int := l.foldl laws_markInt64S.g k
theorem laws_markInt64S.mk_sh {k : Int} {xs ys : List Int} (h : All2 (fun _ _ => True) xs ys) : laws_markInt64S.mk k xs = laws_markInt64S.mk k ys := fold_sh (g := laws_markInt64S.g) (sh := (fun _ _ => True)) (fun _ _ _ h => laws_markInt64S.g_sh h) k h
theorem laws_markInt64S.ish (P0_ : Nat → Prop) (u : Value) (l0 : List Int) (a1 : Int) (w0 w : World) (hB : Below w0.heap.size w0 w) (ho0 : Kd.R (Kd.int .i64) 2 w w0.heap.size P0_ u l0) :
  Calls Try.prog 31 #[u, .int .i64 a1] w fun e w' => e = .returned (.int .i64 (laws_markInt64S.mk a1 l0)) ∧ Below w0.heap.size w0 w' ∧ Ish w w' P0_ := by
 have HB := am hB
 have HI := am (Ish.refl w P0_)
 have HO := am ho0
 have hln : l0.length ≤ 9223372036854775807 := by obtain ⟨_, _, rfl⟩ := Kd.R_slice ho0; exact (Kd.R_reads' ho0).2.2.2.1
 clear hB
 obtain ⟨Aa, ca, rfl⟩ := Kd.R_slice ho0
 clear ho0
 go_enter Try.func31, Try.ntmps31
 go_wp2
 go_loopg [1, 5] (l0.length + 1) (fun kq v1 v5 w' => ∃ (x1_1 : Int) (x5_1 : Int), v1 = .int .i64 x1_1 ∧ v5 = .int .i64 x5_1 ∧ Aside0 (kq + x5_1.toNat = l0.length + 1 ∧ 0 ≤ x5_1 ∧ x5_1 ≤ l0.length) ∧ Aside0 (laws_markInt64S.mk x1_1 (l0.drop x5_1.toNat) = laws_markInt64S.mk a1 l0) ∧ Aside0 (Ish w w' P0_) ∧ Aside0 (Below w0.heap.size w0 w'))
 case atStart => exact ⟨a1, 0, dr, dr, ⟨by simp, by omega, by omega⟩, ⟨rfl⟩, ⟨iw HI⟩, ⟨bw HB⟩⟩
 obtain ⟨x1_1, x5_1, rfl, rfl, HA, HV, HI, HB⟩ := hrel
 by_cases c3 : x5_1 < (l0.length : Int)
 ·have c3b0 := decide_eq_true c3
  obtain ⟨k1, rfl⟩ : ∃ k1, gk = k1 + 1 := ⟨gk - 1, by have := HA.out; omega⟩
  obtain ⟨la, hsa, hRa⟩ := R_twn (twn_int .i64) HI.out HO.out
  have hla := hsa.1
  obtain ⟨go5, co5, eo5, gb5, gl5, cl5, HG5⟩ := Kd.R_form hRa (by have h00 := HA.out.2.1; omega)
  (first | cases eo5 | (injection eo5 with ea_ en_ ec_; (first | subst ea_ | (injection ea_ with ea_; subst ea_)); subst ec_; clear en_))
  have GB5 := am gb5
  have GP5 := am (show P0_ go5 from HO.out.1 _ rfl)
  clear gb5 gl5 HG5 hRa hsa
  have p5 : 0 ≤ x5_1 := HA.out.2.1
  have q5 := c3
  replace p5 := eq_true p5
  replace q5 := eq_true q5
  clear c3
  obtain ⟨l1, hs0, hR0⟩ := R_twn (twn_int .i64) HI.out HO.out
  obtain ⟨ce0, hcl0, hM0, hcc0, hfr0⟩ := Kd.R_elem hR0 0 x5_1 (of_eq_true p5) (of_eq_true q5)
  obtain rfl := hM0
  have hx0 : wr.cell? ⟨go5, x5_1.toNat, none⟩ = some _ := cell1 (hcc0 0 _ rfl)
  have hf0 : wr.frozen? ⟨go5, x5_1.toNat, none⟩ = false := froz1 (hfr0 0)
  (try clear hM0)
  (try clear hfr0)
  (try clear hcc0)
  (try clear hcl0)
  (try clear hs0)
  (try clear hR0)
  go_wp2_with (first | ((with_reducible refine gt 2 15 rfl ?_); refine sE 2 15 (wr.setCell ⟨go5, x5_1.toNat, none⟩ (.int .i64 x1_1)) ?_; intro wq0 hw; replace HI := am (show Ish w wq0 P0_ by rw [hw]; exact HI.out.set hx0 (twin.ofInt _ _ _) (fun _ => GP5.out)); replace HB := am ((by rw [hw]; exact below_set (HB.out) GB5.out : Below w0.heap.size w0 wq0)); clear hw; clear hx0; clear hf0))
  go_roundg k1
  case measure => omega
  case rel =>
   have h1 := HA.out
   have hq : x5_1 < (l0.length : Int) := of_eq_true q5
   have hw1 : wrap64 (x5_1 + 1) = x5_1 + 1 := by unfold wrap64; omega
   have hlt : x5_1.toNat < l0.length := by omega
   refine ⟨(wrap64 (x1_1 + 1)), wrap64 (x5_1 + 1), dr, dr, ⟨by omega, by omega, by omega⟩, ⟨?_⟩, ⟨iw HI⟩, ⟨bw HB⟩⟩
   have h2 := HV.out
   rw [List.drop_eq_getElem_cons hlt] at h2
   rw [hw1, show (x5_1 + 1).toNat = x5_1.toNat + 1 by omega]
   exact h2
 have c3b0 := decide_eq_false c3
 have hv := HV.out
 have h1 := HA.out
 rw [List.drop_of_length_le (by omega)] at hv
 have hv : x1_1 = laws_markInt64S.mk a1 l0 := hv
 clear c3
 go_wp2
 go_ret
 exact ⟨by first | rfl | (simp; done) | (simp [*]; done), bw HB, iw HI⟩
def laws_markInt64S.f (l0 : List Int) (a1 : Int) : Option Int := some (laws_markInt64S.mk a1 l0)
theorem laws_markInt64S.calls (P0_ : Nat → Prop) (u9000_ : Value) (l0 : List Int) (a1 : Int) (r1 : Int) (w0 w : World) (hB : Below w0.heap.size w0 w) (ho0 : Kd.R (Kd.int .i64) 2 w w0.heap.size P0_ u9000_ l0) (h : laws_markInt64S.f l0 a1 = some r1) :
  Calls Try.prog 31 #[u9000_, .int .i64 a1] w fun e w' => e = .returned (.int .i64 r1) ∧ Below w0.heap.size w0 w' ∧ Kept w w' (fun k_ => P0_ k_) := by
 have e : laws_markInt64S.mk a1 l0 = r1 := Option.some.inj h
 subst e
 exact (laws_markInt64S.ish P0_ u9000_ l0 a1 w0 w hB ho0).mono fun e w' hq => ⟨hq.1, hq.2.1, hq.2.2.kept⟩

def sh75 (x y : S75) : Prop := (fun _ _ => True) x.f0 y.f0 ∧ (fun _ _ => True) x.f1 y.f1 ∧ (fun _ _ => True) x.f2 y.f2 ∧ (All2 (fun _ _ => True)) x.f3 y.f3 ∧ (All2 (fun _ _ => True)) x.f4 y.f4 ∧ (All2 (fun _ _ => True)) x.f5 y.f5
theorem twn75 : Twn k75 sh75 := twn_iso (twn_pair twn_bool (twn_pair (twn_int .i64) (twn_pair (twn_int .i64) (twn_pair (twn_slice (twn_int .i64) 2) (twn_pair (twn_slice (twn_int .i64) 2) (twn_slice (twn_int .i64) 2)))))) (fun x : S75 => (x.f0, x.f1, x.f2, x.f3, x.f4, x.f5)) (fun a => (⟨a.1, a.2.1, a.2.2.1, a.2.2.2.1, a.2.2.2.2.1, a.2.2.2.2.2⟩ : S75)) (fun _ => rfl)
def laws_markMixFrameS.g (k : Int) (x : S75) : Int := (laws_markInt64S.mk (laws_markInt64S.mk (laws_markInt64S.mk (wrap64 ((wrap64 ((wrap64 (k + 1)) + 1)) + 1)) x.f3) x.f4) x.f5)
theorem laws_markMixFrameS.g_sh {k : Int} {x y : S75} (h : sh75 x y) : laws_markMixFrameS.g k x = laws_markMixFrameS.g k y := by
 unfold laws_markMixFrameS.g
 rw [laws_markInt64S.mk_sh (show All2 _ _ _ from h.2.2.2.2.2), laws_markInt64S.mk_sh (show All2 _ _ _ from h.2.2.2.2.1), laws_markInt64S.mk_sh (show All2 _ _ _ from h.2.2.2.1)]
def laws_markMixFrameS.mk (k : Int) (l : List (S75)) : Int := l.foldl laws_markMixFrameS.g k
theorem laws_markMixFrameS.mk_sh {k : Int} {xs ys : List (S75)} (h : All2 sh75 xs ys) : laws_markMixFrameS.mk k xs = laws_markMixFrameS.mk k ys := fold_sh (g := laws_markMixFrameS.g) (sh := sh75) (fun _ _ _ h => laws_markMixFrameS.g_sh h) k h
theorem laws_markMixFrameS.ish (P0_ : Nat → Prop) (u : Value) (l0 : List (S75)) (a1 : Int) (w0 w : World) (hB : Below w0.heap.size w0 w) (ho0 : Kd.R k75 75 w w0.heap.size P0_ u l0) :
  Calls Try.prog 29 #[u, .int .i64 a1] w fun e w' => e = .returned (.int .i64 (laws_markMixFrameS.mk a1 l0)) ∧ Below w0.heap.size w0 w' ∧ Ish w w' P0_ := by
 have HB := am hB
 have HI := am (Ish.refl w P0_)
 have HO := am ho0
 have hln : l0.length ≤ 9223372036854775807 := by obtain ⟨_, _, rfl⟩ := Kd.R_slice ho0; exact (Kd.R_reads' ho0).2.2.2.1
 clear hB
 obtain ⟨Aa, ca, rfl⟩ := Kd.R_slice ho0
 clear ho0
 go_enter Try.func29, Try.ntmps29
 go_wp2
 go_loopg [1, 5] (l0.length + 1) (fun kq v1 v5 w' => ∃ (x1_1 : Int) (x5_1 : Int), v1 = .int .i64 x1_1 ∧ v5 = .int .i64 x5_1 ∧ Aside0 (kq + x5_1.toNat = l0.length + 1 ∧ 0 ≤ x5_1 ∧ x5_1 ≤ l0.length) ∧ Aside0 (laws_markMixFrameS.mk x1_1 (l0.drop x5_1.toNat) = laws_markMixFrameS.mk a1 l0) ∧ Aside0 (Ish w w' P0_) ∧ Aside0 (Below w0.heap.size w0 w'))
 case atStart => exact ⟨a1, 0, dr, dr, ⟨by simp, by omega, by omega⟩, ⟨rfl⟩, ⟨iw HI⟩, ⟨bw HB⟩⟩
 obtain ⟨x1_1, x5_1, rfl, rfl, HA, HV, HI, HB⟩ := hrel
 by_cases c3 : x5_1 < (l0.length : Int)
 ·have c3b0 := decide_eq_true c3
  obtain ⟨k1, rfl⟩ : ∃ k1, gk = k1 + 1 := ⟨gk - 1, by have := HA.out; omega⟩
  obtain ⟨la, hsa, hRa⟩ := R_twn twn75 HI.out HO.out
  have hla := hsa.1
  obtain ⟨go5, co5, eo5, gb5, gl5, cl5, HG5⟩ := Kd.R_form hRa (by have h00 := HA.out.2.1; omega)
  (first | cases eo5 | (injection eo5 with ea_ en_ ec_; (first | subst ea_ | (injection ea_ with ea_; subst ea_)); subst ec_; clear en_))
  have GB5 := am gb5
  have GP5 := am (show P0_ go5 from HO.out.1 _ rfl)
  clear gb5 gl5 HG5 hRa hsa
  have p5 : 0 ≤ x5_1 := HA.out.2.1
  have q5 := c3
  replace p5 := eq_true p5
  replace q5 := eq_true q5
  clear c3
  obtain ⟨l1, hs0, hR0⟩ := R_twn twn75 HI.out HO.out
  obtain ⟨ce0, hcl0, hM0, hcc0, hfr0⟩ := Kd.R_elem hR0 z75 x5_1 (of_eq_true p5) (of_eq_true q5)
  obtain ⟨v0_3, v0_4, v0_5, rfl, hr0_3, hr0_4, hr0_5⟩ := k75_openM hM0
  have hx0 : wr.cell? ⟨go5, x5_1.toNat * 6, none⟩ = some _ := (hcc0 0 _ rfl)
  have hf0 : wr.frozen? ⟨go5, x5_1.toNat * 6, none⟩ = false := (hfr0 0)
  (try clear hM0)
  (try clear hfr0)
  (try clear hcc0)
  (try clear hcl0)
  (try clear hs0)
  (try clear hR0)
  (try clear hr0_3)
  (try clear hr0_4)
  (try clear hr0_5)
  go_wp2_with (first | ((with_reducible refine gt 4 18 rfl ?_); refine sE 4 18 (wr.setCell ⟨go5, x5_1.toNat * 6, none⟩ (.bool (decide (Int.tmod x1_1 3 = 0)))) ?_; intro wq0 hw; replace HI := am (show Ish w wq0 P0_ by rw [hw]; exact HI.out.set hx0 (twin.ofBool _ _) (fun _ => GP5.out)); replace HB := am ((by rw [hw]; exact below_set (HB.out) GB5.out : Below w0.heap.size w0 wq0)); clear hw; clear hx0; clear hf0; obtain ⟨l2, hs1, hR1⟩ := R_twn twn75 HI.out HO.out; obtain ⟨ce1, hcl1, hM1, hcc1, hfr1⟩ := Kd.R_elem hR1 z75 x5_1 (of_eq_true p5) (of_eq_true q5); obtain ⟨v1_3, v1_4, v1_5, rfl, hr1_3, hr1_4, hr1_5⟩ := k75_openM hM1; have hx1 : wq0.cell? ⟨go5, x5_1.toNat * 6 + 1, none⟩ = some _ := (hcc1 1 _ rfl); have hf1 : wq0.frozen? ⟨go5, x5_1.toNat * 6 + 1, none⟩ = false := (hfr1 1); (try clear hM1); (try clear hfr1); (try clear hcc1); (try clear hcl1); (try clear hs1); (try clear hR1); (try clear hr1_3); (try clear hr1_4); (try clear hr1_5)) | ((with_reducible refine gt 2 25 rfl ?_); refine sE 2 25 (wq0.setCell ⟨go5, x5_1.toNat * 6 + 1, none⟩ (.int .i64 (wrap64 (x1_1 + 1)))) ?_; intro wq1 hw; replace HI := am (show Ish w wq1 P0_ by rw [hw]; exact HI.out.set hx1 (twin.ofInt _ _ _) (fun _ => GP5.out)); replace HB := am ((by rw [hw]; exact below_set (HB.out) GB5.out : Below w0.heap.size w0 wq1)); clear hw; clear hx1; clear hf1; obtain ⟨l3, hs2, hR2⟩ := R_twn twn75 HI.out HO.out; obtain ⟨ce2, hcl2, hM2, hcc2, hfr2⟩ := Kd.R_elem hR2 z75 x5_1 (of_eq_true p5) (of_eq_true q5); obtain ⟨v2_3, v2_4, v2_5, rfl, hr2_3, hr2_4, hr2_5⟩ := k75_openM hM2; have hx2 : wq1.cell? ⟨go5, x5_1.toNat * 6 + 2, none⟩ = some _ := (hcc2 2 _ rfl); have hf2 : wq1.frozen? ⟨go5, x5_1.toNat * 6 + 2, none⟩ = false := (hfr2 2); (try clear hM2); (try clear hfr2); (try clear hcc2); (try clear hcl2); (try clear hs2); (try clear hR2); (try clear hr2_3); (try clear hr2_4); (try clear hr2_5)) | ((with_reducible refine gt 2 32 rfl ?_); refine sE 2 32 (wq1.setCell ⟨go5, x5_1.toNat * 6 + 2, none⟩ (.int .i64 (wrap64 ((wrap64 (x1_1 + 1)) + 1)))) ?_; intro wq2 hw; replace HI := am (show Ish w wq2 P0_ by rw [hw]; exact HI.out.set hx2 (twin.ofInt _ _ _) (fun _ => GP5.out)); replace HB := am ((by rw [hw]; exact below_set (HB.out) GB5.out : Below w0.heap.size w0 wq2)); clear hw; clear hx2; clear hf2; obtain ⟨l4, hs3, hR3⟩ := R_twn twn75 HI.out HO.out; obtain ⟨ce3, hcl3, hM3, hcc3, hfr3⟩ := Kd.R_elem hR3 z75 x5_1 (of_eq_true p5) (of_eq_true q5); obtain ⟨v3_3, v3_4, v3_5, rfl, hr3_3, hr3_4, hr3_5⟩ := k75_openM hM3; obtain ⟨A3, c3, rfl⟩ := Kd.R_slice hr3_3; have hx3 : wq2.cell? ⟨go5, x5_1.toNat * 6 + 3, none⟩ = some _ := (hcc3 3 _ rfl); have HR3 := am hr3_3; have HS3 := am hs3; (try clear hM3); (try clear hfr3); (try clear hcc3); (try clear hcl3); (try clear hs3); (try clear hR3); (try clear hr3_3); (try clear hr3_4); (try clear hr3_5)) | (go_at_call 31; (refine (laws_markInt64S.ish _ _ _ _ _ _ (bw HB) HR3.out).mono ?_); rintro e wq3 ⟨rfl, hb, hi⟩; replace HB := am hb; replace HI := am (HI.out.trans hi (fun b _ h_ => h_.1)); clear hb hi; clear hx3 HR3; obtain ⟨l5, hs4, hR4⟩ := R_twn twn75 HI.out HO.out; obtain ⟨ce4, hcl4, hM4, hcc4, hfr4⟩ := Kd.R_elem hR4 z75 x5_1 (of_eq_true p5) (of_eq_true q5); obtain ⟨v4_3, v4_4, v4_5, rfl, hr4_3, hr4_4, hr4_5⟩ := k75_openM hM4; obtain ⟨A4, c4, rfl⟩ := Kd.R_slice hr4_4; have hx4 : wq3.cell? ⟨go5, x5_1.toNat * 6 + 4, none⟩ = some _ := (hcc4 4 _ rfl); have HR4 := am hr4_4; have HS4 := am hs4; (try clear hM4); (try clear hfr4); (try clear hcc4); (try clear hcl4); (try clear hs4); (try clear hR4); (try clear hr4_3); (try clear hr4_4); (try clear hr4_5)) | (go_at_call 31; (refine (laws_markInt64S.ish _ _ _ _ _ _ (bw HB) HR4.out).mono ?_); rintro e wq4 ⟨rfl, hb, hi⟩; replace HB := am hb; replace HI := am (HI.out.trans hi (fun b _ h_ => h_.1)); clear hb hi; clear hx4 HR4; obtain ⟨l6, hs5, hR5⟩ := R_twn twn75 HI.out HO.out; obtain ⟨ce5, hcl5, hM5, hcc5, hfr5⟩ := Kd.R_elem hR5 z75 x5_1 (of_eq_true p5) (of_eq_true q5); obtain ⟨v5_3, v5_4, v5_5, rfl, hr5_3, hr5_4, hr5_5⟩ := k75_openM hM5; obtain ⟨A5, c5, rfl⟩ := Kd.R_slice hr5_5; have hx5 : wq4.cell? ⟨go5, x5_1.toNat * 6 + 5, none⟩ = some _ := (hcc5 5 _ rfl); have HR5 := am hr5_5; have HS5 := am hs5; (try clear hM5); (try clear hfr5); (try clear hcc5); (try clear hcl5); (try clear hs5); (try clear hR5); (try clear hr5_3); (try clear hr5_4); (try clear hr5_5)) | (go_at_call 31; (refine (laws_markInt64S.ish _ _ _ _ _ _ (bw HB) HR5.out).mono ?_); rintro e wq5 ⟨rfl, hb, hi⟩; replace HB := am hb; replace HI := am (HI.out.trans hi (fun b _ h_ => h_.1)); clear hb hi; clear hx5 HR5))
  go_roundg k1
  case measure => omega
  case rel =>
   have h1 := HA.out
   have hq : x5_1 < (l0.length : Int) := of_eq_true q5
   have hw1 : wrap64 (x5_1 + 1) = x5_1 + 1 := by unfold wrap64; omega
   have hlt : x5_1.toNat < l0.length := by omega
   have hsh3 := HS3.out.2 x5_1.toNat l0[x5_1.toNat] (l4.getD x5_1.toNat z75) (List.getElem?_eq_getElem hlt) (by rw [List.getD_eq_getElem?_getD, List.getElem?_eq_getElem (by have := HS3.out.1; omega)]; rfl)
   have hsh4 := HS4.out.2 x5_1.toNat l0[x5_1.toNat] (l5.getD x5_1.toNat z75) (List.getElem?_eq_getElem hlt) (by rw [List.getD_eq_getElem?_getD, List.getElem?_eq_getElem (by have := HS4.out.1; omega)]; rfl)
   have hsh5 := HS5.out.2 x5_1.toNat l0[x5_1.toNat] (l6.getD x5_1.toNat z75) (List.getElem?_eq_getElem hlt) (by rw [List.getD_eq_getElem?_getD, List.getElem?_eq_getElem (by have := HS5.out.1; omega)]; rfl)
   refine ⟨(laws_markInt64S.mk (laws_markInt64S.mk (laws_markInt64S.mk (wrap64 ((wrap64 ((wrap64 (x1_1 + 1)) + 1)) + 1)) (l4.getD x5_1.toNat z75).f3) (l5.getD x5_1.toNat z75).f4) (l6.getD x5_1.toNat z75).f5), wrap64 (x5_1 + 1), dr, dr, ⟨by omega, by omega, by omega⟩, ⟨?_⟩, ⟨iw HI⟩, ⟨bw HB⟩⟩
   have h2 := HV.out
   rw [List.drop_eq_getElem_cons hlt] at h2
   rw [hw1, show (x5_1 + 1).toNat = x5_1.toNat + 1 by omega]
   rw [← laws_markInt64S.mk_sh (show All2 _ _ _ from hsh5.2.2.2.2.2), ← laws_markInt64S.mk_sh (show All2 _ _ _ from hsh4.2.2.2.2.1), ← laws_markInt64S.mk_sh (show All2 _ _ _ from hsh3.2.2.2.1)]
   exact h2
 have c3b0 := decide_eq_false c3
 have hv := HV.out
 have h1 := HA.out
 rw [List.drop_of_length_le (by omega)] at hv
 have hv : x1_1 = laws_markMixFrameS.mk a1 l0 := hv
 clear c3
 go_wp2
 go_ret
 exact ⟨by first | rfl | (simp; done) | (simp [*]; done), bw HB, iw HI⟩
def laws_markMixFrameS.f (l0 : List (S75)) (a1 : Int) : Option Int := some (laws_markMixFrameS.mk a1 l0)
theorem laws_markMixFrameS.calls (P0_ : Nat → Prop) (u9000_ : Value) (l0 : List (S75)) (a1 : Int) (r1 : Int) (w0 w : World) (hB : Below w0.heap.size w0 w) (ho0 : Kd.R k75 75 w w0.heap.size P0_ u9000_ l0) (h : laws_markMixFrameS.f l0 a1 = some r1) :
  Calls Try.prog 29 #[u9000_, .int .i64 a1] w fun e w' => e = .returned (.int .i64 r1) ∧ Below w0.heap.size w0 w' ∧ Kept w w' (fun k_ => P0_ k_) := by
 have e : laws_markMixFrameS.mk a1 l0 = r1 := Option.some.inj h
 subst e
 exact (laws_markMixFrameS.ish P0_ u9000_ l0 a1 w0 w hB ho0).mono fun e w' hq => ⟨hq.1, hq.2.1, hq.2.2.kept⟩

def laws_markInt64SS.g (k : Int) (x : List Int) : Int := (laws_markInt64S.mk k x)
theorem laws_markInt64SS.g_sh {k : Int} {x y : List Int} (h : (All2 (fun _ _ => True)) x y) : laws_markInt64SS.g k x = laws_markInt64SS.g k y := by
 unfold laws_markInt64SS.g
 rw [laws_markInt64S.mk_sh (show All2 _ _ _ from h)]
def laws_markInt64SS.mk (k : Int) (l : List (List Int)) : Int := l.foldl laws_markInt64SS.g k
theorem laws_markInt64SS.mk_sh {k : Int} {xs ys : List (List Int)} (h : All2 (All2 (fun _ _ => True)) xs ys) : laws_markInt64SS.mk k xs = laws_markInt64SS.mk k ys := fold_sh (g := laws_markInt64SS.g) (sh := (All2 (fun _ _ => True))) (fun _ _ _ h => laws_markInt64SS.g_sh h) k h
theorem laws_markInt64SS.ish (P0_ : Nat → Prop) (u : Value) (l0 : List (List Int)) (a1 : Int) (w0 w : World) (hB : Below w0.heap.size w0 w) (ho0 : Kd.R (Kd.slice 2 (Kd.int .i64)) 25 w w0.heap.size P0_ u l0) :
  Calls Try.prog 30 #[u, .int .i64 a1] w fun e w' => e = .returned (.int .i64 (laws_markInt64SS.mk a1 l0)) ∧ Below w0.heap.size w0 w' ∧ Ish w w' P0_ := by
 have HB := am hB
 have HI := am (Ish.refl w P0_)
 have HO := am ho0
 have hln : l0.length ≤ 9223372036854775807 := by obtain ⟨_, _, rfl⟩ := Kd.R_slice ho0; exact (Kd.R_reads' ho0).2.2.2.1
 clear hB
 obtain ⟨Aa, ca, rfl⟩ := Kd.R_slice ho0
 clear ho0
 go_enter Try.func30, Try.ntmps30
 go_wp2
 go_loopg [1, 5] (l0.length + 1) (fun kq v1 v5 w' => ∃ (x1_1 : Int) (x5_1 : Int), v1 = .int .i64 x1_1 ∧ v5 = .int .i64 x5_1 ∧ Aside0 (kq + x5_1.toNat = l0.length + 1 ∧ 0 ≤ x5_1 ∧ x5_1 ≤ l0.length) ∧ Aside0 (laws_markInt64SS.mk x1_1 (l0.drop x5_1.toNat) = laws_markInt64SS.mk a1 l0) ∧ Aside0 (Ish w w' P0_) ∧ Aside0 (Below w0.heap.size w0 w'))
 case atStart => exact ⟨a1, 0, dr, dr, ⟨by simp, by omega, by omega⟩, ⟨rfl⟩, ⟨iw HI⟩, ⟨bw HB⟩⟩
 obtain ⟨x1_1, x5_1, rfl, rfl, HA, HV, HI, HB⟩ := hrel
 by_cases c3 : x5_1 < (l0.length : Int)
 ·have c3b0 := decide_eq_true c3
  obtain ⟨k1, rfl⟩ : ∃ k1, gk = k1 + 1 := ⟨gk - 1, by have := HA.out; omega⟩
  obtain ⟨la, hsa, hRa⟩ := R_twn (twn_slice (twn_int .i64) 2) HI.out HO.out
  have hla := hsa.1
  obtain ⟨go5, co5, eo5, gb5, gl5, cl5, HG5⟩ := Kd.R_form hRa (by have h00 := HA.out.2.1; omega)
  (first | cases eo5 | (injection eo5 with ea_ en_ ec_; (first | subst ea_ | (injection ea_ with ea_; subst ea_)); subst ec_; clear en_))
  have GB5 := am gb5
  have GP5 := am (show P0_ go5 from HO.out.1 _ rfl)
  clear gb5 gl5 HG5 hRa hsa
  have p5 : 0 ≤ x5_1 := HA.out.2.1
  have q5 := c3
  replace p5 := eq_true p5
  replace q5 := eq_true q5
  clear c3
  obtain ⟨l1, hs0, hR0⟩ := R_twn (twn_slice (twn_int .i64) 2) HI.out HO.out
  obtain ⟨ce0, hcl0, hM0, hcc0, hfr0⟩ := Kd.R_elem hR0 [] x5_1 (of_eq_true p5) (of_eq_true q5)
  obtain ⟨v0_0, rfl, hr0_0⟩ := hM0
  obtain ⟨A0, c0, rfl⟩ := Kd.R_slice hr0_0
  have hx0 : wr.cell? ⟨go5, x5_1.toNat, none⟩ = some _ := cell1 (hcc0 0 _ rfl)
  have HR0 := am hr0_0
  have HS0 := am hs0
  (try clear hM0)
  (try clear hfr0)
  (try clear hcc0)
  (try clear hcl0)
  (try clear hs0)
  (try clear hR0)
  (try clear hr0_0)
  go_wp2_with (first | (go_at_call 31; (refine (laws_markInt64S.ish _ _ _ _ _ _ (bw HB) HR0.out).mono ?_); rintro e wq0 ⟨rfl, hb, hi⟩; replace HB := am hb; replace HI := am (HI.out.trans hi (fun b _ h_ => h_.1)); clear hb hi; clear hx0 HR0))
  go_roundg k1
  case measure => omega
  case rel =>
   have h1 := HA.out
   have hq : x5_1 < (l0.length : Int) := of_eq_true q5
   have hw1 : wrap64 (x5_1 + 1) = x5_1 + 1 := by unfold wrap64; omega
   have hlt : x5_1.toNat < l0.length := by omega
   have hsh0 := HS0.out.2 x5_1.toNat l0[x5_1.toNat] (l1.getD x5_1.toNat []) (List.getElem?_eq_getElem hlt) (by rw [List.getD_eq_getElem?_getD, List.getElem?_eq_getElem (by have := HS0.out.1; omega)]; rfl)
   refine ⟨(laws_markInt64S.mk x1_1 (l1.getD x5_1.toNat [])), wrap64 (x5_1 + 1), dr, dr, ⟨by omega, by omega, by omega⟩, ⟨?_⟩, ⟨iw HI⟩, ⟨bw HB⟩⟩
   have h2 := HV.out
   rw [List.drop_eq_getElem_cons hlt] at h2
   rw [hw1, show (x5_1 + 1).toNat = x5_1.toNat + 1 by omega]
   rw [← laws_markInt64S.mk_sh (show All2 _ _ _ from hsh0)]
   exact h2
 have c3b0 := decide_eq_false c3
 have hv := HV.out
 have h1 := HA.out
 rw [List.drop_of_length_le (by omega)] at hv
 have hv : x1_1 = laws_markInt64SS.mk a1 l0 := hv
 clear c3
 go_wp2
 go_ret
 exact ⟨by first | rfl | (simp; done) | (simp [*]; done), bw HB, iw HI⟩
def laws_markInt64SS.f (l0 : List (List Int)) (a1 : Int) : Option Int := some (laws_markInt64SS.mk a1 l0)
theorem laws_markInt64SS.calls (P0_ : Nat → Prop) (u9000_ : Value) (l0 : List (List Int)) (a1 : Int) (r1 : Int) (w0 w : World) (hB : Below w0.heap.size w0 w) (ho0 : Kd.R (Kd.slice 2 (Kd.int .i64)) 25 w w0.heap.size P0_ u9000_ l0) (h : laws_markInt64SS.f l0 a1 = some r1) :
  Calls Try.prog 30 #[u9000_, .int .i64 a1] w fun e w' => e = .returned (.int .i64 r1) ∧ Below w0.heap.size w0 w' ∧ Kept w w' (fun k_ => P0_ k_) := by
 have e : laws_markInt64SS.mk a1 l0 = r1 := Option.some.inj h
 subst e
 exact (laws_markInt64SS.ish P0_ u9000_ l0 a1 w0 w hB ho0).mono fun e w' hq => ⟨hq.1, hq.2.1, hq.2.2.kept⟩

def laws_markMixed.mk (a1 : Int) (l0_0 : List (S73)) (l0_1 : List (S75)) (l0_2 : List (List Int)) (l0_3 : List Int) : Int := (laws_markInt64S.mk (laws_markInt64SS.mk (laws_markMixFrameS.mk (laws_markAsmS.mk a1 l0_0) l0_1) l0_2) l0_3)
theorem laws_markMixed.mk_sh {a1 : Int} {l0_0 m0_0 : List (S73)} {l0_1 m0_1 : List (S75)} {l0_2 m0_2 : List (List Int)} {l0_3 m0_3 : List Int} (h0_0 : All2 sh73 l0_0 m0_0) (h0_1 : All2 sh75 l0_1 m0_1) (h0_2 : All2 (All2 (fun _ _ => True)) l0_2 m0_2) (h0_3 : All2 (fun _ _ => True) l0_3 m0_3) : laws_markMixed.mk a1 l0_0 l0_1 l0_2 l0_3 = laws_markMixed.mk a1 m0_0 m0_1 m0_2 m0_3 := by
 unfold laws_markMixed.mk
 rw [laws_markAsmS.mk_sh h0_0, laws_markMixFrameS.mk_sh h0_1, laws_markInt64SS.mk_sh h0_2, laws_markInt64S.mk_sh h0_3]
theorem laws_markMixed.ish (P0_0_ : Nat → Prop) (u0_0 : Value) (l0_0 : List (S73)) (P0_1_ : Nat → Prop) (u0_1 : Value) (l0_1 : List (S75)) (P0_2_ : Nat → Prop) (u0_2 : Value) (l0_2 : List (List Int)) (P0_3_ : Nat → Prop) (u0_3 : Value) (l0_3 : List Int) (a0_4 : Int) (a0_5 : Bool) (a0_6 : Int) (a0_7 : Int) (a1 : Int) (w0 w : World) (hB : Below w0.heap.size w0 w) (ho0_0 : Kd.R k73 73 w w0.heap.size P0_0_ u0_0 l0_0) (ho0_1 : Kd.R k75 75 w w0.heap.size P0_1_ u0_1 l0_1) (ho0_2 : Kd.R (Kd.slice 2 (Kd.int .i64)) 25 w w0.heap.size P0_2_ u0_2 l0_2) (ho0_3 : Kd.R (Kd.int .i64) 2 w w0.heap.size P0_3_ u0_3 l0_3) :
  Calls Try.prog 10 #[.agg #[u0_0, u0_1, u0_2, u0_3, .int .i64 a0_4, .bool a0_5, .int .i64 a0_6, .int .i64 a0_7], .int .i64 a1] w fun e w' => e = .returned (.int .i64 (laws_markMixed.mk a1 l0_0 l0_1 l0_2 l0_3)) ∧ Below w0.heap.size w0 w' ∧ Ish w w' (fun k_ => P0_0_ k_ ∨ P0_1_ k_ ∨ P0_2_ k_ ∨ P0_3_ k_) := by
 have hu36 := Try.underlying36
 have HB := am hB
 have HI := am (Ish.refl w (fun k_ => P0_0_ k_ ∨ P0_1_ k_ ∨ P0_2_ k_ ∨ P0_3_ k_))
 have HS := am hB.size
 clear hB
 obtain ⟨A0_0, c0_0, rfl⟩ := Kd.R_slice ho0_0
 have HO0_0 := am (R_in ho0_0)
 clear ho0_0
 obtain ⟨A0_1, c0_1, rfl⟩ := Kd.R_slice ho0_1
 have HO0_1 := am (R_in ho0_1)
 clear ho0_1
 obtain ⟨A0_2, c0_2, rfl⟩ := Kd.R_slice ho0_2
 have HO0_2 := am (R_in ho0_2)
 clear ho0_2
 obtain ⟨A0_3, c0_3, rfl⟩ := Kd.R_slice ho0_3
 have HO0_3 := am (R_in ho0_3)
 clear ho0_3
 go_enter Try.func10, Try.ntmps10
 go_wp2_with (first | ((with_reducible refine gd 2 rfl ?_); refine bx 2 #[.slice A0_0 l0_0.length c0_0, .slice A0_1 l0_1.length c0_1, .slice A0_2 l0_2.length c0_2, .slice A0_3 l0_3.length c0_3, .int .i64 a0_4, .bool a0_5, .int .i64 a0_6, .int .i64 a0_7] 36 ?_; intro gb1 hg wz0 hbox hb; replace HB := bs HB hb; have BK1 := am hbox; have GW1 := am (show w.heap.size ≤ gb1 by rw [hg]; exact (iw HI : Ish w _ _).size); replace HI := am (Ish.below (iw HI) hb); clear hb hbox hg; have hcz0_0 := bk wz0 BK1 0; have hcz0_1 := bk wz0 BK1 1; have hcz0_2 := bk wz0 BK1 2; have hcz0_3 := bk wz0 BK1 3; have hcz0_4 := bk wz0 BK1 4; have hcz0_5 := bk wz0 BK1 5; have hcz0_6 := bk wz0 BK1 6; have hcz0_7 := bk wz0 BK1 7; have hfz0_0 := bf BK1 0; have hfz0_1 := bf BK1 1; have hfz0_2 := bf BK1 2; have hfz0_3 := bf BK1 3; have hfz0_4 := bf BK1 4; have hfz0_5 := bf BK1 5; have hfz0_6 := bf BK1 6; have hfz0_7 := bf BK1 7) | (go_at_call 28; obtain ⟨m0_0, hm0_0, hR0_0⟩ := R_twn twn73 (iw HI : Ish w _ _) HO0_0.out; have e0_0 := hm0_0.1; (refine (laws_markAsmS.ish (fun k_ => P0_0_ k_ ∧ k_ < w.heap.size) _ _ _ w0 _ (bw HB) hR0_0).mono ?_); rintro e wz1 ⟨he_, hb, hi⟩; rw [← laws_markAsmS.mk_sh hm0_0] at he_; subst he_; replace HB := am hb; replace HI := am ((iw HI : Ish w _ (fun k_ => P0_0_ k_ ∨ P0_1_ k_ ∨ P0_2_ k_ ∨ P0_3_ k_)).trans hi (fun k_ _ h_ => (.inl h_.1))); replace BK1 := am (Ish.box hi (bp BK1) (fun h_ => absurd (Nat.lt_of_lt_of_le h_.2 GW1.out) (Nat.lt_irrefl _))); clear hb hi; (try clear hR0_0); (try clear hm0_0 e0_0); (try clear hcz0_0); (try clear hcz0_1); (try clear hcz0_2); (try clear hcz0_3); (try clear hcz0_4); (try clear hcz0_5); (try clear hcz0_6); (try clear hcz0_7); (try clear hfz0_0); (try clear hfz0_1); (try clear hfz0_2); (try clear hfz0_3); (try clear hfz0_4); (try clear hfz0_5); (try clear hfz0_6); (try clear hfz0_7); have hcz1_0 := bk wz1 BK1 0; have hcz1_1 := bk wz1 BK1 1; have hcz1_2 := bk wz1 BK1 2; have hcz1_3 := bk wz1 BK1 3; have hcz1_4 := bk wz1 BK1 4; have hcz1_5 := bk wz1 BK1 5; have hcz1_6 := bk wz1 BK1 6; have hcz1_7 := bk wz1 BK1 7; have hfz1_0 := bf BK1 0; have hfz1_1 := bf BK1 1; have hfz1_2 := bf BK1 2; have hfz1_3 := bf BK1 3; have hfz1_4 := bf BK1 4; have hfz1_5 := bf BK1 5; have hfz1_6 := bf BK1 6; have hfz1_7 := bf BK1 7) | (go_at_call 29; obtain ⟨m1_1, hm1_1, hR1_1⟩ := R_twn twn75 (iw HI : Ish w _ _) HO0_1.out; have e1_1 := hm1_1.1; (refine (laws_markMixFrameS.ish (fun k_ => P0_1_ k_ ∧ k_ < w.heap.size) _ _ _ w0 _ (bw HB) hR1_1).mono ?_); rintro e wz2 ⟨he_, hb, hi⟩; rw [← laws_markMixFrameS.mk_sh hm1_1] at he_; subst he_; replace HB := am hb; replace HI := am ((iw HI : Ish w _ (fun k_ => P0_0_ k_ ∨ P0_1_ k_ ∨ P0_2_ k_ ∨ P0_3_ k_)).trans hi (fun k_ _ h_ => (.inr (.inl h_.1)))); replace BK1 := am (Ish.box hi (bp BK1) (fun h_ => absurd (Nat.lt_of_lt_of_le h_.2 GW1.out) (Nat.lt_irrefl _))); clear hb hi; (try clear hR1_1); (try clear hm1_1 e1_1); (try clear hcz1_0); (try clear hcz1_1); (try clear hcz1_2); (try clear hcz1_3); (try clear hcz1_4); (try clear hcz1_5); (try clear hcz1_6); (try clear hcz1_7); (try clear hfz1_0); (try clear hfz1_1); (try clear hfz1_2); (try clear hfz1_3); (try clear hfz1_4); (try clear hfz1_5); (try clear hfz1_6); (try clear hfz1_7); have hcz2_0 := bk wz2 BK1 0; have hcz2_1 := bk wz2 BK1 1; have hcz2_2 := bk wz2 BK1 2; have hcz2_3 := bk wz2 BK1 3; have hcz2_4 := bk wz2 BK1 4; have hcz2_5 := bk wz2 BK1 5; have hcz2_6 := bk wz2 BK1 6; have hcz2_7 := bk wz2 BK1 7; have hfz2_0 := bf BK1 0; have hfz2_1 := bf BK1 1; have hfz2_2 := bf BK1 2; have hfz2_3 := bf BK1 3; have hfz2_4 := bf BK1 4; have hfz2_5 := bf BK1 5; have hfz2_6 := bf BK1 6; have hfz2_7 := bf BK1 7) | (go_at_call 30; obtain ⟨m2_2, hm2_2, hR2_2⟩ := R_twn (twn_slice (twn_int .i64) 2) (iw HI : Ish w _ _) HO0_2.out; have e2_2 := hm2_2.1; (refine (laws_markInt64SS.ish (fun k_ => P0_2_ k_ ∧ k_ < w.heap.size) _ _ _ w0 _ (bw HB) hR2_2).mono ?_); rintro e wz3 ⟨he_, hb, hi⟩; rw [← laws_markInt64SS.mk_sh hm2_2] at he_; subst he_; replace HB := am hb; replace HI := am ((iw HI : Ish w _ (fun k_ => P0_0_ k_ ∨ P0_1_ k_ ∨ P0_2_ k_ ∨ P0_3_ k_)).trans hi (fun k_ _ h_ => (.inr (.inr (.inl h_.1))))); replace BK1 := am (Ish.box hi (bp BK1) (fun h_ => absurd (Nat.lt_of_lt_of_le h_.2 GW1.out) (Nat.lt_irrefl _))); clear hb hi; (try clear hR2_2); (try clear hm2_2 e2_2); (try clear hcz2_0); (try clear hcz2_1); (try clear hcz2_2); (try clear hcz2_3); (try clear hcz2_4); (try clear hcz2_5); (try clear hcz2_6); (try clear hcz2_7); (try clear hfz2_0); (try clear hfz2_1); (try clear hfz2_2); (try clear hfz2_3); (try clear hfz2_4); (try clear hfz2_5); (try clear hfz2_6); (try clear hfz2_7); have hcz3_0 := bk wz3 BK1 0; have hcz3_1 := bk wz3 BK1 1; have hcz3_2 := bk wz3 BK1 2; have hcz3_3 := bk wz3 BK1 3; have hcz3_4 := bk wz3 BK1 4; have hcz3_5 := bk wz3 BK1 5; have hcz3_6 := bk wz3 BK1 6; have hcz3_7 := bk wz3 BK1 7; have hfz3_0 := bf BK1 0; have hfz3_1 := bf BK1 1; have hfz3_2 := bf BK1 2; have hfz3_3 := bf BK1 3; have hfz3_4 := bf BK1 4; have hfz3_5 := bf BK1 5; have hfz3_6 := bf BK1 6; have hfz3_7 := bf BK1 7) | (go_at_call 31; obtain ⟨m3_3, hm3_3, hR3_3⟩ := R_twn (twn_int .i64) (iw HI : Ish w _ _) HO0_3.out; have e3_3 := hm3_3.1; (refine (laws_markInt64S.ish (fun k_ => P0_3_ k_ ∧ k_ < w.heap.size) _ _ _ w0 _ (bw HB) hR3_3).mono ?_); rintro e wz4 ⟨he_, hb, hi⟩; rw [← laws_markInt64S.mk_sh hm3_3] at he_; subst he_; replace HB := am hb; replace HI := am ((iw HI : Ish w _ (fun k_ => P0_0_ k_ ∨ P0_1_ k_ ∨ P0_2_ k_ ∨ P0_3_ k_)).trans hi (fun k_ _ h_ => (.inr (.inr (.inr h_.1))))); replace BK1 := am (Ish.box hi (bp BK1) (fun h_ => absurd (Nat.lt_of_lt_of_le h_.2 GW1.out) (Nat.lt_irrefl _))); clear hb hi; (try clear hR3_3); (try clear hm3_3 e3_3); (try clear hcz3_0); (try clear hcz3_1); (try clear hcz3_2); (try clear hcz3_3); (try clear hcz3_4); (try clear hcz3_5); (try clear hcz3_6); (try clear hcz3_7); (try clear hfz3_0); (try clear hfz3_1); (try clear hfz3_2); (try clear hfz3_3); (try clear hfz3_4); (try clear hfz3_5); (try clear hfz3_6); (try clear hfz3_7)))
 go_ret
 exact ⟨by first | rfl | (simp; done) | (simp [*]; done), bw HB, iw HI⟩
def laws_markMixed.f (l0_0 : List (S73)) (l0_1 : List (S75)) (l0_2 : List (List Int)) (l0_3 : List Int) (a0_4 : Int) (a0_5 : Bool) (a0_6 : Int) (a0_7 : Int) (a1 : Int) : Option Int := some (laws_markMixed.mk a1 l0_0 l0_1 l0_2 l0_3)
theorem laws_markMixed.calls (P0_0_ : Nat → Prop) (u9000_ : Value) (l0_0 : List (S73)) (P0_1_ : Nat → Prop) (u9001_ : Value) (l0_1 : List (S75)) (P0_2_ : Nat → Prop) (u9002_ : Value) (l0_2 : List (List Int)) (P0_3_ : Nat → Prop) (u9003_ : Value) (l0_3 : List Int) (a0_4 : Int) (a0_5 : Bool) (a0_6 : Int) (a0_7 : Int) (a1 : Int) (r1 : Int) (w0 w : World) (hB : Below w0.heap.size w0 w) (ho0_0 : Kd.R k73 73 w w0.heap.size P0_0_ u9000_ l0_0) (ho0_1 : Kd.R k75 75 w w0.heap.size P0_1_ u9001_ l0_1) (ho0_2 : Kd.R (Kd.slice 2 (Kd.int .i64)) 25 w w0.heap.size P0_2_ u9002_ l0_2) (ho0_3 : Kd.R (Kd.int .i64) 2 w w0.heap.size P0_3_ u9003_ l0_3) (h : laws_markMixed.f l0_0 l0_1 l0_2 l0_3 a0_4 a0_5 a0_6 a0_7 a1 = some r1) :
  Calls Try.prog 10 #[.agg #[u9000_, u9001_, u9002_, u9003_, .int .i64 a0_4, .bool a0_5, .int .i64 a0_6, .int .i64 a0_7], .int .i64 a1] w fun e w' => e = .returned (.int .i64 r1) ∧ Below w0.heap.size w0 w' ∧ Kept w w' (fun k_ => P0_0_ k_ ∨ P0_1_ k_ ∨ P0_2_ k_ ∨ P0_3_ k_) := by
 have e : laws_markMixed.mk a1 l0_0 l0_1 l0_2 l0_3 = r1 := Option.some.inj h
 subst e
 exact (laws_markMixed.ish P0_0_ u9000_ l0_0 P0_1_ u9001_ l0_1 P0_2_ u9002_ l0_2 P0_3_ u9003_ l0_3 a0_4 a0_5 a0_6 a0_7 a1 w0 w hB ho0_0 ho0_1 ho0_2 ho0_3).mono fun e w' hq => ⟨hq.1, hq.2.1, hq.2.2.kept⟩

def sh79 (x y : S79) : Prop := (fun _ _ => True) x.f0 y.f0 ∧ (fun _ _ => True) x.f1 y.f1 ∧ (All2 (fun _ _ => True)) x.f2 y.f2 ∧ (All2 (fun _ _ => True)) x.f3 y.f3
theorem twn79 : Twn k79 sh79 := twn_iso (twn_pair (twn_int .i64) (twn_pair (twn_int .i64) (twn_pair (twn_slice (twn_int .i64) 2) (twn_slice (twn_int .i64) 2)))) (fun x : S79 => (x.f0, x.f1, x.f2, x.f3)) (fun a => (⟨a.1, a.2.1, a.2.2.1, a.2.2.2⟩ : S79)) (fun _ => rfl)
def laws_markFrameS.g (k : Int) (x : S79) : Int := (laws_markInt64S.mk (laws_markInt64S.mk (wrap64 ((wrap64 (k + 1)) + 1)) x.f2) x.f3)
theorem laws_markFrameS.g_sh {k : Int} {x y : S79} (h : sh79 x y) : laws_markFrameS.g k x = laws_markFrameS.g k y := by
 unfold laws_markFrameS.g
 rw [laws_markInt64S.mk_sh (show All2 _ _ _ from h.2.2.2), laws_markInt64S.mk_sh (show All2 _ _ _ from h.2.2.1)]
def laws_markFrameS.mk (k : Int) (l : List (S79)) : Int := l.foldl laws_markFrameS.g k
theorem laws_markFrameS.mk_sh {k : Int} {xs ys : List (S79)} (h : All2 sh79 xs ys) : laws_markFrameS.mk k xs = laws_markFrameS.mk k ys := fold_sh (g := laws_markFrameS.g) (sh := sh79) (fun _ _ _ h => laws_markFrameS.g_sh h) k h
theorem laws_markFrameS.ish (P0_ : Nat → Prop) (u : Value) (l0 : List (S79)) (a1 : Int) (w0 w : World) (hB : Below w0.heap.size w0 w) (ho0 : Kd.R k79 79 w w0.heap.size P0_ u l0) :
  Calls Try.prog 32 #[u, .int .i64 a1] w fun e w' => e = .returned (.int .i64 (laws_markFrameS.mk a1 l0)) ∧ Below w0.heap.size w0 w' ∧ Ish w w' P0_ := by
 have HB := am hB
 have HI := am (Ish.refl w P0_)
 have HO := am ho0
 have hln : l0.length ≤ 9223372036854775807 := by obtain ⟨_, _, rfl⟩ := Kd.R_slice ho0; exact (Kd.R_reads' ho0).2.2.2.1
 clear hB
 obtain ⟨Aa, ca, rfl⟩ := Kd.R_slice ho0
 clear ho0
 go_enter Try.func32, Try.ntmps32
 go_wp2
 go_loopg [1, 5] (l0.length + 1) (fun kq v1 v5 w' => ∃ (x1_1 : Int) (x5_1 : Int), v1 = .int .i64 x1_1 ∧ v5 = .int .i64 x5_1 ∧ Aside0 (kq + x5_1.toNat = l0.length + 1 ∧ 0 ≤ x5_1 ∧ x5_1 ≤ l0.length) ∧ Aside0 (laws_markFrameS.mk x1_1 (l0.drop x5_1.toNat) = laws_markFrameS.mk a1 l0) ∧ Aside0 (Ish w w' P0_) ∧ Aside0 (Below w0.heap.size w0 w'))
 case atStart => exact ⟨a1, 0, dr, dr, ⟨by simp, by omega, by omega⟩, ⟨rfl⟩, ⟨iw HI⟩, ⟨bw HB⟩⟩
 obtain ⟨x1_1, x5_1, rfl, rfl, HA, HV, HI, HB⟩ := hrel
 by_cases c3 : x5_1 < (l0.length : Int)
 ·have c3b0 := decide_eq_true c3
  obtain ⟨k1, rfl⟩ : ∃ k1, gk = k1 + 1 := ⟨gk - 1, by have := HA.out; omega⟩
  obtain ⟨la, hsa, hRa⟩ := R_twn twn79 HI.out HO.out
  have hla := hsa.1
  obtain ⟨go5, co5, eo5, gb5, gl5, cl5, HG5⟩ := Kd.R_form hRa (by have h00 := HA.out.2.1; omega)
  (first | cases eo5 | (injection eo5 with ea_ en_ ec_; (first | subst ea_ | (injection ea_ with ea_; subst ea_)); subst ec_; clear en_))
  have GB5 := am gb5
  have GP5 := am (show P0_ go5 from HO.out.1 _ rfl)
  clear gb5 gl5 HG5 hRa hsa
  have p5 : 0 ≤ x5_1 := HA.out.2.1
  have q5 := c3
  replace p5 := eq_true p5
  replace q5 := eq_true q5
  clear c3
  obtain ⟨l1, hs0, hR0⟩ := R_twn twn79 HI.out HO.out
  obtain ⟨ce0, hcl0, hM0, hcc0, hfr0⟩ := Kd.R_elem hR0 z79 x5_1 (of_eq_true p5) (of_eq_true q5)
  obtain ⟨v0_2, v0_3, rfl, hr0_2, hr0_3⟩ := k79_openM hM0
  have hx0 : wr.cell? ⟨go5, x5_1.toNat * 4, none⟩ = some _ := (hcc0 0 _ rfl)
  have hf0 : wr.frozen? ⟨go5, x5_1.toNat * 4, none⟩ = false := (hfr0 0)
  (try clear hM0)
  (try clear hfr0)
  (try clear hcc0)
  (try clear hcl0)
  (try clear hs0)
  (try clear hR0)
  (try clear hr0_2)
  (try clear hr0_3)
  go_wp2_with (first | ((with_reducible refine gt 2 16 rfl ?_); refine sE 2 16 (wr.setCell ⟨go5, x5_1.toNat * 4, none⟩ (.int .i64 x1_1)) ?_; intro wq0 hw; replace HI := am (show Ish w wq0 P0_ by rw [hw]; exact HI.out.set hx0 (twin.ofInt _ _ _) (fun _ => GP5.out)); replace HB := am ((by rw [hw]; exact below_set (HB.out) GB5.out : Below w0.heap.size w0 wq0)); clear hw; clear hx0; clear hf0; obtain ⟨l2, hs1, hR1⟩ := R_twn twn79 HI.out HO.out; obtain ⟨ce1, hcl1, hM1, hcc1, hfr1⟩ := Kd.R_elem hR1 z79 x5_1 (of_eq_true p5) (of_eq_true q5); obtain ⟨v1_2, v1_3, rfl, hr1_2, hr1_3⟩ := k79_openM hM1; have hx1 : wq0.cell? ⟨go5, x5_1.toNat * 4 + 1, none⟩ = some _ := (hcc1 1 _ rfl); have hf1 : wq0.frozen? ⟨go5, x5_1.toNat * 4 + 1, none⟩ = false := (hfr1 1); (try clear hM1); (try clear hfr1); (try clear hcc1); (try clear hcl1); (try clear hs1); (try clear hR1); (try clear hr1_2); (try clear hr1_3)) | ((with_reducible refine gt 2 23 rfl ?_); refine sE 2 23 (wq0.setCell ⟨go5, x5_1.toNat * 4 + 1, none⟩ (.int .i64 (wrap64 (x1_1 + 1)))) ?_; intro wq1 hw; replace HI := am (show Ish w wq1 P0_ by rw [hw]; exact HI.out.set hx1 (twin.ofInt _ _ _) (fun _ => GP5.out)); replace HB := am ((by rw [hw]; exact below_set (HB.out) GB5.out : Below w0.heap.size w0 wq1)); clear hw; clear hx1; clear hf1; obtain ⟨l3, hs2, hR2⟩ := R_twn twn79 HI.out HO.out; obtain ⟨ce2, hcl2, hM2, hcc2, hfr2⟩ := Kd.R_elem hR2 z79 x5_1 (of_eq_true p5) (of_eq_true q5); obtain ⟨v2_2, v2_3, rfl, hr2_2, hr2_3⟩ := k79_openM hM2; obtain ⟨A2, c2, rfl⟩ := Kd.R_slice hr2_2; have hx2 : wq1.cell? ⟨go5, x5_1.toNat * 4 + 2, none⟩ = some _ := (hcc2 2 _ rfl); have HR2 := am hr2_2; have HS2 := am hs2; (try clear hM2); (try clear hfr2); (try clear hcc2); (try clear hcl2); (try clear hs2); (try clear hR2); (try clear hr2_2); (try clear hr2_3)) | (go_at_call 31; (refine (laws_markInt64S.ish _ _ _ _ _ _ (bw HB) HR2.out).mono ?_); rintro e wq2 ⟨rfl, hb, hi⟩; replace HB := am hb; replace HI := am (HI.out.trans hi (fun b _ h_ => h_.1)); clear hb hi; clear hx2 HR2; obtain ⟨l4, hs3, hR3⟩ := R_twn twn79 HI.out HO.out; obtain ⟨ce3, hcl3, hM3, hcc3, hfr3⟩ := Kd.R_elem hR3 z79 x5_1 (of_eq_true p5) (of_eq_true q5); obtain ⟨v3_2, v3_3, rfl, hr3_2, hr3_3⟩ := k79_openM hM3; obtain ⟨A3, c3, rfl⟩ := Kd.R_slice hr3_3; have hx3 : wq2.cell? ⟨go5, x5_1.toNat * 4 + 3, none⟩ = some _ := (hcc3 3 _ rfl); have HR3 := am hr3_3; have HS3 := am hs3; (try clear hM3); (try clear hfr3); (try clear hcc3); (try clear hcl3); (try clear hs3); (try clear hR3); (try clear hr3_2); (try clear hr3_3)) | (go_at_call 31; (refine (laws_markInt64S.ish _ _ _ _ _ _ (bw HB) HR3.out).mono ?_); rintro e wq3 ⟨rfl, hb, hi⟩; replace HB := am hb; replace HI := am (HI.out.trans hi (fun b _ h_ => h_.1)); clear hb hi; clear hx3 HR3))
  go_roundg k1
  case measure => omega
  case rel =>
   have h1 := HA.out
   have hq : x5_1 < (l0.length : Int) := of_eq_true q5
   have hw1 : wrap64 (x5_1 + 1) = x5_1 + 1 := by unfold wrap64; omega
   have hlt : x5_1.toNat < l0.length := by omega
   have hsh2 := HS2.out.2 x5_1.toNat l0[x5_1.toNat] (l3.getD x5_1.toNat z79) (List.getElem?_eq_getElem hlt) (by rw [List.getD_eq_getElem?_getD, List.getElem?_eq_getElem (by have := HS2.out.1; omega)]; rfl)
   have hsh3 := HS3.out.2 x5_1.toNat l0[x5_1.toNat] (l4.getD x5_1.toNat z79) (List.getElem?_eq_getElem hlt) (by rw [List.getD_eq_getElem?_getD, List.getElem?_eq_getElem (by have := HS3.out.1; omega)]; rfl)
   refine ⟨(laws_markInt64S.mk (laws_markInt64S.mk (wrap64 ((wrap64 (x1_1 + 1)) + 1)) (l3.getD x5_1.toNat z79).f2) (l4.getD x5_1.toNat z79).f3), wrap64 (x5_1 + 1), dr, dr, ⟨by omega, by omega, by omega⟩, ⟨?_⟩, ⟨iw HI⟩, ⟨bw HB⟩⟩
   have h2 := HV.out
   rw [List.drop_eq_getElem_cons hlt] at h2
   rw [hw1, show (x5_1 + 1).toNat = x5_1.toNat + 1 by omega]
   rw [← laws_markInt64S.mk_sh (show All2 _ _ _ from hsh3.2.2.2), ← laws_markInt64S.mk_sh (show All2 _ _ _ from hsh2.2.2.1)]
   exact h2
 have c3b0 := decide_eq_false c3
 have hv := HV.out
 have h1 := HA.out
 rw [List.drop_of_length_le (by omega)] at hv
 have hv : x1_1 = laws_markFrameS.mk a1 l0 := hv
 clear c3
 go_wp2
 go_ret
 exact ⟨by first | rfl | (simp; done) | (simp [*]; done), bw HB, iw HI⟩
def laws_markFrameS.f (l0 : List (S79)) (a1 : Int) : Option Int := some (laws_markFrameS.mk a1 l0)
theorem laws_markFrameS.calls (P0_ : Nat → Prop) (u9000_ : Value) (l0 : List (S79)) (a1 : Int) (r1 : Int) (w0 w : World) (hB : Below w0.heap.size w0 w) (ho0 : Kd.R k79 79 w w0.heap.size P0_ u9000_ l0) (h : laws_markFrameS.f l0 a1 = some r1) :
  Calls Try.prog 32 #[u9000_, .int .i64 a1] w fun e w' => e = .returned (.int .i64 r1) ∧ Below w0.heap.size w0 w' ∧ Kept w w' (fun k_ => P0_ k_) := by
 have e : laws_markFrameS.mk a1 l0 = r1 := Option.some.inj h
 subst e
 exact (laws_markFrameS.ish P0_ u9000_ l0 a1 w0 w hB ho0).mono fun e w' hq => ⟨hq.1, hq.2.1, hq.2.2.kept⟩

def laws_markState.mk (a1 : Int) (l0_0 : List (S79)) (l0_1 : List (List Int)) (l0_2 : List Int) : Int := (laws_markInt64S.mk (laws_markInt64SS.mk (laws_markFrameS.mk a1 l0_0) l0_1) l0_2)
theorem laws_markState.mk_sh {a1 : Int} {l0_0 m0_0 : List (S79)} {l0_1 m0_1 : List (List Int)} {l0_2 m0_2 : List Int} (h0_0 : All2 sh79 l0_0 m0_0) (h0_1 : All2 (All2 (fun _ _ => True)) l0_1 m0_1) (h0_2 : All2 (fun _ _ => True) l0_2 m0_2) : laws_markState.mk a1 l0_0 l0_1 l0_2 = laws_markState.mk a1 m0_0 m0_1 m0_2 := by
 unfold laws_markState.mk
 rw [laws_markFrameS.mk_sh h0_0, laws_markInt64SS.mk_sh h0_1, laws_markInt64S.mk_sh h0_2]
theorem laws_markState.ish (P0_0_ : Nat → Prop) (u0_0 : Value) (l0_0 : List (S79)) (P0_1_ : Nat → Prop) (u0_1 : Value) (l0_1 : List (List Int)) (P0_2_ : Nat → Prop) (u0_2 : Value) (l0_2 : List Int) (a0_3 : Int) (a0_4 : Bool) (a0_5 : Int) (a0_6 : Int) (a1 : Int) (w0 w : World) (hB : Below w0.heap.size w0 w) (ho0_0 : Kd.R k79 79 w w0.heap.size P0_0_ u0_0 l0_0) (ho0_1 : Kd.R (Kd.slice 2 (Kd.int .i64)) 25 w w0.heap.size P0_1_ u0_1 l0_1) (ho0_2 : Kd.R (Kd.int .i64) 2 w w0.heap.size P0_2_ u0_2 l0_2) :
  Calls Try.prog 11 #[.agg #[u0_0, u0_1, u0_2, .int .i64 a0_3, .bool a0_4, .int .i64 a0_5, .int .i64 a0_6], .int .i64 a1] w fun e w' => e = .returned (.int .i64 (laws_markState.mk a1 l0_0 l0_1 l0_2)) ∧ Below w0.heap.size w0 w' ∧ Ish w w' (fun k_ => P0_0_ k_ ∨ P0_1_ k_ ∨ P0_2_ k_) := by
 have hu31 := Try.underlying31
 have HB := am hB
 have HI := am (Ish.refl w (fun k_ => P0_0_ k_ ∨ P0_1_ k_ ∨ P0_2_ k_))
 have HS := am hB.size
 clear hB
 obtain ⟨A0_0, c0_0, rfl⟩ := Kd.R_slice ho0_0
 have HO0_0 := am (R_in ho0_0)
 clear ho0_0
 obtain ⟨A0_1, c0_1, rfl⟩ := Kd.R_slice ho0_1
 have HO0_1 := am (R_in ho0_1)
 clear ho0_1
 obtain ⟨A0_2, c0_2, rfl⟩ := Kd.R_slice ho0_2
 have HO0_2 := am (R_in ho0_2)
 clear ho0_2
 go_enter Try.func11, Try.ntmps11
 go_wp2_with (first | ((with_reducible refine gd 2 rfl ?_); refine bx 2 #[.slice A0_0 l0_0.length c0_0, .slice A0_1 l0_1.length c0_1, .slice A0_2 l0_2.length c0_2, .int .i64 a0_3, .bool a0_4, .int .i64 a0_5, .int .i64 a0_6] 31 ?_; intro gb1 hg wz0 hbox hb; replace HB := bs HB hb; have BK1 := am hbox; have GW1 := am (show w.heap.size ≤ gb1 by rw [hg]; exact (iw HI : Ish w _ _).size); replace HI := am (Ish.below (iw HI) hb); clear hb hbox hg; have hcz0_0 := bk wz0 BK1 0; have hcz0_1 := bk wz0 BK1 1; have hcz0_2 := bk wz0 BK1 2; have hcz0_3 := bk wz0 BK1 3; have hcz0_4 := bk wz0 BK1 4; have hcz0_5 := bk wz0 BK1 5; have hcz0_6 := bk wz0 BK1 6; have hfz0_0 := bf BK1 0; have hfz0_1 := bf BK1 1; have hfz0_2 := bf BK1 2; have hfz0_3 := bf BK1 3; have hfz0_4 := bf BK1 4; have hfz0_5 := bf BK1 5; have hfz0_6 := bf BK1 6) | (go_at_call 32; obtain ⟨m0_0, hm0_0, hR0_0⟩ := R_twn twn79 (iw HI : Ish w _ _) HO0_0.out; have e0_0 := hm0_0.1; (refine (laws_markFrameS.ish (fun k_ => P0_0_ k_ ∧ k_ < w.heap.size) _ _ _ w0 _ (bw HB) hR0_0).mono ?_); rintro e wz1 ⟨he_, hb, hi⟩; rw [← laws_markFrameS.mk_sh hm0_0] at he_; subst he_; replace HB := am hb; replace HI := am ((iw HI : Ish w _ (fun k_ => P0_0_ k_ ∨ P0_1_ k_ ∨ P0_2_ k_)).trans hi (fun k_ _ h_ => (.inl h_.1))); replace BK1 := am (Ish.box hi (bp BK1) (fun h_ => absurd (Nat.lt_of_lt_of_le h_.2 GW1.out) (Nat.lt_irrefl _))); clear hb hi; (try clear hR0_0); (try clear hm0_0 e0_0); (try clear hcz0_0); (try clear hcz0_1); (try clear hcz0_2); (try clear hcz0_3); (try clear hcz0_4); (try clear hcz0_5); (try clear hcz0_6); (try clear hfz0_0); (try clear hfz0_1); (try clear hfz0_2); (try clear hfz0_3); (try clear hfz0_4); (try clear hfz0_5); (try clear hfz0_6); have hcz1_0 := bk wz1 BK1 0; have hcz1_1 := bk wz1 BK1 1; have hcz1_2 := bk wz1 BK1 2; have hcz1_3 := bk wz1 BK1 3; have hcz1_4 := bk wz1 BK1 4; have hcz1_5 := bk wz1 BK1 5; have hcz1_6 := bk wz1 BK1 6; have hfz1_0 := bf BK1 0; have hfz1_1 := bf BK1 1; have hfz1_2 := bf BK1 2; have hfz1_3 := bf BK1 3; have hfz1_4 := bf BK1 4; have hfz1_5 := bf BK1 5; have hfz1_6 := bf BK1 6) | (go_at_call 30; obtain ⟨m1_1, hm1_1, hR1_1⟩ := R_twn (twn_slice (twn_int .i64) 2) (iw HI : Ish w _ _) HO0_1.out; have e1_1 := hm1_1.1; (refine (laws_markInt64SS.ish (fun k_ => P0_1_ k_ ∧ k_ < w.heap.size) _ _ _ w0 _ (bw HB) hR1_1).mono ?_); rintro e wz2 ⟨he_, hb, hi⟩; rw [← laws_markInt64SS.mk_sh hm1_1] at he_; subst he_; replace HB := am hb; replace HI := am ((iw HI : Ish w _ (fun k_ => P0_0_ k_ ∨ P0_1_ k_ ∨ P0_2_ k_)).trans hi (fun k_ _ h_ => (.inr (.inl h_.1)))); replace BK1 := am (Ish.box hi (bp BK1) (fun h_ => absurd (Nat.lt_of_lt_of_le h_.2 GW1.out) (Nat.lt_irrefl _))); clear hb hi; (try clear hR1_1); (try clear hm1_1 e1_1); (try clear hcz1_0); (try clear hcz1_1); (try clear hcz1_2); (try clear hcz1_3); (try clear hcz1_4); (try clear hcz1_5); (try clear hcz1_6); (try clear hfz1_0); (try clear hfz1_1); (try clear hfz1_2); (try clear hfz1_3); (try clear hfz1_4); (try clear hfz1_5); (try clear hfz1_6); have hcz2_0 := bk wz2 BK1 0; have hcz2_1 := bk wz2 BK1 1; have hcz2_2 := bk wz2 BK1 2; have hcz2_3 := bk wz2 BK1 3; have hcz2_4 := bk wz2 BK1 4; have hcz2_5 := bk wz2 BK1 5; have hcz2_6 := bk wz2 BK1 6; have hfz2_0 := bf BK1 0; have hfz2_1 := bf BK1 1; have hfz2_2 := bf BK1 2; have hfz2_3 := bf BK1 3; have hfz2_4 := bf BK1 4; have hfz2_5 := bf BK1 5; have hfz2_6 := bf BK1 6) | (go_at_call 31; obtain ⟨m2_2, hm2_2, hR2_2⟩ := R_twn (twn_int .i64) (iw HI : Ish w _ _) HO0_2.out; have e2_2 := hm2_2.1; (refine (laws_markInt64S.ish (fun k_ => P0_2_ k_ ∧ k_ < w.heap.size) _ _ _ w0 _ (bw HB) hR2_2).mono ?_); rintro e wz3 ⟨he_, hb, hi⟩; rw [← laws_markInt64S.mk_sh hm2_2] at he_; subst he_; replace HB := am hb; replace HI := am ((iw HI : Ish w _ (fun k_ => P0_0_ k_ ∨ P0_1_ k_ ∨ P0_2_ k_)).trans hi (fun k_ _ h_ => (.inr (.inr h_.1)))); replace BK1 := am (Ish.box hi (bp BK1) (fun h_ => absurd (Nat.lt_of_lt_of_le h_.2 GW1.out) (Nat.lt_irrefl _))); clear hb hi; (try clear hR2_2); (try clear hm2_2 e2_2); (try clear hcz2_0); (try clear hcz2_1); (try clear hcz2_2); (try clear hcz2_3); (try clear hcz2_4); (try clear hcz2_5); (try clear hcz2_6); (try clear hfz2_0); (try clear hfz2_1); (try clear hfz2_2); (try clear hfz2_3); (try clear hfz2_4); (try clear hfz2_5); (try clear hfz2_6)))
 go_ret
 exact ⟨by first | rfl | (simp; done) | (simp [*]; done), bw HB, iw HI⟩
def laws_markState.f (l0_0 : List (S79)) (l0_1 : List (List Int)) (l0_2 : List Int) (a0_3 : Int) (a0_4 : Bool) (a0_5 : Int) (a0_6 : Int) (a1 : Int) : Option Int := some (laws_markState.mk a1 l0_0 l0_1 l0_2)
theorem laws_markState.calls (P0_0_ : Nat → Prop) (u9000_ : Value) (l0_0 : List (S79)) (P0_1_ : Nat → Prop) (u9001_ : Value) (l0_1 : List (List Int)) (P0_2_ : Nat → Prop) (u9002_ : Value) (l0_2 : List Int) (a0_3 : Int) (a0_4 : Bool) (a0_5 : Int) (a0_6 : Int) (a1 : Int) (r1 : Int) (w0 w : World) (hB : Below w0.heap.size w0 w) (ho0_0 : Kd.R k79 79 w w0.heap.size P0_0_ u9000_ l0_0) (ho0_1 : Kd.R (Kd.slice 2 (Kd.int .i64)) 25 w w0.heap.size P0_1_ u9001_ l0_1) (ho0_2 : Kd.R (Kd.int .i64) 2 w w0.heap.size P0_2_ u9002_ l0_2) (h : laws_markState.f l0_0 l0_1 l0_2 a0_3 a0_4 a0_5 a0_6 a1 = some r1) :
  Calls Try.prog 11 #[.agg #[u9000_, u9001_, u9002_, .int .i64 a0_3, .bool a0_4, .int .i64 a0_5, .int .i64 a0_6], .int .i64 a1] w fun e w' => e = .returned (.int .i64 r1) ∧ Below w0.heap.size w0 w' ∧ Kept w w' (fun k_ => P0_0_ k_ ∨ P0_1_ k_ ∨ P0_2_ k_) := by
 have e : laws_markState.mk a1 l0_0 l0_1 l0_2 = r1 := Option.some.inj h
 subst e
 exact (laws_markState.ish P0_0_ u9000_ l0_0 P0_1_ u9001_ l0_1 P0_2_ u9002_ l0_2 a0_3 a0_4 a0_5 a0_6 a1 w0 w hB ho0_0 ho0_1 ho0_2).mono fun e w' hq => ⟨hq.1, hq.2.1, hq.2.2.kept⟩

def laws_heldInt64S.l0 : Nat → List Int → Int → Int → Option (Int)
 | 0, _, _, _ => none
 | k + 1, x0, x1, x5 => if x5 < (x0.length : Int) then (if 0 ≤ x5 then (if (rd x0 x5) = x1 then (laws_heldInt64S.l0 k x0 (wrap64 (x1 + 1)) (wrap64 (x5 + 1))) else (some (-1))) else (none)) else (some x1)
def laws_heldInt64S.f (k : Nat) (l0 : List Int) (a1 : Int) : Option (Int) := laws_heldInt64S.l0 k l0 a1 0
theorem laws_heldInt64S.mono_l : ∀ k, (∀ y0 y1 y2, LeO (laws_heldInt64S.l0 k y0 y1 y2) (laws_heldInt64S.l0 (k + 1) y0 y1 y2))
 | 0 => fun _ _ _ r h => by simp [laws_heldInt64S.l0] at h
 | k + 1 => by
  have ih0 := laws_heldInt64S.mono_l k
  ·intro y0 y1 y2
   unfold laws_heldInt64S.l0
   with_reducible repeat' first | exact ih0 .. | exact LeO.refl _ | exact LeO.none _ | refine LeO.ite ?_ ?_ | refine LeO.bind ?_ (fun _ => ?_)
theorem laws_heldInt64S.mono : ∀ a0 a1 k, LeO (laws_heldInt64S.f k a0 a1) (laws_heldInt64S.f (k + 1) a0 a1) := by
 intro a0 a1 k
 have ih0 := laws_heldInt64S.mono_l k
 unfold laws_heldInt64S.f
 with_reducible repeat' first | exact ih0 .. | exact LeO.refl _ | exact LeO.none _ | refine LeO.ite ?_ ?_ | refine LeO.bind ?_ (fun _ => ?_)
theorem laws_heldInt64S.calls (k : Nat) (A0 : Option Addr) (c0 : Nat) (l0 : List Int) (a1 : Int) (r : Int) (w : World) (hr0 : Kd.C (Kd.int .i64) w A0 l0.length l0) (hc0 : l0.length ≤ c0) (h : laws_heldInt64S.f k l0 a1 = some r) :
  Calls Try.prog 35 #[.slice A0 l0.length c0, .int .i64 a1] w fun e w' => e = .returned (.int .i64 r) ∧ Drawn0 w w' := by
 have HR0 := am hr0
 have HC0 := am hc0
 clear hr0 hc0
 have H : (laws_heldInt64S.l0 k l0 a1 0) = some r := h
 clear h
 have H' := am H
 clear H
 go_enter Try.func35, Try.ntmps35
 go_wp2
 go_loopg [1, 5] k (fun kq v1 v5 w' => ∃ (x1_1 : Int) (x5_1 : Int), v1 = .int .i64 x1_1 ∧ v5 = .int .i64 x5_1 ∧ Aside0 (laws_heldInt64S.l0 kq l0 x1_1 x5_1 = some r) ∧ Aside0 (kq ≤ k) ∧ Drawn0 w w')
 case atStart => exact ⟨(a1), (0), dr, dr, H', ⟨Nat.le_refl _⟩, by repeat (first | exact Drawn0.refl _ | apply Drawn0.step)⟩
 clear H'
 try clear p2
 obtain ⟨x1_1, x5_1, rfl, rfl, HA, HK1, ⟨m1, rfl⟩⟩ := hrel
 rcases gk with _ | k1
 ·exact absurd HA.out (by simp [laws_heldInt64S.l0])
 have H := HA.out
 clear HA
 simp only [laws_heldInt64S.l0] at H
 refine qI H ?_ ?_ <;> clear H <;> intro c3b0 H
 ·refine iM H ?_; clear H; intro c4b0 H
  refine qE H ?_ ?_ <;> clear H
  ·intro c5b0 c5b1 H
   have H' := am H
   clear H
   have p370 : 0 ≤ (x5_1 : Int) := of_decide_eq_true as1
   have q370 : x5_1 < (l0.length : Int) := of_decide_eq_true as1
   obtain ⟨ad370, e370, hx370_0⟩ := Kd.at_int HR0.out x5_1 p370 q370
   cases e370
   replace p370 := eq_true p370
   replace q370 := eq_true q370
   go_wp2
   go_roundg k1
   case measure => have := HK1.out; omega
   case rel => exact ⟨(wrap64 (x1_1 + 1)), (wrap64 (x5_1 + 1)), dr, dr, H', ⟨by have := HK1.out; omega⟩, by repeat (first | exact Drawn0.refl _ | apply Drawn0.step)⟩
  intro c5 c5b0 c5b1 H
  obtain rfl := Option.some.inj H
  have p370 : 0 ≤ (x5_1 : Int) := of_decide_eq_true as1
  have q370 : x5_1 < (l0.length : Int) := of_decide_eq_true as1
  obtain ⟨ad370, e370, hx370_0⟩ := Kd.at_int HR0.out x5_1 p370 q370
  cases e370
  replace p370 := eq_true p370
  replace q370 := eq_true q370
  go_wp2
  go_ret
  exact ⟨by first | rfl | (simp; done) | (simp [*]; done), by repeat (first | exact Drawn0.refl _ | apply Drawn0.step)⟩
 obtain rfl := Option.some.inj H
 go_wp2
 go_ret
 exact ⟨by first | rfl | (simp; done) | (simp [*]; done), by repeat (first | exact Drawn0.refl _ | apply Drawn0.step)⟩

def laws_heldFrameS.l0 : Nat → List (S79) → Int → Int → Option (Int)
 | 0, _, _, _ => none
 | k + 1, x0, x1, x5 => if x5 < (x0.length : Int) then (if 0 ≤ x5 then (if ((rd_T79 x0 x5).f0) = x1 then (if ((rd_T79 x0 x5).f1) = (wrap64 (x1 + 1)) then ((laws_heldInt64S.f k ((rd_T79 x0 x5).f2) (wrap64 ((wrap64 (x1 + 1)) + 1))).bind fun t374 => (if t374 < 0 then (some (-1)) else ((laws_heldInt64S.f k ((rd_T79 x0 x5).f3) t374).bind fun t376 => (if t376 < 0 then (some (-1)) else (laws_heldFrameS.l0 k x0 t376 (wrap64 (x5 + 1))))))) else (some (-1))) else (some (-1))) else (none)) else (some x1)
def laws_heldFrameS.f (k : Nat) (l0 : List (S79)) (a1 : Int) : Option (Int) := laws_heldFrameS.l0 k l0 a1 0
theorem laws_heldFrameS.mono_l : ∀ k, (∀ y0 y1 y2, LeO (laws_heldFrameS.l0 k y0 y1 y2) (laws_heldFrameS.l0 (k + 1) y0 y1 y2))
 | 0 => fun _ _ _ r h => by simp [laws_heldFrameS.l0] at h
 | k + 1 => by
  have ih0 := laws_heldFrameS.mono_l k
  ·intro y0 y1 y2
   unfold laws_heldFrameS.l0
   with_reducible repeat' first | exact ih0 .. | exact laws_heldInt64S.mono .. | exact LeO.refl _ | exact LeO.none _ | refine LeO.ite ?_ ?_ | refine LeO.bind ?_ (fun _ => ?_)
theorem laws_heldFrameS.mono : ∀ a0 a1 k, LeO (laws_heldFrameS.f k a0 a1) (laws_heldFrameS.f (k + 1) a0 a1) := by
 intro a0 a1 k
 have ih0 := laws_heldFrameS.mono_l k
 unfold laws_heldFrameS.f
 with_reducible repeat' first | exact ih0 .. | exact laws_heldInt64S.mono .. | exact LeO.refl _ | exact LeO.none _ | refine LeO.ite ?_ ?_ | refine LeO.bind ?_ (fun _ => ?_)
theorem laws_heldFrameS.calls (k : Nat) (A0 : Option Addr) (c0 : Nat) (l0 : List (S79)) (a1 : Int) (r : Int) (w : World) (hr0 : Kd.C k79 w A0 l0.length l0) (hc0 : l0.length ≤ c0) (h : laws_heldFrameS.f k l0 a1 = some r) :
  Calls Try.prog 33 #[.slice A0 l0.length c0, .int .i64 a1] w fun e w' => e = .returned (.int .i64 r) ∧ Drawn0 w w' := by
 have HR0 := am hr0
 have HC0 := am hc0
 clear hr0 hc0
 have H : (laws_heldFrameS.l0 k l0 a1 0) = some r := h
 clear h
 have H' := am H
 clear H
 go_enter Try.func33, Try.ntmps33
 go_wp2
 go_loopg [1, 5] k (fun kq v1 v5 w' => ∃ (x1_1 : Int) (x5_1 : Int), v1 = .int .i64 x1_1 ∧ v5 = .int .i64 x5_1 ∧ Aside0 (laws_heldFrameS.l0 kq l0 x1_1 x5_1 = some r) ∧ Aside0 (kq ≤ k) ∧ Drawn0 w w')
 case atStart => exact ⟨(a1), (0), dr, dr, H', ⟨Nat.le_refl _⟩, by repeat (first | exact Drawn0.refl _ | apply Drawn0.step)⟩
 clear H'
 try clear p2
 obtain ⟨x1_1, x5_1, rfl, rfl, HA, HK1, ⟨m1, rfl⟩⟩ := hrel
 rcases gk with _ | k1
 ·exact absurd HA.out (by simp [laws_heldFrameS.l0])
 have H := HA.out
 clear HA
 simp only [laws_heldFrameS.l0] at H
 refine qI H ?_ ?_ <;> clear H <;> intro c3b0 H
 ·refine iM H ?_; clear H; intro c4b0 H
  refine qE H ?_ ?_ <;> clear H
  ·intro c5b0 c5b1 H
   refine qE H ?_ ?_ <;> clear H
   ·intro c6b0 c6b1 H
    refine be H ?_; clear H; intro t374 A7 H
    have HC8 := am H
    clear H
    have p371 : 0 ≤ (x5_1 : Int) := of_decide_eq_true as1
    have q371 : x5_1 < (l0.length : Int) := of_decide_eq_true as1
    obtain ⟨ad371, A371_2, c371_2, A371_3, c371_3, e371, hx371_0, hx371_1, hx371_2, hx371_3, hl371_2, hi371_2, hl371_3, hi371_3⟩ := at_T79 HR0.out x5_1 p371 q371
    cases e371
    have HR371_2 := am hi371_2
    have HC371_2 := am hl371_2
    clear hi371_2 hl371_2
    have HR371_3 := am hi371_3
    have HC371_3 := am hl371_3
    clear hi371_3 hl371_3
    replace p371 := eq_true p371
    replace q371 := eq_true q371
    have p372 : 0 ≤ (x5_1 : Int) := of_decide_eq_true as1
    have q372 : x5_1 < (l0.length : Int) := of_decide_eq_true as1
    obtain ⟨ad372, A372_2, c372_2, A372_3, c372_3, e372, hx372_0, hx372_1, hx372_2, hx372_3, hl372_2, hi372_2, hl372_3, hi372_3⟩ := at_T79 HR0.out x5_1 p372 q372
    obtain rfl : ad371 = ad372 := (by injection e372)
    have HR372_2 := am hi372_2
    have HC372_2 := am hl372_2
    clear hi372_2 hl372_2
    have HR372_3 := am hi372_3
    have HC372_3 := am hl372_3
    clear hi372_3 hl372_3
    replace p372 := eq_true p372
    replace q372 := eq_true q372
    have ea_ := Option.some.inj (hx371_2.symm.trans hx372_2)
    injection ea_ with ea_ en_ ec_
    subst ea_
    subst ec_
    clear en_
    have ea_ := Option.some.inj (hx371_3.symm.trans hx372_3)
    injection ea_ with ea_ en_ ec_
    subst ea_
    subst ec_
    clear en_
    have p373 : 0 ≤ (x5_1 : Int) := of_decide_eq_true as1
    have q373 : x5_1 < (l0.length : Int) := of_decide_eq_true as1
    obtain ⟨ad373, A373_2, c373_2, A373_3, c373_3, e373, hx373_0, hx373_1, hx373_2, hx373_3, hl373_2, hi373_2, hl373_3, hi373_3⟩ := at_T79 HR0.out x5_1 p373 q373
    obtain rfl : ad371 = ad373 := (by injection e373)
    have HR373_2 := am hi373_2
    have HC373_2 := am hl373_2
    clear hi373_2 hl373_2
    have HR373_3 := am hi373_3
    have HC373_3 := am hl373_3
    clear hi373_3 hl373_3
    replace p373 := eq_true p373
    replace q373 := eq_true q373
    have ea_ := Option.some.inj (hx371_2.symm.trans hx373_2)
    injection ea_ with ea_ en_ ec_
    subst ea_
    subst ec_
    clear en_
    have ea_ := Option.some.inj (hx371_3.symm.trans hx373_3)
    injection ea_ with ea_ en_ ec_
    subst ea_
    subst ec_
    clear en_
    go_upto_if 38 with (first | ((with_reducible refine gk 35 rfl ?_); refine gD 35 (some 36) Try.func35 #[.slice A371_2 ((rd_T79 l0 x5_1).f2).length c371_2, .int .i64 (wrap64 ((wrap64 (x1_1 + 1)) + 1))] (laws_heldInt64S.calls k1 _ _ ((rd_T79 l0 x5_1).f2) (wrap64 ((wrap64 (x1_1 + 1)) + 1)) t374 _ (by repeat (first | exact HR373_2.out | (with_reducible refine Kd.C_alloc ?_ _) | (with_reducible refine Kd.C_drewN ?_ _) | (with_reducible refine Kd.C_drew ?_))) HC373_2.out A7.out) ?_; intro nd))
    (try simp only [Act.put, sa, sz, ss])
    have H := HC8.out
    clear HC8
    refine qI H ?_ ?_ <;> clear H <;> intro c9b0 H
    ·(first | rw [c9b0] | (simp only [i64_w, i32_w]; rw [c9b0]) | skip)
     obtain rfl := Option.some.inj H
     go_wp2
     go_ret
     exact ⟨by first | rfl | (simp; done) | (simp [*]; done), by repeat (first | exact Drawn0.refl _ | apply Drawn0.step)⟩
    (first | rw [c9b0] | (simp only [i64_w, i32_w]; rw [c9b0]) | skip)
    refine be H ?_; clear H; intro t376 A10 H
    have HC11 := am H
    clear H
    have p375 : 0 ≤ (x5_1 : Int) := of_decide_eq_true as1
    have q375 : x5_1 < (l0.length : Int) := of_decide_eq_true as1
    obtain ⟨ad375, A375_2, c375_2, A375_3, c375_3, e375, hx375_0, hx375_1, hx375_2, hx375_3, hl375_2, hi375_2, hl375_3, hi375_3⟩ := at_T79 HR0.out x5_1 p375 q375
    obtain rfl : ad371 = ad375 := (by injection e375)
    have HR375_2 := am hi375_2
    have HC375_2 := am hl375_2
    clear hi375_2 hl375_2
    have HR375_3 := am hi375_3
    have HC375_3 := am hl375_3
    clear hi375_3 hl375_3
    replace p375 := eq_true p375
    replace q375 := eq_true q375
    have ea_ := Option.some.inj (hx371_2.symm.trans hx375_2)
    injection ea_ with ea_ en_ ec_
    subst ea_
    subst ec_
    clear en_
    have ea_ := Option.some.inj (hx371_3.symm.trans hx375_3)
    injection ea_ with ea_ en_ ec_
    subst ea_
    subst ec_
    clear en_
    go_upto_if 47 with (first | ((with_reducible refine gk 35 rfl ?_); refine gD 35 (some 45) Try.func35 #[.slice A371_3 ((rd_T79 l0 x5_1).f3).length c371_3, .int .i64 t374] (laws_heldInt64S.calls k1 _ _ ((rd_T79 l0 x5_1).f3) t374 t376 _ (by repeat (first | exact HR375_3.out | (with_reducible refine Kd.C_alloc ?_ _) | (with_reducible refine Kd.C_drewN ?_ _) | (with_reducible refine Kd.C_drew ?_))) HC375_3.out A10.out) ?_; intro nd))
    (try simp only [Act.put, sa, sz, ss])
    have H := HC11.out
    clear HC11
    refine qI H ?_ ?_ <;> clear H <;> intro c12b0 H
    ·(first | rw [c12b0] | (simp only [i64_w, i32_w]; rw [c12b0]) | skip)
     obtain rfl := Option.some.inj H
     go_wp2
     go_ret
     exact ⟨by first | rfl | (simp; done) | (simp [*]; done), by repeat (first | exact Drawn0.refl _ | apply Drawn0.step)⟩
    (first | rw [c12b0] | (simp only [i64_w, i32_w]; rw [c12b0]) | skip)
    have H' := am H
    clear H
    go_wp2
    go_roundg k1
    case measure => have := HK1.out; omega
    case rel => exact ⟨(t376), (wrap64 (x5_1 + 1)), dr, dr, H', ⟨by have := HK1.out; omega⟩, by repeat (first | exact Drawn0.refl _ | apply Drawn0.step)⟩
   intro c6 c6b0 c6b1 H
   obtain rfl := Option.some.inj H
   have p371 : 0 ≤ (x5_1 : Int) := of_decide_eq_true as1
   have q371 : x5_1 < (l0.length : Int) := of_decide_eq_true as1
   obtain ⟨ad371, A371_2, c371_2, A371_3, c371_3, e371, hx371_0, hx371_1, hx371_2, hx371_3, hl371_2, hi371_2, hl371_3, hi371_3⟩ := at_T79 HR0.out x5_1 p371 q371
   cases e371
   have HR371_2 := am hi371_2
   have HC371_2 := am hl371_2
   clear hi371_2 hl371_2
   have HR371_3 := am hi371_3
   have HC371_3 := am hl371_3
   clear hi371_3 hl371_3
   replace p371 := eq_true p371
   replace q371 := eq_true q371
   have p372 : 0 ≤ (x5_1 : Int) := of_decide_eq_true as1
   have q372 : x5_1 < (l0.length : Int) := of_decide_eq_true as1
   obtain ⟨ad372, A372_2, c372_2, A372_3, c372_3, e372, hx372_0, hx372_1, hx372_2, hx372_3, hl372_2, hi372_2, hl372_3, hi372_3⟩ := at_T79 HR0.out x5_1 p372 q372
   obtain rfl : ad371 = ad372 := (by injection e372)
   have HR372_2 := am hi372_2
   have HC372_2 := am hl372_2
   clear hi372_2 hl372_2
   have HR372_3 := am hi372_3
   have HC372_3 := am hl372_3
   clear hi372_3 hl372_3
   replace p372 := eq_true p372
   replace q372 := eq_true q372
   have ea_ := Option.some.inj (hx371_2.symm.trans hx372_2)
   injection ea_ with ea_ en_ ec_
   subst ea_
   subst ec_
   clear en_
   have ea_ := Option.some.inj (hx371_3.symm.trans hx372_3)
   injection ea_ with ea_ en_ ec_
   subst ea_
   subst ec_
   clear en_
   go_wp2
   go_ret
   exact ⟨by first | rfl | (simp; done) | (simp [*]; done), by repeat (first | exact Drawn0.refl _ | apply Drawn0.step)⟩
  intro c5 c5b0 c5b1 H
  obtain rfl := Option.some.inj H
  have p371 : 0 ≤ (x5_1 : Int) := of_decide_eq_true as1
  have q371 : x5_1 < (l0.length : Int) := of_decide_eq_true as1
  obtain ⟨ad371, A371_2, c371_2, A371_3, c371_3, e371, hx371_0, hx371_1, hx371_2, hx371_3, hl371_2, hi371_2, hl371_3, hi371_3⟩ := at_T79 HR0.out x5_1 p371 q371
  cases e371
  have HR371_2 := am hi371_2
  have HC371_2 := am hl371_2
  clear hi371_2 hl371_2
  have HR371_3 := am hi371_3
  have HC371_3 := am hl371_3
  clear hi371_3 hl371_3
  replace p371 := eq_true p371
  replace q371 := eq_true q371
  go_wp2
  go_ret
  exact ⟨by first | rfl | (simp; done) | (simp [*]; done), by repeat (first | exact Drawn0.refl _ | apply Drawn0.step)⟩
 obtain rfl := Option.some.inj H
 go_wp2
 go_ret
 exact ⟨by first | rfl | (simp; done) | (simp [*]; done), by repeat (first | exact Drawn0.refl _ | apply Drawn0.step)⟩

end Go.Proofs.Yticdldoijkdffaa.QFnExactMixTold
