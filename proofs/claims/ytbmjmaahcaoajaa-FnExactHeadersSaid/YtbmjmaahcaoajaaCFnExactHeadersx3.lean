import Derived.Test.YtbmjmaahcaoajaaCFnExactHeadersx0
import Derived.Test.YtbmjmaahcaoajaaCFnExactHeadersx2
namespace Go.Proofs.Ytbmjmaahcaoajaa.QFnExactHeaders
open Go.RowKit Go.Proofs.YtbmjmaahcaoajaaW
open PrintWords PrintLast PrintMore PrintShort PrintIsh
attribute [local go_sem] max2_int min2_int max_two min_two max_three min_three max_four min_four   -- for this text's walks alone
set_option linter.unusedVariables false
set_option maxHeartbeats 8000000
set_option maxRecDepth 100000
set_option linter.unusedSimpArgs false

def laws_eqProgram.f (k : Nat) (l0_0 : List (S100)) (l1_0 : List (S100)) : Option (Bool) := (laws_eqFuncS.f k l0_0 l1_0).bind fun t154 => (if t154 = true then (some true) else (some false))
theorem laws_eqProgram.mono : ∀ a0 a1 k, LeO (laws_eqProgram.f k a0 a1) (laws_eqProgram.f (k + 1) a0 a1) := by
 intro a0 a1 k
 unfold laws_eqProgram.f
 repeat' first
   | (with_reducible exact laws_eqFuncS.mono _ _ _)
   | (with_reducible exact LeO.refl _)
   | (with_reducible exact LeO.none _)
   | (with_reducible refine LeO.ite ?_ ?_)
   | (with_reducible refine LeO.bind ?_ (fun _ => ?_))
theorem laws_eqProgram.calls (k : Nat) (A0_0 : Option Addr) (c0_0 : Nat) (l0_0 : List (S100)) (A1_0 : Option Addr) (c1_0 : Nat) (l1_0 : List (S100)) (r : Bool) (w : World) (hr0_0 : Kd.C k100 w A0_0 l0_0.length l0_0) (hc0_0 : l0_0.length ≤ c0_0) (hr1_0 : Kd.C k100 w A1_0 l1_0.length l1_0) (hc1_0 : l1_0.length ≤ c1_0) (h : laws_eqProgram.f k l0_0 l1_0 = some r) :
  Calls Try.prog 19 #[.agg #[.slice A0_0 l0_0.length c0_0], .agg #[.slice A1_0 l1_0.length c1_0]] w fun e w' => e = .returned (.bool r) ∧ Below w.heap.size w w' := by
 have hu30 := Try.underlying30
 have HR0_0 := am hr0_0
 have HC0_0 := am hc0_0
 clear hr0_0 hc0_0
 have HR1_0 := am hr1_0
 have HC1_0 := am hc1_0
 clear hr1_0 hc1_0
 have HB := am (Below.refl w.heap.size w)
 have H : ((laws_eqFuncS.f k l0_0 l1_0).bind fun t154 => (if t154 = true then (some true) else (some false))) = some r := h
 clear h
 replace H := Option.bind_eq_some_iff.mp H
 obtain ⟨t154, A30, H⟩ := H
 replace H : (if t154 = true then (some true) else (some false)) = some r := H
 have A3 := am A30
 clear A30
 by_cases c4 : t154 = true
 ·subst c4
  have H1 : (some true) = some r := by rw [if_pos rfl] at H; exact H
  clear H
  have H := H1
  clear H1
  obtain rfl := Option.some.inj H
  go_enter Try.func19, Try.ntmps19
  go_wp2_with (first | ((with_reducible refine gate_dst (N := 2) rfl ?_); refine box_event ?hg (N := 2) ?hd (cs := #[.slice A0_0 l0_0.length c0_0]) (t := 30) ?hr ?_; (case hd => rfl); (case hg => rfl); (case hr => exact gs); intro gb152 hg w5 hbox hb; have BK152 := am (hbox); have GW152 := am ((by rw [hg]; exact (below_size (bw HB)) : w.heap.size ≤ gb152)); have GE152 := am ((by rw [hg]; exact (below_size (bw HB)) : w.heap.size ≤ gb152)); replace HB := am (below_step (bw HB) hb); clear hb hbox hg) | ((with_reducible refine gate_dst (N := 3) rfl ?_); refine box_event ?hg (N := 3) ?hd (cs := #[.slice A1_0 l1_0.length c1_0]) (t := 30) ?hr ?_; (case hd => rfl); (case hg => rfl); (case hr => exact gs); intro gb153 hg w6 hbox hb; have BK153 := am (hbox); have GW153 := am ((by rw [hg]; exact (below_size (bw HB)) : w.heap.size ≤ gb153)); have GE153 := am ((by rw [hg]; exact (below_size (bw HB)) : w.heap.size ≤ gb153)); replace HB := am (below_step (bw HB) hb); have NB152_153 := am ((by rw [hg]; exact Nat.ne_of_lt (blk_lt (g := gb152) (o := .cells #[.slice A0_0 l0_0.length c0_0] 30 (0, 0)) (bp BK152)) : gb152 ≠ gb153)); have NB153_152 := am ((by rw [hg]; exact Nat.ne_of_gt (blk_lt (g := gb152) (o := .cells #[.slice A0_0 l0_0.length c0_0] 30 (0, 0)) (bp BK152)) : gb153 ≠ gb152)); replace BK152 := am (blk_below (g := gb152) (o := .cells #[.slice A0_0 l0_0.length c0_0] 30 (0, 0)) (bp BK152) hb); clear hb hbox hg; have hnb7 := NB152_153.out; have hnc7 := NB153_152.out; have hcz8_0 : w6.cell? ⟨gb152, 0, none⟩ = some (.slice A0_0 l0_0.length c0_0) := bc BK152 0; have hfz8_0 := bf BK152 0; have hcz9_0 : w6.cell? ⟨gb153, 0, none⟩ = some (.slice A1_0 l1_0.length c1_0) := bc BK153 0; have hfz9_0 := bf BK153 0) | ((with_reducible refine gate_callee (f := 61) rfl ?_); refine goesL_ (some 9) rfl rfl Try.func61 (by kernel_rfl) rfl #[.slice A0_0 l0_0.length c0_0, .slice A1_0 l1_0.length c1_0] rfl gl ?_; (with_reducible refine (laws_eqFuncS.calls k _ _ l0_0 _ _ l1_0 true _ ?side1 ?side2 ?side3 ?side4 A3.out).mono ?_); (case side1 => exact cc (Kd.C_below HR0_0.out HB.out)); (case side2 => exact HC0_0.out); (case side3 => exact cc (Kd.C_below HR1_0.out HB.out)); (case side4 => exact HC1_0.out); rintro e w10 ⟨rfl, hb⟩; refine ⟨_, rfl, ?_⟩; replace BK152 := am (blk_below (g := gb152) (o := .cells #[.slice A0_0 l0_0.length c0_0] 30 (0, 0)) (bp BK152) hb); replace BK153 := am (blk_below (g := gb153) (o := .cells #[.slice A1_0 l1_0.length c1_0] 30 (0, 0)) (bp BK153) hb); replace HB := am (below_step (bw HB) hb); (try clear hb); (try clear hb2); (try clear hk); (try clear hi)))
  go_ret
  exact ⟨er, bw HB⟩
 ·replace c4 := Bool.eq_false_iff.mpr c4
  subst c4
  have H1 : (some false) = some r := by rw [if_neg (show ¬ (false = true) by decide)] at H; exact H
  clear H
  have H := H1
  clear H1
  obtain rfl := Option.some.inj H
  go_enter Try.func19, Try.ntmps19
  go_wp2_with (first | ((with_reducible refine gate_dst (N := 2) rfl ?_); refine box_event ?hg (N := 2) ?hd (cs := #[.slice A0_0 l0_0.length c0_0]) (t := 30) ?hr ?_; (case hd => rfl); (case hg => rfl); (case hr => exact gs); intro gb152 hg w11 hbox hb; have BK152 := am (hbox); have GW152 := am ((by rw [hg]; exact (below_size (bw HB)) : w.heap.size ≤ gb152)); have GE152 := am ((by rw [hg]; exact (below_size (bw HB)) : w.heap.size ≤ gb152)); replace HB := am (below_step (bw HB) hb); clear hb hbox hg) | ((with_reducible refine gate_dst (N := 3) rfl ?_); refine box_event ?hg (N := 3) ?hd (cs := #[.slice A1_0 l1_0.length c1_0]) (t := 30) ?hr ?_; (case hd => rfl); (case hg => rfl); (case hr => exact gs); intro gb153 hg w12 hbox hb; have BK153 := am (hbox); have GW153 := am ((by rw [hg]; exact (below_size (bw HB)) : w.heap.size ≤ gb153)); have GE153 := am ((by rw [hg]; exact (below_size (bw HB)) : w.heap.size ≤ gb153)); replace HB := am (below_step (bw HB) hb); have NB152_153 := am ((by rw [hg]; exact Nat.ne_of_lt (blk_lt (g := gb152) (o := .cells #[.slice A0_0 l0_0.length c0_0] 30 (0, 0)) (bp BK152)) : gb152 ≠ gb153)); have NB153_152 := am ((by rw [hg]; exact Nat.ne_of_gt (blk_lt (g := gb152) (o := .cells #[.slice A0_0 l0_0.length c0_0] 30 (0, 0)) (bp BK152)) : gb153 ≠ gb152)); replace BK152 := am (blk_below (g := gb152) (o := .cells #[.slice A0_0 l0_0.length c0_0] 30 (0, 0)) (bp BK152) hb); clear hb hbox hg; have hnb13 := NB152_153.out; have hnc13 := NB153_152.out; have hcz14_0 : w12.cell? ⟨gb152, 0, none⟩ = some (.slice A0_0 l0_0.length c0_0) := bc BK152 0; have hfz14_0 := bf BK152 0; have hcz15_0 : w12.cell? ⟨gb153, 0, none⟩ = some (.slice A1_0 l1_0.length c1_0) := bc BK153 0; have hfz15_0 := bf BK153 0) | ((with_reducible refine gate_callee (f := 61) rfl ?_); refine goesL_ (some 9) rfl rfl Try.func61 (by kernel_rfl) rfl #[.slice A0_0 l0_0.length c0_0, .slice A1_0 l1_0.length c1_0] rfl gl ?_; (with_reducible refine (laws_eqFuncS.calls k _ _ l0_0 _ _ l1_0 false _ ?side1 ?side2 ?side3 ?side4 A3.out).mono ?_); (case side1 => exact cc (Kd.C_below HR0_0.out HB.out)); (case side2 => exact HC0_0.out); (case side3 => exact cc (Kd.C_below HR1_0.out HB.out)); (case side4 => exact HC1_0.out); rintro e w16 ⟨rfl, hb⟩; refine ⟨_, rfl, ?_⟩; replace BK152 := am (blk_below (g := gb152) (o := .cells #[.slice A0_0 l0_0.length c0_0] 30 (0, 0)) (bp BK152) hb); replace BK153 := am (blk_below (g := gb153) (o := .cells #[.slice A1_0 l1_0.length c1_0] 30 (0, 0)) (bp BK153) hb); replace HB := am (below_step (bw HB) hb); (try clear hb); (try clear hb2); (try clear hk); (try clear hi)))
  go_ret
  exact ⟨er, bw HB⟩

def sh102 (x y : S102) : Prop := (fun _ _ => True) x.f0 y.f0 ∧ (fun _ _ => True) x.f1 y.f1
theorem twn102 : Twn k102 sh102 := twn_iso (twn_pair (twn_int .i64) (twn_int .i64)) (fun x : S102 => (x.f0, x.f1)) (fun a => (⟨a.1, a.2⟩ : S102)) (fun _ => rfl)
def laws_markInsS.g (k : Int) (x : S102) : Int := (wrap64 ((wrap64 (k + 1)) + 1))
theorem laws_markInsS.g_sh {k : Int} {x y : S102} (h : sh102 x y) : laws_markInsS.g k x = laws_markInsS.g k y := by
 unfold laws_markInsS.g
 rfl
def laws_markInsS.mk (k : Int) (l : List (S102)) : Int := l.foldl laws_markInsS.g k
theorem laws_markInsS.mk_sh {k : Int} {xs ys : List (S102)} (h : All2 sh102 xs ys) : laws_markInsS.mk k xs = laws_markInsS.mk k ys := fold_sh (g := laws_markInsS.g) (sh := sh102) (fun _ _ _ h => laws_markInsS.g_sh h) k h
theorem laws_markInsS.ish (P0_ : Nat → Prop) (u : Value) (l0 : List (S102)) (a1 : Int) (w0 w : World) (hB : Below w0.heap.size w0 w) (ho0 : Kd.R k102 102 w w0.heap.size P0_ u l0) :
  Calls Try.prog 123 #[u, .int .i64 a1] w fun e w' => e = .returned (.int .i64 (laws_markInsS.mk a1 l0)) ∧ Below w0.heap.size w0 w' ∧ Ish w w' P0_ := by
 have HB := am hB
 have HI := am (Ish.refl w P0_)
 have HO := am ho0
 have hln : l0.length ≤ 9223372036854775807 := by obtain ⟨_, _, rfl⟩ := Kd.R_slice ho0; exact (Kd.R_reads' ho0).2.2.2.1
 clear hB
 obtain ⟨Aa, ca, rfl⟩ := Kd.R_slice ho0
 clear ho0
 go_enter Try.func123, Try.ntmps123
 go_wp2
 go_loopg [1, 5] (l0.length + 1) (fun kq v1 v5 w' => ∃ (x1_1 : Int) (x5_1 : Int), v1 = .int .i64 x1_1 ∧ v5 = .int .i64 x5_1 ∧ Aside0 (kq + x5_1.toNat = l0.length + 1 ∧ 0 ≤ x5_1 ∧ x5_1 ≤ l0.length) ∧ Aside0 (laws_markInsS.mk x1_1 (l0.drop x5_1.toNat) = laws_markInsS.mk a1 l0) ∧ Aside0 (Ish w w' P0_) ∧ Aside0 (Below w0.heap.size w0 w'))
 case atStart => exact ⟨a1, 0, dr, dr, ⟨by simp, by omega, by omega⟩, ⟨rfl⟩, ⟨iw HI⟩, ⟨bw HB⟩⟩
 case round =>
  obtain ⟨x1_1, x5_1, rfl, rfl, HA, HV, HI, HB⟩ := hrel
  by_cases c3 : x5_1 < (l0.length : Int)
  ·have c3b0 := decide_eq_true c3
   obtain ⟨k1, rfl⟩ : ∃ k1, gk = k1 + 1 := ⟨gk - 1, by have := HA.out; omega⟩
   obtain ⟨la, hsa, hRa⟩ := R_twn twn102 HI.out HO.out
   have hla := hsa.1
   obtain ⟨go5, co5, eo5, gb5, gl5, cl5, HG5⟩ := Kd.R_form hRa (by have h00 := HA.out.2.1; omega)
   (first | cases eo5 | (injection eo5 with ea_ en_ ec_; (first | subst ea_ | (injection ea_ with ea_; subst ea_)); subst ec_; clear en_))
   have GB5 := am gb5
   have GP5 := am (show P0_ go5 from HO.out.1 _ rfl)
   clear gb5 gl5 HG5 hRa hsa
   have p5 : 0 ≤ x5_1 := HA.out.2.1
   have q5 := c3
   replace p5 := eq_true p5
   replace q5 := eq_true q5
   clear c3
   obtain ⟨l1, hs0, hR0⟩ := R_twn twn102 HI.out HO.out
   obtain ⟨ce0, hcl0, hM0, hcc0, hfr0⟩ := Kd.R_elem hR0 z102 x5_1 (of_eq_true p5) (of_eq_true q5)
   obtain rfl := k102_openM hM0
   have hx0 : wr.cell? ⟨go5, x5_1.toNat * 2, none⟩ = some _ := hcc0 0 _ rfl
   have hf0 : wr.frozen? ⟨go5, x5_1.toNat * 2, none⟩ = false := hfr0 0
   (try clear hM0)
   (try clear hfr0)
   (try clear hcc0)
   (try clear hcl0)
   (try clear hs0)
   (try clear hR0)
   go_wp2_with (first | ((with_reducible refine gate_store (t := 2) (p := 16) rfl ?_); refine store_event (t := 2) (p := 16) (v := ?vo_wq0) (w1 := (wr.setCell ⟨go5, x5_1.toNat * 2, none⟩ (.int .i64 x1_1))) ?hg ?ho ?hn ?hr ?_; (case ho => rfl); (case hg => rfl); (case hn => rfl); (case hr => exact gs); intro wq0 hw; replace HI := am (show Ish w wq0 P0_ by rw [hw]; exact HI.out.set hx0 (twin.ofInt _ _ _) (fun _ => GP5.out)); replace HB := am ((by rw [hw]; exact below_set (HB.out) GB5.out : Below w0.heap.size w0 wq0)); clear hw; clear hx0; clear hf0; obtain ⟨l2, hs1, hR1⟩ := R_twn twn102 HI.out HO.out; obtain ⟨ce1, hcl1, hM1, hcc1, hfr1⟩ := Kd.R_elem hR1 z102 x5_1 (of_eq_true p5) (of_eq_true q5); obtain rfl := k102_openM hM1; have hx1 : wq0.cell? ⟨go5, x5_1.toNat * 2 + 1, none⟩ = some _ := hcc1 1 _ rfl; have hf1 : wq0.frozen? ⟨go5, x5_1.toNat * 2 + 1, none⟩ = false := hfr1 1; (try clear hM1); (try clear hfr1); (try clear hcc1); (try clear hcl1); (try clear hs1); (try clear hR1)) | ((with_reducible refine gate_store (t := 2) (p := 23) rfl ?_); refine store_event (t := 2) (p := 23) (v := ?vo_wq1) (w1 := (wq0.setCell ⟨go5, x5_1.toNat * 2 + 1, none⟩ (.int .i64 (wrap64 (x1_1 + 1))))) ?hg ?ho ?hn ?hr ?_; (case ho => rfl); (case hg => rfl); (case hn => rfl); (case hr => exact gs); intro wq1 hw; replace HI := am (show Ish w wq1 P0_ by rw [hw]; exact HI.out.set hx1 (twin.ofInt _ _ _) (fun _ => GP5.out)); replace HB := am ((by rw [hw]; exact below_set (HB.out) GB5.out : Below w0.heap.size w0 wq1)); clear hw; clear hx1; clear hf1))
   go_roundg k1
   case measure => omega
   case rel =>
    have h1 := HA.out
    have hq : x5_1 < (l0.length : Int) := of_eq_true q5
    have hw1 : wrap64 (x5_1 + 1) = x5_1 + 1 := by unfold wrap64; omega
    have hlt : x5_1.toNat < l0.length := by omega
    refine ⟨(wrap64 ((wrap64 (x1_1 + 1)) + 1)), wrap64 (x5_1 + 1), dr, dr, ⟨by omega, by omega, by omega⟩, ⟨?_⟩, ⟨iw HI⟩, ⟨bw HB⟩⟩
    have h2 := HV.out
    rw [List.drop_eq_getElem_cons hlt] at h2
    rw [hw1, show (x5_1 + 1).toNat = x5_1.toNat + 1 by omega]
    exact h2
  ·have c3b0 := decide_eq_false c3
   have hv := HV.out
   have h1 := HA.out
   rw [List.drop_of_length_le (by omega)] at hv
   have hv : x1_1 = laws_markInsS.mk a1 l0 := hv
   clear c3
   go_wp2
   go_ret
   exact ⟨by first | rfl | (simp; done) | (simp [*]; done), bw HB, iw HI⟩
def laws_markInsS.f (l0 : List (S102)) (a1 : Int) : Option Int := some (laws_markInsS.mk a1 l0)
theorem laws_markInsS.calls (P0_ : Nat → Prop) (u9000_ : Value) (l0 : List (S102)) (a1 : Int) (r1 : Int) (w0 w : World) (hB : Below w0.heap.size w0 w) (ho0 : Kd.R k102 102 w w0.heap.size P0_ u9000_ l0) (h : laws_markInsS.f l0 a1 = some r1) :
  Calls Try.prog 123 #[u9000_, .int .i64 a1] w fun e w' => e = .returned (.int .i64 r1) ∧ Below w0.heap.size w0 w' ∧ Kept w w' (fun k_ => P0_ k_) := by
 have e : laws_markInsS.mk a1 l0 = r1 := Option.some.inj h
 subst e
 exact (laws_markInsS.ish P0_ u9000_ l0 a1 w0 w hB ho0).mono fun e w' hq => ⟨hq.1, hq.2.1, hq.2.2.kept⟩

def sh100 (x y : S100) : Prop := (fun _ _ => True) x.f0 y.f0 ∧ (fun _ _ => True) x.f1 y.f1 ∧ (All2 sh102) x.f2 y.f2
theorem twn100 : Twn k100 sh100 := twn_iso (twn_pair (twn_int .i64) (twn_pair (twn_int .i64) (twn_slice twn102 102))) (fun x : S100 => (x.f0, x.f1, x.f2)) (fun a => (⟨a.1, a.2.1, a.2.2⟩ : S100)) (fun _ => rfl)
def laws_markFuncS.g (k : Int) (x : S100) : Int := (laws_markInsS.mk (wrap64 ((wrap64 (k + 1)) + 1)) x.f2)
theorem laws_markFuncS.g_sh {k : Int} {x y : S100} (h : sh100 x y) : laws_markFuncS.g k x = laws_markFuncS.g k y := by
 unfold laws_markFuncS.g
 rw [laws_markInsS.mk_sh (show All2 _ _ _ from h.2.2)]
def laws_markFuncS.mk (k : Int) (l : List (S100)) : Int := l.foldl laws_markFuncS.g k
theorem laws_markFuncS.mk_sh {k : Int} {xs ys : List (S100)} (h : All2 sh100 xs ys) : laws_markFuncS.mk k xs = laws_markFuncS.mk k ys := fold_sh (g := laws_markFuncS.g) (sh := sh100) (fun _ _ _ h => laws_markFuncS.g_sh h) k h
theorem laws_markFuncS.ish (P0_ : Nat → Prop) (u : Value) (l0 : List (S100)) (a1 : Int) (w0 w : World) (hB : Below w0.heap.size w0 w) (ho0 : Kd.R k100 100 w w0.heap.size P0_ u l0) :
  Calls Try.prog 62 #[u, .int .i64 a1] w fun e w' => e = .returned (.int .i64 (laws_markFuncS.mk a1 l0)) ∧ Below w0.heap.size w0 w' ∧ Ish w w' P0_ := by
 have HB := am hB
 have HI := am (Ish.refl w P0_)
 have HO := am ho0
 have hln : l0.length ≤ 9223372036854775807 := by obtain ⟨_, _, rfl⟩ := Kd.R_slice ho0; exact (Kd.R_reads' ho0).2.2.2.1
 clear hB
 obtain ⟨Aa, ca, rfl⟩ := Kd.R_slice ho0
 clear ho0
 go_enter Try.func62, Try.ntmps62
 go_wp2
 go_loopg [1, 5] (l0.length + 1) (fun kq v1 v5 w' => ∃ (x1_1 : Int) (x5_1 : Int), v1 = .int .i64 x1_1 ∧ v5 = .int .i64 x5_1 ∧ Aside0 (kq + x5_1.toNat = l0.length + 1 ∧ 0 ≤ x5_1 ∧ x5_1 ≤ l0.length) ∧ Aside0 (laws_markFuncS.mk x1_1 (l0.drop x5_1.toNat) = laws_markFuncS.mk a1 l0) ∧ Aside0 (Ish w w' P0_) ∧ Aside0 (Below w0.heap.size w0 w'))
 case atStart => exact ⟨a1, 0, dr, dr, ⟨by simp, by omega, by omega⟩, ⟨rfl⟩, ⟨iw HI⟩, ⟨bw HB⟩⟩
 case round =>
  obtain ⟨x1_1, x5_1, rfl, rfl, HA, HV, HI, HB⟩ := hrel
  by_cases c3 : x5_1 < (l0.length : Int)
  ·have c3b0 := decide_eq_true c3
   obtain ⟨k1, rfl⟩ : ∃ k1, gk = k1 + 1 := ⟨gk - 1, by have := HA.out; omega⟩
   obtain ⟨la, hsa, hRa⟩ := R_twn twn100 HI.out HO.out
   have hla := hsa.1
   obtain ⟨go5, co5, eo5, gb5, gl5, cl5, HG5⟩ := Kd.R_form hRa (by have h00 := HA.out.2.1; omega)
   (first | cases eo5 | (injection eo5 with ea_ en_ ec_; (first | subst ea_ | (injection ea_ with ea_; subst ea_)); subst ec_; clear en_))
   have GB5 := am gb5
   have GP5 := am (show P0_ go5 from HO.out.1 _ rfl)
   clear gb5 gl5 HG5 hRa hsa
   have p5 : 0 ≤ x5_1 := HA.out.2.1
   have q5 := c3
   replace p5 := eq_true p5
   replace q5 := eq_true q5
   clear c3
   obtain ⟨l1, hs0, hR0⟩ := R_twn twn100 HI.out HO.out
   obtain ⟨ce0, hcl0, hM0, hcc0, hfr0⟩ := Kd.R_elem hR0 z100 x5_1 (of_eq_true p5) (of_eq_true q5)
   obtain ⟨v0_2, rfl, hr0_2⟩ := k100_openM hM0
   have hx0 : wr.cell? ⟨go5, x5_1.toNat * 3, none⟩ = some _ := hcc0 0 _ rfl
   have hf0 : wr.frozen? ⟨go5, x5_1.toNat * 3, none⟩ = false := hfr0 0
   (try clear hM0)
   (try clear hfr0)
   (try clear hcc0)
   (try clear hcl0)
   (try clear hs0)
   (try clear hR0)
   (try clear hr0_2)
   go_wp2_with (first | ((with_reducible refine gate_store (t := 2) (p := 16) rfl ?_); refine store_event (t := 2) (p := 16) (v := ?vo_wq0) (w1 := (wr.setCell ⟨go5, x5_1.toNat * 3, none⟩ (.int .i64 x1_1))) ?hg ?ho ?hn ?hr ?_; (case ho => rfl); (case hg => rfl); (case hn => rfl); (case hr => exact gs); intro wq0 hw; replace HI := am (show Ish w wq0 P0_ by rw [hw]; exact HI.out.set hx0 (twin.ofInt _ _ _) (fun _ => GP5.out)); replace HB := am ((by rw [hw]; exact below_set (HB.out) GB5.out : Below w0.heap.size w0 wq0)); clear hw; clear hx0; clear hf0; obtain ⟨l2, hs1, hR1⟩ := R_twn twn100 HI.out HO.out; obtain ⟨ce1, hcl1, hM1, hcc1, hfr1⟩ := Kd.R_elem hR1 z100 x5_1 (of_eq_true p5) (of_eq_true q5); obtain ⟨v1_2, rfl, hr1_2⟩ := k100_openM hM1; have hx1 : wq0.cell? ⟨go5, x5_1.toNat * 3 + 1, none⟩ = some _ := hcc1 1 _ rfl; have hf1 : wq0.frozen? ⟨go5, x5_1.toNat * 3 + 1, none⟩ = false := hfr1 1; (try clear hM1); (try clear hfr1); (try clear hcc1); (try clear hcl1); (try clear hs1); (try clear hR1); (try clear hr1_2)) | ((with_reducible refine gate_store (t := 2) (p := 23) rfl ?_); refine store_event (t := 2) (p := 23) (v := ?vo_wq1) (w1 := (wq0.setCell ⟨go5, x5_1.toNat * 3 + 1, none⟩ (.int .i64 (wrap64 (x1_1 + 1))))) ?hg ?ho ?hn ?hr ?_; (case ho => rfl); (case hg => rfl); (case hn => rfl); (case hr => exact gs); intro wq1 hw; replace HI := am (show Ish w wq1 P0_ by rw [hw]; exact HI.out.set hx1 (twin.ofInt _ _ _) (fun _ => GP5.out)); replace HB := am ((by rw [hw]; exact below_set (HB.out) GB5.out : Below w0.heap.size w0 wq1)); clear hw; clear hx1; clear hf1; obtain ⟨l3, hs2, hR2⟩ := R_twn twn100 HI.out HO.out; obtain ⟨ce2, hcl2, hM2, hcc2, hfr2⟩ := Kd.R_elem hR2 z100 x5_1 (of_eq_true p5) (of_eq_true q5); obtain ⟨v2_2, rfl, hr2_2⟩ := k100_openM hM2; obtain ⟨A2, c2, rfl⟩ := Kd.R_slice hr2_2; have hx2 : wq1.cell? ⟨go5, x5_1.toNat * 3 + 2, none⟩ = some _ := hcc2 2 _ rfl; have HR2 := am hr2_2; have HS2 := am hs2; (try clear hM2); (try clear hfr2); (try clear hcc2); (try clear hcl2); (try clear hs2); (try clear hR2); (try clear hr2_2)) | (go_at_call 123; (refine (laws_markInsS.ish _ _ _ _ _ _ (bw HB) HR2.out).mono ?_); rintro e wq2 ⟨rfl, hb, hi⟩; replace HB := am hb; replace HI := am (HI.out.trans hi (fun b _ h_ => h_.1)); clear hb hi; clear hx2))
   go_roundg k1
   case measure => omega
   case rel =>
    have h1 := HA.out
    have hq : x5_1 < (l0.length : Int) := of_eq_true q5
    have hw1 : wrap64 (x5_1 + 1) = x5_1 + 1 := by unfold wrap64; omega
    have hlt : x5_1.toNat < l0.length := by omega
    have hsh2 := HS2.out.2 x5_1.toNat l0[x5_1.toNat] (l3.getD x5_1.toNat z100) (List.getElem?_eq_getElem hlt) (by rw [List.getD_eq_getElem?_getD, List.getElem?_eq_getElem (by have := HS2.out.1; omega)]; rfl)
    refine ⟨(laws_markInsS.mk (wrap64 ((wrap64 (x1_1 + 1)) + 1)) (l3.getD x5_1.toNat z100).f2), wrap64 (x5_1 + 1), dr, dr, ⟨by omega, by omega, by omega⟩, ⟨?_⟩, ⟨iw HI⟩, ⟨bw HB⟩⟩
    have h2 := HV.out
    rw [List.drop_eq_getElem_cons hlt] at h2
    rw [hw1, show (x5_1 + 1).toNat = x5_1.toNat + 1 by omega]
    rw [← laws_markInsS.mk_sh (show All2 _ _ _ from hsh2.2.2)]
    exact h2
  ·have c3b0 := decide_eq_false c3
   have hv := HV.out
   have h1 := HA.out
   rw [List.drop_of_length_le (by omega)] at hv
   have hv : x1_1 = laws_markFuncS.mk a1 l0 := hv
   clear c3
   go_wp2
   go_ret
   exact ⟨by first | rfl | (simp; done) | (simp [*]; done), bw HB, iw HI⟩
def laws_markFuncS.f (l0 : List (S100)) (a1 : Int) : Option Int := some (laws_markFuncS.mk a1 l0)
theorem laws_markFuncS.calls (P0_ : Nat → Prop) (u9000_ : Value) (l0 : List (S100)) (a1 : Int) (r1 : Int) (w0 w : World) (hB : Below w0.heap.size w0 w) (ho0 : Kd.R k100 100 w w0.heap.size P0_ u9000_ l0) (h : laws_markFuncS.f l0 a1 = some r1) :
  Calls Try.prog 62 #[u9000_, .int .i64 a1] w fun e w' => e = .returned (.int .i64 r1) ∧ Below w0.heap.size w0 w' ∧ Kept w w' (fun k_ => P0_ k_) := by
 have e : laws_markFuncS.mk a1 l0 = r1 := Option.some.inj h
 subst e
 exact (laws_markFuncS.ish P0_ u9000_ l0 a1 w0 w hB ho0).mono fun e w' hq => ⟨hq.1, hq.2.1, hq.2.2.kept⟩

def laws_markProgram.mk (a1 : Int) (l0_0 : List (S100)) : Int := (laws_markFuncS.mk a1 l0_0)
theorem laws_markProgram.mk_sh {a1 : Int} {l0_0 m0_0 : List (S100)} (h0_0 : All2 sh100 l0_0 m0_0) : laws_markProgram.mk a1 l0_0 = laws_markProgram.mk a1 m0_0 := by
 unfold laws_markProgram.mk
 rw [laws_markFuncS.mk_sh h0_0]
theorem laws_markProgram.ish (P0_0_ : Nat → Prop) (u0_0 : Value) (l0_0 : List (S100)) (a1 : Int) (w0 w : World) (hB : Below w0.heap.size w0 w) (ho0_0 : Kd.R k100 100 w w0.heap.size P0_0_ u0_0 l0_0) :
  Calls Try.prog 20 #[.agg #[u0_0], .int .i64 a1] w fun e w' => e = .returned (.int .i64 (laws_markProgram.mk a1 l0_0)) ∧ Below w0.heap.size w0 w' ∧ Ish w w' (fun k_ => P0_0_ k_) := by
 have hu30 := Try.underlying30
 have HB := am hB
 have HI := am (Ish.refl w (fun k_ => P0_0_ k_))
 have HS := am hB.size
 clear hB
 obtain ⟨A0_0, c0_0, rfl⟩ := Kd.R_slice ho0_0
 have HO0_0 := am (R_in ho0_0)
 clear ho0_0
 go_enter Try.func20, Try.ntmps20
 go_wp2_with (first | ((with_reducible refine gate_dst (N := 2) rfl ?_); refine box_event ?hg (N := 2) ?hd (cs := #[.slice A0_0 l0_0.length c0_0]) (t := 30) ?hr ?_; (case hd => rfl); (case hg => rfl); (case hr => exact gs); intro gb1 hg wz0 hbox hb; replace HB := am (below_step (bw HB) hb); have BK1 := am hbox; have GW1 := am (show w.heap.size ≤ gb1 by rw [hg]; exact (iw HI : Ish w _ _).size); replace HI := am (Ish.below (iw HI) hb); clear hb hbox hg; have hcz0_0 : wz0.cell? ⟨gb1, 0, none⟩ = some (.slice A0_0 l0_0.length c0_0) := bc BK1 0; have hfz0_0 := bf BK1 0) | (go_at_call 62; obtain ⟨m0_0, hm0_0, hR0_0⟩ := R_twn twn100 (iw HI : Ish w _ _) HO0_0.out; have e0_0 := hm0_0.1; (refine (laws_markFuncS.ish (fun k_ => P0_0_ k_ ∧ k_ < w.heap.size) _ _ _ w0 _ (bw HB) hR0_0).mono ?_); rintro e wz1 ⟨he_, hb, hi⟩; rw [← laws_markFuncS.mk_sh hm0_0] at he_; subst he_; replace HB := am hb; replace HI := am ((iw HI : Ish w _ (fun k_ => P0_0_ k_)).trans hi (fun k_ _ h_ => h_.1)); replace BK1 := am (Ish.box hi (bp BK1) (fun h_ => absurd (Nat.lt_of_lt_of_le h_.2 GW1.out) (Nat.lt_irrefl _))); clear hb hi; (try clear hR0_0); (try clear hm0_0 e0_0); (try clear hcz0_0); (try clear hfz0_0)))
 go_ret
 exact ⟨by first | rfl | (simp; done) | (simp [*]; done), bw HB, iw HI⟩
def laws_markProgram.f (l0_0 : List (S100)) (a1 : Int) : Option Int := some (laws_markProgram.mk a1 l0_0)
theorem laws_markProgram.calls (P0_0_ : Nat → Prop) (u9000_ : Value) (l0_0 : List (S100)) (a1 : Int) (r1 : Int) (w0 w : World) (hB : Below w0.heap.size w0 w) (ho0_0 : Kd.R k100 100 w w0.heap.size P0_0_ u9000_ l0_0) (h : laws_markProgram.f l0_0 a1 = some r1) :
  Calls Try.prog 20 #[.agg #[u9000_], .int .i64 a1] w fun e w' => e = .returned (.int .i64 r1) ∧ Below w0.heap.size w0 w' ∧ Kept w w' (fun k_ => P0_0_ k_) := by
 have e : laws_markProgram.mk a1 l0_0 = r1 := Option.some.inj h
 subst e
 exact (laws_markProgram.ish P0_0_ u9000_ l0_0 a1 w0 w hB ho0_0).mono fun e w' hq => ⟨hq.1, hq.2.1, hq.2.2.kept⟩

def laws_markInt64S.l0 : Nat → List Int → Int → Int → Option (Int × List Int)
 | 0, _, _, _ => none
 | k + 1, x0, x1, x5 => if x5 < (x0.length : Int) then (if 0 ≤ x5 then (laws_markInt64S.l0 k (x0.set (x5 : Int).toNat x1) (wrap64 (x1 + 1)) (wrap64 (x5 + 1))) else (none)) else (some (x1, x0))
def laws_markInt64S.f (k : Nat) (l0 : List Int) (a1 : Int) : Option (Int × List Int) := laws_markInt64S.l0 k l0 a1 0
theorem laws_markInt64S.mono_l : ∀ k, (∀ y0 y1 y2, LeO (laws_markInt64S.l0 k y0 y1 y2) (laws_markInt64S.l0 (k + 1) y0 y1 y2))
 | 0 => fun _ _ _ r h => by simp [laws_markInt64S.l0] at h
 | k + 1 => by
  have ih0 := laws_markInt64S.mono_l k
  ·intro y0 y1 y2
   unfold laws_markInt64S.l0
   repeat' first
   | (with_reducible exact ih0 _ _ _)
   | (with_reducible exact LeO.refl _)
   | (with_reducible exact LeO.none _)
   | (with_reducible refine LeO.ite ?_ ?_)
   | (with_reducible refine LeO.bind ?_ (fun _ => ?_))
theorem laws_markInt64S.mono : ∀ a0 a1 k, LeO (laws_markInt64S.f k a0 a1) (laws_markInt64S.f (k + 1) a0 a1) := by
 intro a0 a1 k
 have ih0 := laws_markInt64S.mono_l k
 unfold laws_markInt64S.f
 repeat' first
   | (with_reducible exact ih0 _ _ _)
   | (with_reducible exact LeO.refl _)
   | (with_reducible exact LeO.none _)
   | (with_reducible refine LeO.ite ?_ ?_)
   | (with_reducible refine LeO.bind ?_ (fun _ => ?_))
theorem laws_markInt64S.calls (k : Nat) (P0_ : Nat → Prop) (u9000_ : Value) (l0 : List Int) (a1 : Int) (r1 : Int) (r2 : List Int) (w0 w : World) (hB : Below w0.heap.size w0 w) (ho0 : Kd.R (Kd.int .i64) 2 w w0.heap.size P0_ u9000_ l0) (h : laws_markInt64S.f k l0 a1 = some (r1, r2)) :
  Calls Try.prog 21 #[u9000_, .int .i64 a1] w fun e w' => e = .returned (.int .i64 r1) ∧ Kd.R (Kd.int .i64) 2 w' w0.heap.size (fun k_ => (P0_ k_ ∨ w.heap.size ≤ k_)) u9000_ r2 ∧ Below w0.heap.size w0 w' ∧ Kept w w' (fun k_ => P0_ k_) := by
 have HO0 := am (show Kd.R (Kd.int .i64) 2 w w0.heap.size (fun k_ => (P0_ k_ ∨ w.heap.size ≤ k_)) u9000_ l0 from Kd.R_mono ho0 (fun k_ hk => (.inl hk)))
 have HK := am (Kept.refl w (fun k_ => P0_ k_))
 have HW0 := am hB.size
 have HB := am hB
 clear hB
 have H : (laws_markInt64S.l0 k l0 a1 0) = some (r1, r2) := h
 clear h
 have H' := am H
 clear H
 go_enter Try.func21, Try.ntmps21
 go_wp2
 go_loopg [1, 5] k (fun kq v1 v5 w' => ∃ (x0_1 : List Int) (x1_1 : Int) (x5_1 : Int), v1 = .int .i64 x1_1 ∧ v5 = .int .i64 x5_1 ∧ Aside0 (laws_markInt64S.l0 kq x0_1 x1_1 x5_1 = some (r1, r2)) ∧ Aside0 (kq ≤ k) ∧ Aside0 (Kd.R (Kd.int .i64) 2 w' w0.heap.size (fun k_ => (P0_ k_ ∨ w.heap.size ≤ k_)) u9000_ x0_1) ∧ Aside0 (Kept w w' (fun k_ => P0_ k_)) ∧ Aside0 (Below w0.heap.size w0 w'))
 case atStart => exact ⟨(l0), (a1), (0), dr, dr, H', ⟨Nat.le_refl _⟩, ⟨kR HO0⟩, ⟨by repeat (first | (with_reducible first | exact HK.out | apply Kept.alloc | apply Kept.drewN | apply Kept.drew) | exact HK.out)⟩, ⟨bw HB⟩⟩
 case round =>
  clear H'
  (try clear c2); (try clear p2)
  obtain ⟨x0_1, x1_1, x5_1, rfl, rfl, HA, HK1, HO_0, HK, HB⟩ := hrel
  cases gk with
  | zero => exact absurd HA.out (by simp [laws_markInt64S.l0])
  | succ k1 =>
   have H := HA.out
   clear HA
   simp only [laws_markInt64S.l0] at H
   by_cases c3 : x5_1 < (x0_1.length : Int)
   ·rw [if_pos c3] at H
    have c3b0 := decide_eq_true c3
    clear c3
    by_cases c4 : 0 ≤ x5_1
    ·rw [if_pos c4] at H
     have c4b0 := decide_eq_true c4
     clear c4
     obtain ⟨y155, hy155⟩ : ∃ y_ : List Int, y_ = (x0_1.set (x5_1 : Int).toNat x1_1) := ⟨_, rfl⟩
     replace H : (laws_markInt64S.l0 k1 y155 (wrap64 (x1_1 + 1)) (wrap64 (x5_1 + 1))) = some (r1, r2) := by first | (rw [hy155]; with_reducible exact H) | (have H2_ := (Option.bind_some _ _).symm.trans H; rw [hy155]; with_reducible exact H2_) | (have H2_ := (Option.bind_some _ _).symm.trans H; with_reducible exact H2_) | with_reducible exact H | (rw [hy155]; exact H) | exact H
     have Ny155 := am hy155
     clear hy155
     have H' := am H
     clear H
     obtain ⟨Ao6, co6, eo6⟩ := Kd.R_slice HO_0.out
     subst eo6
     have p5 : 0 ≤ (x5_1 : Int) := of_decide_eq_true as1
     have q5 : (x5_1 : Int) < ((x0_1.length : Int) : Int) := of_decide_eq_true as1
     obtain ⟨go5, co5, eo5, gb5, gl5, cl5, HG5⟩ := Kd.R_form HO_0.out (by omega)
     (first | cases eo5 | (injection eo5 with ea_ en_ ec_; (first | subst ea_ | (injection ea_ with ea_; subst ea_)); subst ec_; clear en_))
     have GB5 := am gb5
     have GG5 := am HG5
     clear gb5 gl5 HG5
     have HMgo5 := am (show (P0_ go5 ∨ w.heap.size ≤ go5) from (HO_0.out.1 _ rfl))
     obtain ⟨hx5_0, hf5_0⟩ := Kd.R_celln 0 HO_0.out (x5_1 : Int) p5 q5
     replace p5 := eq_true p5
     replace q5 := eq_true q5
     have HP7 := Kd.R_putg HO_0.out (x5_1 : Int) x1_1
     go_wp2_with (first | ((with_reducible refine gate_store (t := 2) (p := 15) rfl ?_); refine store_event (t := 2) (p := 15) (v := ?vo_w8) (w1 := (wr.setCell ⟨go5, (x5_1 : Int).toNat, none⟩ (.int .i64 x1_1))) ?hg ?ho ?hn ?hr ?_; (case ho => rfl); (case hg => rfl); (case hn => rfl); (case hr => exact gs); intro w8 hw; have hg : wr.grownBy w8 (some go5) := (by rw [hw]; exact HP7.2); have hp_ : Kd.R (Kd.int .i64) 2 w8 w0.heap.size (fun k_ => (P0_ k_ ∨ w.heap.size ≤ k_)) (.slice (some ⟨go5, 0, none⟩) x0_1.length co6) y155 := (by rw [hw, Ny155.out]; exact HP7.1); clear HP7; replace HB := am ((by rw [hw]; exact below_set (HB.out) GB5.out : Below w0.heap.size w0 w8)); replace HK := am (Kept.of_grown (S := (fun k_ => P0_ k_)) hg (by repeat (first | (with_reducible first | exact HK.out | apply Kept.alloc | apply Kept.drewN | apply Kept.drew) | exact HK.out)) (fun k_ e_ => (HO_0.out.1 k_ e_))); replace HO_0 := am (hp_); clear hg hw hp_))
     go_roundg k1
     case measure => have := HK1.out; omega
     case rel => exact ⟨(y155), (wrap64 (x1_1 + 1)), (wrap64 (x5_1 + 1)), dr, dr, H', ⟨by have := HK1.out; omega⟩, ⟨kR HO_0⟩, ⟨by repeat (first | (with_reducible first | exact HK.out | apply Kept.alloc | apply Kept.drewN | apply Kept.drew) | exact HK.out)⟩, ⟨bw HB⟩⟩
    ·rw [if_neg c4] at H
     exact absurd H (by simp)
   ·rw [if_neg c3] at H
    have c3b0 := decide_eq_false c3
    clear c3
    simp only [Option.some.injEq, Prod.mk.injEq] at H
    obtain ⟨rfl, rfl⟩ := H
    obtain ⟨Ao9, co9, eo9⟩ := Kd.R_slice HO_0.out
    subst eo9
    go_wp2
    go_ret
    exact ⟨er, kR HO_0, bw HB, by repeat (first | (with_reducible first | exact HK.out | apply Kept.alloc | apply Kept.drewN | apply Kept.drew) | exact HK.out)⟩

def laws_heldInt64S.l0 : Nat → List Int → Int → Int → Option (Int)
 | 0, _, _, _ => none
 | k + 1, x0, x1, x5 => if x5 < (x0.length : Int) then (if 0 ≤ x5 then (if (rd x0 x5) = x1 then (laws_heldInt64S.l0 k x0 (wrap64 (x1 + 1)) (wrap64 (x5 + 1))) else (some (-1))) else (none)) else (some x1)
def laws_heldInt64S.f (k : Nat) (l0 : List Int) (a1 : Int) : Option (Int) := laws_heldInt64S.l0 k l0 a1 0
theorem laws_heldInt64S.mono_l : ∀ k, (∀ y0 y1 y2, LeO (laws_heldInt64S.l0 k y0 y1 y2) (laws_heldInt64S.l0 (k + 1) y0 y1 y2))
 | 0 => fun _ _ _ r h => by simp [laws_heldInt64S.l0] at h
 | k + 1 => by
  have ih0 := laws_heldInt64S.mono_l k
  ·intro y0 y1 y2
   unfold laws_heldInt64S.l0
   repeat' first
   | (with_reducible exact ih0 _ _ _)
   | (with_reducible exact LeO.refl _)
   | (with_reducible exact LeO.none _)
   | (with_reducible refine LeO.ite ?_ ?_)
   | (with_reducible refine LeO.bind ?_ (fun _ => ?_))
theorem laws_heldInt64S.mono : ∀ a0 a1 k, LeO (laws_heldInt64S.f k a0 a1) (laws_heldInt64S.f (k + 1) a0 a1) := by
 intro a0 a1 k
 have ih0 := laws_heldInt64S.mono_l k
 unfold laws_heldInt64S.f
 repeat' first
   | (with_reducible exact ih0 _ _ _)
   | (with_reducible exact LeO.refl _)
   | (with_reducible exact LeO.none _)
   | (with_reducible refine LeO.ite ?_ ?_)
   | (with_reducible refine LeO.bind ?_ (fun _ => ?_))
theorem laws_heldInt64S.calls (k : Nat) (A0 : Option Addr) (c0 : Nat) (l0 : List Int) (a1 : Int) (r : Int) (w : World) (hr0 : Kd.C (Kd.int .i64) w A0 l0.length l0) (hc0 : l0.length ≤ c0) (h : laws_heldInt64S.f k l0 a1 = some r) :
  Calls Try.prog 22 #[.slice A0 l0.length c0, .int .i64 a1] w fun e w' => e = .returned (.int .i64 r) ∧ Drawn0 w w' := by
 have HR0 := am hr0
 have HC0 := am hc0
 clear hr0 hc0
 have H : (laws_heldInt64S.l0 k l0 a1 0) = some r := h
 clear h
 have H' := am H
 clear H
 go_enter Try.func22, Try.ntmps22
 go_wp2
 go_loopg [1, 5] k (fun kq v1 v5 w' => ∃ (x1_1 : Int) (x5_1 : Int), v1 = .int .i64 x1_1 ∧ v5 = .int .i64 x5_1 ∧ Aside0 (laws_heldInt64S.l0 kq l0 x1_1 x5_1 = some r) ∧ Aside0 (kq ≤ k) ∧ Drawn0 w w')
 case atStart => exact ⟨(a1), (0), dr, dr, H', ⟨Nat.le_refl _⟩, by repeat (first | exact Drawn0.refl _ | apply Drawn0.step)⟩
 case round =>
  clear H'
  (try clear c2); (try clear p2)
  obtain ⟨x1_1, x5_1, rfl, rfl, HA, HK1, ⟨m1, rfl⟩⟩ := hrel
  cases gk with
  | zero => exact absurd HA.out (by simp [laws_heldInt64S.l0])
  | succ k1 =>
   have H := HA.out
   clear HA
   simp only [laws_heldInt64S.l0] at H
   by_cases c3 : x5_1 < (l0.length : Int)
   ·rw [if_pos c3] at H
    have c3b0 := decide_eq_true c3
    clear c3
    by_cases c4 : 0 ≤ x5_1
    ·rw [if_pos c4] at H
     have c4b0 := decide_eq_true c4
     clear c4
     by_cases c5 : (rd l0 x5_1) = x1_1
     ·rw [if_pos c5] at H
      have c5b0 : ((rd l0 x5_1) == x1_1) = true := beq_iff_eq.mpr c5
      have c5b1 : ((rd l0 x5_1) != x1_1) = false := bne_eq_false_iff_eq.mpr c5
      clear c5
      have H' := am H
      clear H
      have p156 : 0 ≤ (x5_1 : Int) := of_decide_eq_true as1
      have q156 : x5_1 < (l0.length : Int) := of_decide_eq_true as1
      obtain ⟨ad156, e156, hx156_0⟩ := Kd.at_int HR0.out x5_1 p156 q156
      cases e156
      replace p156 := eq_true p156
      replace q156 := eq_true q156
      go_wp2
      go_roundg k1
      case measure => have := HK1.out; omega
      case rel => exact ⟨(wrap64 (x1_1 + 1)), (wrap64 (x5_1 + 1)), dr, dr, H', ⟨by have := HK1.out; omega⟩, by repeat (first | exact Drawn0.refl _ | apply Drawn0.step)⟩
     ·rw [if_neg c5] at H
      have c5b0 : ((rd l0 x5_1) == x1_1) = false := beq_eq_false_iff_ne.mpr c5
      have c5b1 : ((rd l0 x5_1) != x1_1) = true := bne_iff_ne.mpr c5
      obtain rfl := Option.some.inj H
      have p156 : 0 ≤ (x5_1 : Int) := of_decide_eq_true as1
      have q156 : x5_1 < (l0.length : Int) := of_decide_eq_true as1
      obtain ⟨ad156, e156, hx156_0⟩ := Kd.at_int HR0.out x5_1 p156 q156
      cases e156
      replace p156 := eq_true p156
      replace q156 := eq_true q156
      go_wp2
      go_ret
      exact ⟨by first | rfl | (simp; done) | (simp [*]; done), by repeat (first | exact Drawn0.refl _ | apply Drawn0.step)⟩
    ·rw [if_neg c4] at H
     exact absurd H (by simp)
   ·rw [if_neg c3] at H
    have c3b0 := decide_eq_false c3
    clear c3
    obtain rfl := Option.some.inj H
    go_wp2
    go_ret
    exact ⟨by first | rfl | (simp; done) | (simp [*]; done), by repeat (first | exact Drawn0.refl _ | apply Drawn0.step)⟩

def spec_l04Least.l0 : Nat → List Bool → Int → Option (Int)
 | 0, _, _ => none
 | k + 1, x0, x3 => if x3 < (x0.length : Int) then (if 0 ≤ x3 then (if rdOf false x0 x3 = true then (some x3) else (spec_l04Least.l0 k x0 (wrap64 (x3 + 1)))) else (none)) else (some (-1))
def spec_l04Least.f (k : Nat) (l0 : List Bool) : Option (Int) := spec_l04Least.l0 k l0 0
theorem spec_l04Least.mono_l : ∀ k, (∀ y0 y1, LeO (spec_l04Least.l0 k y0 y1) (spec_l04Least.l0 (k + 1) y0 y1))
 | 0 => fun _ _ r h => by simp [spec_l04Least.l0] at h
 | k + 1 => by
  have ih0 := spec_l04Least.mono_l k
  ·intro y0 y1
   unfold spec_l04Least.l0
   repeat' first
   | (with_reducible exact ih0 _ _)
   | (with_reducible exact LeO.refl _)
   | (with_reducible exact LeO.none _)
   | (with_reducible refine LeO.ite ?_ ?_)
   | (with_reducible refine LeO.bind ?_ (fun _ => ?_))
theorem spec_l04Least.mono : ∀ a0 k, LeO (spec_l04Least.f k a0) (spec_l04Least.f (k + 1) a0) := by
 intro a0 k
 have ih0 := spec_l04Least.mono_l k
 unfold spec_l04Least.f
 repeat' first
   | (with_reducible exact ih0 _ _)
   | (with_reducible exact LeO.refl _)
   | (with_reducible exact LeO.none _)
   | (with_reducible refine LeO.ite ?_ ?_)
   | (with_reducible refine LeO.bind ?_ (fun _ => ?_))
theorem spec_l04Least.calls (k : Nat) (A0 : Option Addr) (c0 : Nat) (l0 : List Bool) (r : Int) (w : World) (hr0 : Kd.C Kd.bool w A0 l0.length l0) (hc0 : l0.length ≤ c0) (h : spec_l04Least.f k l0 = some r) :
  Calls Try.prog 117 #[.slice A0 l0.length c0] w fun e w' => e = .returned (.int .i64 r) ∧ Drawn0 w w' := by
 have HR0 := am hr0
 have HC0 := am hc0
 clear hr0 hc0
 have H : (spec_l04Least.l0 k l0 0) = some r := h
 clear h
 have H' := am H
 clear H
 go_enter Try.func117, Try.ntmps117
 go_wp2
 go_loopg [3] k (fun kq v3 w' => ∃ (x3_1 : Int), v3 = .int .i64 x3_1 ∧ Aside0 (spec_l04Least.l0 kq l0 x3_1 = some r) ∧ Aside0 (kq ≤ k) ∧ Drawn0 w w')
 case atStart => exact ⟨(0), dr, H', ⟨Nat.le_refl _⟩, by repeat (first | exact Drawn0.refl _ | apply Drawn0.step)⟩
 case round =>
  clear H'
  try clear c1
  obtain ⟨x3_1, rfl, HA, HK1, ⟨m1, rfl⟩⟩ := hrel
  cases gk with
  | zero => exact absurd HA.out (by simp [spec_l04Least.l0])
  | succ k1 =>
   have H := HA.out
   clear HA
   simp only [spec_l04Least.l0] at H
   by_cases c2 : x3_1 < (l0.length : Int)
   ·rw [if_pos c2] at H
    have c2b0 := decide_eq_true c2
    clear c2
    by_cases c3 : 0 ≤ x3_1
    ·rw [if_pos c3] at H
     have c3b0 := decide_eq_true c3
     clear c3
     obtain ⟨bq4, hbq4⟩ : ∃ b_ : Bool, b_ = (rdOf false l0 x3_1) := ⟨_, rfl⟩
     replace H : (if bq4 = true then (some x3_1) else (spec_l04Least.l0 k1 l0 (wrap64 (x3_1 + 1)))) = some r := by rw [← hbq4] at H; exact H
     have Nbq4 := am hbq4
     clear hbq4
     by_cases c5 : bq4 = true
     ·subst c5
      have H1 : (some x3_1) = some r := by rw [if_pos rfl] at H; exact H
      clear H
      have H := H1
      clear H1
      obtain rfl := Option.some.inj H
      have p157 : 0 ≤ (x3_1 : Int) := of_decide_eq_true as1
      have q157 : x3_1 < (l0.length : Int) := of_decide_eq_true as1
      obtain ⟨ad157, e157, hx157_0⟩ := Kd.at_bool HR0.out x3_1 p157 q157
      (try rw [← Nbq4.out] at hx157_0)
      cases e157
      replace p157 := eq_true p157
      replace q157 := eq_true q157
      go_wp2
      go_ret
      exact ⟨by first | rfl | (simp; done) | (simp [*]; done), by repeat (first | exact Drawn0.refl _ | apply Drawn0.step)⟩
     ·replace c5 := Bool.eq_false_iff.mpr c5
      subst c5
      have H1 : (spec_l04Least.l0 k1 l0 (wrap64 (x3_1 + 1))) = some r := by rw [if_neg (show ¬ (false = true) by decide)] at H; exact H
      clear H
      have H := H1
      clear H1
      have H' := am H
      clear H
      have p157 : 0 ≤ (x3_1 : Int) := of_decide_eq_true as1
      have q157 : x3_1 < (l0.length : Int) := of_decide_eq_true as1
      obtain ⟨ad157, e157, hx157_0⟩ := Kd.at_bool HR0.out x3_1 p157 q157
      (try rw [← Nbq4.out] at hx157_0)
      cases e157
      replace p157 := eq_true p157
      replace q157 := eq_true q157
      go_wp2
      go_roundg k1
      case measure => have := HK1.out; omega
      case rel => exact ⟨(wrap64 (x3_1 + 1)), dr, H', ⟨by have := HK1.out; omega⟩, by repeat (first | exact Drawn0.refl _ | apply Drawn0.step)⟩
    ·rw [if_neg c3] at H
     exact absurd H (by simp)
   ·rw [if_neg c2] at H
    have c2b0 := decide_eq_false c2
    clear c2
    obtain rfl := Option.some.inj H
    go_wp2
    go_ret
    exact ⟨by first | rfl | (simp; done) | (simp [*]; done), by repeat (first | exact Drawn0.refl _ | apply Drawn0.step)⟩

def spec_l03Binary.f (a0 : Int) : Option (Bool) := if a0 ≥ 10 then (some (decide (a0 ≤ 23))) else (some false)
theorem spec_l03Binary.calls (a0 : Int) (r : Bool) (w : World) (h : spec_l03Binary.f a0 = some r) :
  Calls Try.prog 168 #[.int .i64 a0] w fun e w' => e = .returned (.bool r) ∧ Drawn0 w w' := by
 have H : (if a0 ≥ 10 then (some (decide (a0 ≤ 23))) else (some false)) = some r := h
 clear h
 by_cases c2 : a0 ≥ 10
 ·rw [if_pos c2] at H
  have c2b0 : decide (10 ≤ a0) = true := decide_eq_true c2
  clear c2
  obtain rfl := Option.some.inj H
  go_enter Try.func168, Try.ntmps168
  go_wp2
  go_ret
  exact ⟨by first | rfl | (simp; done) | (simp [*]; done), by repeat (first | exact Drawn0.refl _ | apply Drawn0.step)⟩
 ·rw [if_neg c2] at H
  have c2b0 : decide (10 ≤ a0) = false := decide_eq_false c2
  clear c2
  obtain rfl := Option.some.inj H
  go_enter Try.func168, Try.ntmps168
  go_wp2
  go_ret
  exact ⟨by first | rfl | (simp; done) | (simp [*]; done), by repeat (first | exact Drawn0.refl _ | apply Drawn0.step)⟩

def spec_l03Unary.f (a0 : Int) : Option (Bool) := if a0 ≥ 24 then (some (decide (a0 ≤ 29))) else (some false)
theorem spec_l03Unary.calls (a0 : Int) (r : Bool) (w : World) (h : spec_l03Unary.f a0 = some r) :
  Calls Try.prog 169 #[.int .i64 a0] w fun e w' => e = .returned (.bool r) ∧ Drawn0 w w' := by
 have H : (if a0 ≥ 24 then (some (decide (a0 ≤ 29))) else (some false)) = some r := h
 clear h
 by_cases c2 : a0 ≥ 24
 ·rw [if_pos c2] at H
  have c2b0 : decide (24 ≤ a0) = true := decide_eq_true c2
  clear c2
  obtain rfl := Option.some.inj H
  go_enter Try.func169, Try.ntmps169
  go_wp2
  go_ret
  exact ⟨by first | rfl | (simp; done) | (simp [*]; done), by repeat (first | exact Drawn0.refl _ | apply Drawn0.step)⟩
 ·rw [if_neg c2] at H
  have c2b0 : decide (24 ≤ a0) = false := decide_eq_false c2
  clear c2
  obtain rfl := Option.some.inj H
  go_enter Try.func169, Try.ntmps169
  go_wp2
  go_ret
  exact ⟨by first | rfl | (simp; done) | (simp [*]; done), by repeat (first | exact Drawn0.refl _ | apply Drawn0.step)⟩

end Go.Proofs.Ytbmjmaahcaoajaa.QFnExactHeaders
