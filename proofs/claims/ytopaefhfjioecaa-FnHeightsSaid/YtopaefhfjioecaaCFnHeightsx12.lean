import Derived.Test.YtopaefhfjioecaaCFnHeightsx0
import Derived.Test.YtopaefhfjioecaaCFnHeightsx11
namespace Go.Proofs.Ytopaefhfjioecaa.QFnHeights
open Go.RowKit Go.Proofs.YtopaefhfjioecaaW
open PrintWords PrintLast PrintMore PrintShort
attribute [local go_sem] max2_int min2_int max_two min_two max_three min_three max_four min_four   -- for this text's walks alone
set_option linter.unusedVariables false
set_option maxHeartbeats 8000000
set_option maxRecDepth 100000
set_option linter.unusedSimpArgs false

def impl_Heights.f (k : Nat) (l0_0 : List (S35)) (a1 : Int) : Option (List Int) := (impl_knownFunc.f k l0_0 a1).bind fun bt364 => (if bt364.2.2 = true then (if 0 ≤ a1 then (if a1 < (bt364.2.1.length : Int) then (some (rd_L7 bt364.2.1 a1)) else (none)) else (none)) else (some ([] : List Int)))
theorem impl_Heights.mono : ∀ a0 a1 k, LeO (impl_Heights.f k a0 a1) (impl_Heights.f (k + 1) a0 a1) := by
 intro a0 a1 k
 unfold impl_Heights.f
 with_reducible repeat' first | exact impl_knownFunc.mono .. | exact LeO.refl _ | exact LeO.none _ | refine LeO.ite ?_ ?_ | refine LeO.bind ?_ (fun _ => ?_)
theorem impl_Heights.calls (k : Nat) (A0_0 : Option Addr) (c0_0 : Nat) (l0_0 : List (S35)) (a1 : Int) (r : List Int) (w : World) (hr0_0 : Kd.C k35 w A0_0 l0_0.length l0_0) (hc0_0 : l0_0.length ≤ c0_0) (h : impl_Heights.f k l0_0 a1 = some r) :
  Calls Try.prog 11 #[.agg #[.slice A0_0 l0_0.length c0_0], .int .i64 a1] w fun e w' => ∃ v0_ : Value, e = .returned (v0_) ∧ Kd.R (Kd.int .i64) 2 w' w.heap.size (fun _ => True) v0_ r ∧ Below w.heap.size w w' := by
 have hu25 := Try.underlying25
 have HR0_0 := am hr0_0
 have HC0_0 := am hc0_0
 clear hr0_0 hc0_0
 have HB := am (Below.refl w.heap.size w)
 have H : ((impl_knownFunc.f k l0_0 a1).bind fun bt364 => (if bt364.2.2 = true then (if 0 ≤ a1 then (if a1 < (bt364.2.1.length : Int) then (some (rd_L7 bt364.2.1 a1)) else (none)) else (none)) else (some ([] : List Int)))) = some r := h
 clear h
 replace H := Option.bind_eq_some_iff.mp H
 obtain ⟨⟨t364, t367, t371⟩, A30, H⟩ := H
 replace H : (if t371 = true then (if 0 ≤ a1 then (if a1 < (t367.length : Int) then (some (rd_L7 t367 a1)) else (none)) else (none)) else (some ([] : List Int))) = some r := H
 have A3 := am A30
 clear A30
 have HC4 := am H
 clear H
 go_enter Try.func11, Try.ntmps11
 go_upto_if 14 with (first | ((with_reducible refine gd 2 rfl ?_); refine bX 2 #[.slice A0_0 l0_0.length c0_0] 25 HB ?_; clear HB; intro gb363 w5 hg hb BK363 GW363 HB; clear hb hg; have hcz6 := bK w5 BK363; have hfz6 := bF BK363) | ((with_reducible refine gk 35 rfl ?_); refine gC 35 (some 10) Try.func35 #[.agg #[.slice A0_0 l0_0.length c0_0], .int .i64 a1] ((impl_knownFunc.calls k (fun k_ => k_ < w.heap.size) _ _ l0_0 a1 t364 t367 t371 _ (Kd.V_mk HC0_0.out (Kd.F_below (Kd.C_F k35_heap HR0_0.out) (bw HB))) A3.out).mono ?_); rintro e w7 ⟨v365, v368, gb370, rfl, ho0, ho1, hbx, hgx, hb⟩; refine ⟨_, rfl, ?_⟩; have HO366 := am (Kd.V_lower (Kd.V_mono (ok' := fun k_ => some k_ ≠ (v368 : Value).ownBlock ∧ k_ ≠ gb363) ho0 (fun k_ hk_ => ⟨hk_.2, Or.elim hk_.1 (fun hs_ => fun e_ => Nat.not_le.2 hs_ (by rw [e_]; exact GW363.out)) (fun hn_ => (Kd.freshB (g := gb363) (o := .cells #[.slice A0_0 l0_0.length c0_0] 25 (0, 0)) (bp BK363) k_ hn_))⟩)) (below_size (bw HB))); have HO369 := am (Kd.S_lower (Kd.S_mono (ok' := fun k_ => True) ho1 (fun _ hk_ => trivial)) (below_size (bw HB))); have BK370 := am (hbx); have GW370 := am ((Nat.le_trans (below_size (bw HB)) hgx)); have GE370 := am ((Nat.le_trans (below_size (bw HB)) hgx)); have NB363_370 := am ((Nat.ne_of_lt (Nat.lt_of_lt_of_le (blk_lt (g := gb363) (o := .cells #[.slice A0_0 l0_0.length c0_0] 25 (0, 0)) (bp BK363)) hgx) : gb363 ≠ gb370)); have NB370_363 := am ((Nat.ne_of_gt (Nat.lt_of_lt_of_le (blk_lt (g := gb363) (o := .cells #[.slice A0_0 l0_0.length c0_0] 25 (0, 0)) (bp BK363)) hgx) : gb370 ≠ gb363)); replace BK363 := bb BK363 hb; replace HB := bs HB hb; clear hb; (try clear ho0); (try clear ho1); (try clear hbx); (try clear hgx)))
 (try simp only [Act.put, sa, sz, ss])
 have H := HC4.out
 clear HC4
 refine qT H ?_ ?_ <;> clear H <;> intro c8 H <;> subst c8
 ·refine iM H ?_; clear H; intro c9b0 H
  (first | rw [c9b0] | (simp only [i64_w, i32_w]; rw [c9b0]) | skip)
  refine iM H ?_; clear H; intro c10b0 H
  obtain rfl := Option.some.inj H
  have hnb11 := NB370_363.out
  have hnc11 := NB363_370.out
  have hcz12 := bK w7 BK370
  have hfz12 := bF BK370
  obtain ⟨Ao13, co13, eo13⟩ := Kd.S_slice HO369.out
  subst eo13
  have p372 : 0 ≤ (a1 : Int) := of_decide_eq_true as1
  have q372 : a1 < (t367.length : Int) := of_decide_eq_true as1
  obtain ⟨ad372, A372_0, c372_0, e372, hx372_0, hl372_0, hi372_0⟩ := at_L7 (Kd.S_reads' HO369.out).2.2 a1 p372 q372
  cases e372
  obtain ⟨ce372, hce372, hMe372, hcc372⟩ := Kd.S_get HO369.out [] a1 p372 (by first | exact q372 | exact of_decide_eq_true as1 | (have e_ := (Kd.S_reads' HO369.out).1; omega))
  obtain ⟨ve372_0, rfl, ge372_0⟩ := hMe372
  have hv372_0 := hcc372 0 _ rfl
  rw [Nat.add_zero, show ((Kd.slice 2 (Kd.int .i64))).sz = 1 from rfl, Nat.mul_one] at hv372_0
  replace hv372_0 := Option.some.inj (hv372_0.symm.trans hx372_0)
  rw [hv372_0] at ge372_0
  have HL372_0 := am (show Kd.R (Kd.int .i64) 2 _ _ _ _ (rd_L7 t367 a1) from ge372_0)
  clear hv372_0 ge372_0
  clear hcc372 hce372
  have HR372_0 := am hi372_0
  have HC372_0 := am hl372_0
  clear hi372_0 hl372_0
  replace p372 := eq_true p372
  replace q372 := eq_true q372
  go_wp2
  go_ret
  exact ⟨_, er, by (with_reducible repeat (first | apply Kd.R_alloc | apply Kd.R_drewN | apply Kd.R_drew)); exact Kd.R_mono HL372_0.out (fun _ hk => trivial), bw HB⟩
 obtain rfl := Option.some.inj H
 go_wp2
 go_ret
 exact ⟨_, er, by first | exact Kd.R_nil _ _ _ _ _ | exact Kd.N_nil _ _ _ _ _ | exact Kd.V_nil _ _ _ _ _ | exact Kd.Q_nil _ _ _ _ _ | exact Kd.S_nil _ _ _ _ _, bw HB⟩

def impl_prog_code.f (l0_0 : List (S35)) (l0_1 : List (List Int)) (a1 : Int) : Option ((List (S38))) := if 0 ≤ a1 then (if a1 < (l0_0.length : Int) then (some ((rd_T35 l0_0 a1).f2)) else (none)) else (none)
theorem impl_prog_code.calls (g0_ : Nat) (P0_0_ : Nat → Prop) (A0_0 : Option Addr) (c0_0 : Nat) (l0_0 : List (S35)) (A0_1 : Option Addr) (c0_1 : Nat) (l0_1 : List (List Int)) (a1 : Int) (r : List (S38)) (w : World) (hp0 : w.heap[g0_]? = some (.cells #[.slice A0_0 l0_0.length c0_0, .slice A0_1 l0_1.length c0_1] 67 (0, 0))) (hs0_0 : Kd.V k35 35 w w.heap.size (fun k_ => P0_0_ k_) (.slice A0_0 l0_0.length c0_0) l0_0) (hr0_1 : Kd.C (Kd.slice 2 (Kd.int .i64)) w A0_1 l0_1.length l0_1) (hc0_1 : l0_1.length ≤ c0_1) (h : impl_prog_code.f l0_0 l0_1 a1 = some r) :
  Calls Try.prog 77 #[.pointer (some ⟨g0_, 0, none⟩), .int .i64 a1] w fun e w' => ∃ v0_ : Value, e = .returned (v0_) ∧ Kd.V k38 38 w' w.heap.size (fun k_ => (P0_0_ k_ ∨ w.heap.size ≤ k_)) v0_ r ∧ Below w.heap.size w w' := by
 have HP0_ := am hp0
 clear hp0
 have HO0_0 := am (show Kd.V k35 35 w w.heap.size (fun k_ => (P0_0_ k_ ∨ w.heap.size ≤ k_)) (.slice A0_0 l0_0.length c0_0) l0_0 from Kd.V_mono hs0_0 (fun k_ hk => .inl hk))
 have HR0_1 := am hr0_1
 have HC0_1 := am hc0_1
 clear hr0_1 hc0_1
 have HB := am (Below.refl w.heap.size w)
 have H : (if 0 ≤ a1 then (if a1 < (l0_0.length : Int) then (some ((rd_T35 l0_0 a1).f2)) else (none)) else (none)) = some r := h
 clear h
 refine iM H ?_; clear H; intro c3b0 H
 refine iM H ?_; clear H; intro c4b0 H
 obtain rfl := Option.some.inj H
 have hcz5 := bK w HP0_
 have hfz5 := bF HP0_
 have p373 : 0 ≤ (a1 : Int) := of_decide_eq_true as1
 have q373 : a1 < (l0_0.length : Int) := of_decide_eq_true as1
 obtain ⟨ad373, A373_2, c373_2, e373, hx373_0, hx373_1, hx373_2, hl373_2, hi373_2⟩ := at_T35 (Kd.V_reads' HO0_0.out).2.2 a1 p373 q373
 cases e373
 obtain ⟨ce373, hce373, hMe373, hcc373⟩ := Kd.V_get HO0_0.out z35 a1 p373 (by first | exact q373 | exact of_decide_eq_true as1 | (have e_ := (Kd.V_reads' HO0_0.out).1; omega))
 obtain ⟨ua373_2, uc373_2, rfl, ul373_2, ge373_2⟩ := k35_openF hMe373
 have hv373_2 := hcc373 2 _ rfl
 rw [add_field _ _ 2 (by omega)] at hv373_2
 replace hv373_2 := Option.some.inj (hv373_2.symm.trans hx373_2)
 injection hv373_2 with hva_ hvn_ hvc_
 rw [hva_] at ge373_2
 rw [hvc_] at ul373_2
 have HL373_2 := am (show Kd.V k38 38 _ w.heap.size _ _ ((rd_T35 l0_0 a1).f2) from Kd.V_mk ul373_2 ge373_2)
 clear hva_ hvn_ hvc_ ge373_2 ul373_2
 clear hcc373 hce373
 have HR373_2 := am hi373_2
 have HC373_2 := am hl373_2
 clear hi373_2 hl373_2
 replace p373 := eq_true p373
 replace q373 := eq_true q373
 go_enter Try.func77, Try.ntmps77
 go_wp2
 go_ret
 exact ⟨_, er, kV HL373_2, bw HB⟩

mutual
def impl_prog_headers.l0 : Nat → Int → List Int → Int → Int → List (S35) → List (List Int) → Option (List Int)
 | 0, _, _, _, _, _, _ => none
 | k + 1, x1, x5, x12, x13, x1000, x1001 => if x13 < x12 then ((impl_prog_code.f x1000 x1001 x1).bind fun t377 => (impl_prog_headers.l1 k x1 x5 x13 x12 x13 t377 (t377.length : Int) 0 x1000 x1001)) else (some x5)
def impl_prog_headers.l1 : Nat → Int → List Int → Int → Int → Int → List (S38) → Int → Int → List (S35) → List (List Int) → Option (List Int)
 | 0, _, _, _, _, _, _, _, _, _, _ => none
 | k + 1, x1, x5, x6, x12, x13, x18, x19, x20, x1000, x1001 => if x20 < x19 then (if 0 ≤ x20 then (if x20 < (x18.length : Int) then (if 0 ≤ x1 then (if x1 < (x1001.length : Int) then (if x20 < ((rd_L7 x1001 x1).length : Int) then (if (rd (rd_L7 x1001 x1) x20) ≥ 0 then (if ((rd_T38 x18 x20).f0) = 30 then (if ((rd_T38 x18 x20).f1) = x6 then (impl_prog_headers.j2 k x1 x5 x6 x12 x13 x18 x19 x20 (decide (x20 ≥ x6)) x1000 x1001) else (impl_prog_headers.j2 k x1 x5 x6 x12 x13 x18 x19 x20 false x1000 x1001)) else (if ((rd_T38 x18 x20).f0) = 31 then (if ((rd_T38 x18 x20).f1) = x6 then (impl_prog_headers.j2 k x1 x5 x6 x12 x13 x18 x19 x20 (decide (x20 ≥ x6)) x1000 x1001) else (impl_prog_headers.j2 k x1 x5 x6 x12 x13 x18 x19 x20 false x1000 x1001)) else (impl_prog_headers.j2 k x1 x5 x6 x12 x13 x18 x19 x20 false x1000 x1001))) else (impl_prog_headers.j2 k x1 x5 x6 x12 x13 x18 x19 x20 false x1000 x1001)) else (none)) else (none)) else (none)) else (none)) else (none)) else (impl_prog_headers.l0 k x1 x5 x12 (wrap64 (x13 + 1)) x1000 x1001)
def impl_prog_headers.j2 : Nat → Int → List Int → Int → Int → Int → List (S38) → Int → Int → Bool → List (S35) → List (List Int) → Option (List Int)
 | 0, _, _, _, _, _, _, _, _, _, _, _ => none
 | k + 1, x1, x5, x6, x12, x13, x18, x19, x20, x56, x1000, x1001 => if x56 = true then (if x5.length < 17592186044416 then (impl_prog_headers.l0 k x1 (x5 ++ [x6]) x12 (wrap64 (x13 + 1)) x1000 x1001) else (none)) else (impl_prog_headers.l1 k x1 x5 x6 x12 x13 x18 x19 (wrap64 (x20 + 1)) x1000 x1001)
end
def impl_prog_headers.f (k : Nat) (l0_0 : List (S35)) (l0_1 : List (List Int)) (a1 : Int) : Option (List Int) := (impl_prog_code.f l0_0 l0_1 a1).bind fun t374 => (impl_prog_headers.l0 k a1 ([] : List Int) (t374.length : Int) 0 l0_0 l0_1)
theorem impl_prog_headers.mono_l : ∀ k, (∀ y0 y1 y2 y3 y4 y5, LeO (impl_prog_headers.l0 k y0 y1 y2 y3 y4 y5) (impl_prog_headers.l0 (k + 1) y0 y1 y2 y3 y4 y5)) ∧ (∀ y0 y1 y2 y3 y4 y5 y6 y7 y8 y9, LeO (impl_prog_headers.l1 k y0 y1 y2 y3 y4 y5 y6 y7 y8 y9) (impl_prog_headers.l1 (k + 1) y0 y1 y2 y3 y4 y5 y6 y7 y8 y9)) ∧ (∀ y0 y1 y2 y3 y4 y5 y6 y7 y8 y9 y10, LeO (impl_prog_headers.j2 k y0 y1 y2 y3 y4 y5 y6 y7 y8 y9 y10) (impl_prog_headers.j2 (k + 1) y0 y1 y2 y3 y4 y5 y6 y7 y8 y9 y10))
 | 0 => ⟨fun _ _ _ _ _ _ r h => by simp [impl_prog_headers.l0] at h, fun _ _ _ _ _ _ _ _ _ _ r h => by simp [impl_prog_headers.l1] at h, fun _ _ _ _ _ _ _ _ _ _ _ r h => by simp [impl_prog_headers.j2] at h⟩
 | k + 1 => by
  obtain ⟨ih0, ih1, ih2⟩ := impl_prog_headers.mono_l k
  refine ⟨?_, ?_, ?_⟩
  ·intro y0 y1 y2 y3 y4 y5
   unfold impl_prog_headers.l0
   with_reducible repeat' first | exact ih0 .. | exact ih1 .. | exact ih2 .. | exact LeO.refl _ | exact LeO.none _ | refine LeO.ite ?_ ?_ | refine LeO.bind ?_ (fun _ => ?_)
  ·intro y0 y1 y2 y3 y4 y5 y6 y7 y8 y9
   unfold impl_prog_headers.l1
   with_reducible repeat' first | exact ih0 .. | exact ih1 .. | exact ih2 .. | exact LeO.refl _ | exact LeO.none _ | refine LeO.ite ?_ ?_ | refine LeO.bind ?_ (fun _ => ?_)
  ·intro y0 y1 y2 y3 y4 y5 y6 y7 y8 y9 y10
   unfold impl_prog_headers.j2
   with_reducible repeat' first | exact ih0 .. | exact ih1 .. | exact ih2 .. | exact LeO.refl _ | exact LeO.none _ | refine LeO.ite ?_ ?_ | refine LeO.bind ?_ (fun _ => ?_)
theorem impl_prog_headers.mono : ∀ a0 a1 a2 k, LeO (impl_prog_headers.f k a0 a1 a2) (impl_prog_headers.f (k + 1) a0 a1 a2) := by
 intro a0 a1 a2 k
 obtain ⟨ih0, ih1, ih2⟩ := impl_prog_headers.mono_l k
 unfold impl_prog_headers.f
 with_reducible repeat' first | exact ih0 .. | exact ih1 .. | exact ih2 .. | exact LeO.refl _ | exact LeO.none _ | refine LeO.ite ?_ ?_ | refine LeO.bind ?_ (fun _ => ?_)
theorem impl_prog_headers.calls (k : Nat) (g0_ : Nat) (A0_0 : Option Addr) (c0_0 : Nat) (l0_0 : List (S35)) (A0_1 : Option Addr) (c0_1 : Nat) (l0_1 : List (List Int)) (a1 : Int) (r : List Int) (w : World) (hp0 : w.heap[g0_]? = some (.cells #[.slice A0_0 l0_0.length c0_0, .slice A0_1 l0_1.length c0_1] 67 (0, 0))) (hr0_0 : Kd.C k35 w A0_0 l0_0.length l0_0) (hc0_0 : l0_0.length ≤ c0_0) (hr0_1 : Kd.C (Kd.slice 2 (Kd.int .i64)) w A0_1 l0_1.length l0_1) (hc0_1 : l0_1.length ≤ c0_1) (h : impl_prog_headers.f k l0_0 l0_1 a1 = some r) :
  Calls Try.prog 36 #[.pointer (some ⟨g0_, 0, none⟩), .int .i64 a1] w fun e w' => ∃ v0_ : Value, e = .returned (v0_) ∧ Kd.R (Kd.int .i64) 2 w' w.heap.size (fun _ => True) v0_ r ∧ Below w.heap.size w w' := by
 have hu38 := Try.underlying38
 have HP0_ := am hp0
 clear hp0
 have HR0_0 := am hr0_0
 have HC0_0 := am hc0_0
 clear hr0_0 hc0_0
 have HR0_1 := am hr0_1
 have HC0_1 := am hc0_1
 clear hr0_1 hc0_1
 have HB := am (Below.refl w.heap.size w)
 have H : ((impl_prog_code.f l0_0 l0_1 a1).bind fun t374 => (impl_prog_headers.l0 k a1 ([] : List Int) (t374.length : Int) 0 l0_0 l0_1)) = some r := h
 clear h
 refine be H ?_; clear H; intro t374 A3 H
 have H' := am H
 clear H
 go_enter Try.func36, Try.ntmps36
 go_wp2_with (first | ((with_reducible refine gk 77 rfl ?_); refine gC 77 (some 11) Try.func77 #[.pointer (some ⟨g0_, 0, none⟩), .int .i64 a1] ((impl_prog_code.calls g0_ (fun k_ => k_ < w.heap.size) A0_0 c0_0 l0_0 A0_1 c0_1 l0_1 a1 t374 _ (bp HP0_) (Kd.V_mk HC0_0.out (Kd.F_below (Kd.C_F k35_heap HR0_0.out) (bw HB))) (by repeat (first | exact HR0_1.out | (with_reducible refine Kd.C_alloc ?_ _) | (with_reducible refine Kd.C_drewN ?_ _) | (with_reducible refine Kd.C_drew ?_))) HC0_1.out A3.out).mono ?_); rintro e w4 ⟨v375, rfl, ho0, hb⟩; refine ⟨_, rfl, ?_⟩; have HO376 := am (Kd.V_lower (Kd.V_mono (ok' := fun k_ => True) ho0 (fun k_ hk_ => trivial)) (below_size (bw HB))); replace HP0_ := bb HP0_ hb; replace HB := bs HB hb; clear hb; (try clear ho0); obtain ⟨Ao5, co5, eo5⟩ := Kd.V_slice HO376.out; subst eo5))
 go_loopg [5, 13] k (fun kq v5 v13 w' => ∃ (x5_1 : List Int) (x13_1 : Int), v13 = .int .i64 x13_1 ∧ Aside0 (impl_prog_headers.l0 kq a1 x5_1 (t374.length : Int) x13_1 l0_0 l0_1 = some r) ∧ Aside0 (kq ≤ k) ∧ Aside0 (Kd.R (Kd.int .i64) 2 w' w.heap.size (fun _ => True) v5 x5_1) ∧ Aside0 (w'.heap[g0_]? = some (.cells #[(.slice A0_0 l0_0.length c0_0), (.slice A0_1 l0_1.length c0_1)] 67 (0, 0))) ∧ Aside0 (Below w.heap.size w w'))
 case atStart => exact ⟨(([] : List Int)), (0), dr, H', ⟨Nat.le_refl _⟩, ⟨by first | exact Kd.R_nil _ _ _ _ _ | exact Kd.N_nil _ _ _ _ _ | exact Kd.V_nil _ _ _ _ _ | exact Kd.Q_nil _ _ _ _ _ | exact Kd.S_nil _ _ _ _ _⟩, ⟨bp HP0_⟩, ⟨bw HB⟩⟩
 clear H'
 (try clear p2); (try clear c3)
 obtain ⟨x5_1, x13_1, rfl, HA, HK1, HO_5, HP0_, HB⟩ := hrel
 rcases gk with _ | k1
 ·exact absurd HA.out (by simp [impl_prog_headers.l0])
 have H := HA.out
 clear HA
 simp only [impl_prog_headers.l0] at H
 by_cases c6 : x13_1 < (t374.length : Int)
 ·rw [if_pos c6] at H
  have c6b0 := decide_eq_true c6
  clear c6
  refine be H ?_; clear H; intro t377 A7 H
  have H' := am H
  clear H
  go_wp2_with (first | ((with_reducible refine gk 77 rfl ?_); refine gC 77 (some 18) Try.func77 #[.pointer (some ⟨g0_, 0, none⟩), .int .i64 a1] ((impl_prog_code.calls g0_ (fun k_ => k_ < w.heap.size) A0_0 c0_0 l0_0 A0_1 c0_1 l0_1 a1 t377 _ (bp HP0_) (Kd.V_mk HC0_0.out (Kd.F_below (Kd.C_F k35_heap HR0_0.out) (bw HB))) (cc (Kd.C_below HR0_1.out HB.out)) HC0_1.out A7.out).mono ?_); rintro e w8 ⟨v378, rfl, ho0, hb⟩; refine ⟨_, rfl, ?_⟩; have HO379 := am (Kd.V_lower (Kd.V_mono (ok' := fun k_ => some k_ ≠ (u5 : Value).ownBlock) ho0 (fun k_ hk_ => Or.elim hk_ (fun hs_ => fun e_ => Nat.not_le.2 hs_ (Kd.R_base HO_5.out k_ e_.symm)) (fun hn_ => (Kd.fresh' (Kd.R_lt (kR HO_5)) k_ hn_)))) (below_size (bw HB))); replace HO_5 := am (Kd.R_below (kR HO_5) hb); replace HP0_ := bb HP0_ hb; replace HB := bs HB hb; clear hb; (try clear ho0); obtain ⟨Ao9, co9, eo9⟩ := Kd.V_slice HO379.out; subst eo9))
  go_loopg [5, 20] k1 (fun kq v5 v20 w' => ∃ (x5_2 : List Int) (x20_2 : Int), v20 = .int .i64 x20_2 ∧ Aside0 (impl_prog_headers.l1 kq a1 x5_2 x13_1 (t374.length : Int) x13_1 t377 (t377.length : Int) x20_2 l0_0 l0_1 = some r) ∧ Aside0 (kq ≤ k1) ∧ Aside0 (Kd.R (Kd.int .i64) 2 w' w.heap.size (fun _ => True) v5 x5_2) ∧ Aside0 (Kd.V k38 38 w' w.heap.size (fun k_ => some k_ ≠ (v5 : Value).ownBlock) (.slice Ao9 t377.length co9) t377) ∧ Aside0 (w'.heap[g0_]? = some (.cells #[(.slice A0_0 l0_0.length c0_0), (.slice A0_1 l0_1.length c0_1)] 67 (0, 0))) ∧ Aside0 (Below w.heap.size w w'))
  case atStart => exact ⟨(x5_1), (0), dr, H', ⟨Nat.le_refl _⟩, ⟨kR HO_5⟩, ⟨kV HO379⟩, ⟨bp HP0_⟩, ⟨bw HB⟩⟩
  clear H'
  (try clear p2); (try clear c3); (try clear c6); (try clear c6b0); (try clear c7); (try clear p2)
  obtain ⟨x5_2, x20_2, rfl, HA, HK2, HO_5, HO_18, HP0_, HB⟩ := hrel
  rcases gk with _ | k2
  ·exact absurd HA.out (by simp [impl_prog_headers.l1])
  have H := HA.out
  clear HA
  simp only [impl_prog_headers.l1] at H
  by_cases c10 : x20_2 < (t377.length : Int)
  ·rw [if_pos c10] at H
   have c10b0 := decide_eq_true c10
   clear c10
   refine iN H ?_; clear H; intro c11 H
   have c11b0 := decide_eq_true c11
   clear c11
   refine iN H ?_; clear H; intro c12 H
   have c12b0 := decide_eq_true c12
   clear c12
   have HC13 := am H
   clear H
   have p380 : 0 ≤ (x20_2 : Int) := of_decide_eq_true as1
   have q380 : x20_2 < (t377.length : Int) := of_decide_eq_true as1
   obtain ⟨ad380, e380, hx380_0, hx380_1⟩ := at_T38 (Kd.V_reads' HO_18.out).2.2 x20_2 p380 q380
   cases e380
   replace p380 := eq_true p380
   replace q380 := eq_true q380
   go_upto_region 8 with (first | ((with_reducible refine gd 8 rfl ?_); refine bX 8 #[.int .i64 0, .int .i64 0] 38 HB ?_; clear HB; intro gb381 w14 hg hb BK381 GW381 HB; replace HO_5 := am (Kd.R_below (kR HO_5) hb); replace HO_18 := am (Kd.V_below (Kd.V_elderB (kV HO_18) gb381 (Nat.le_of_eq hg.symm)) hb); obtain ⟨NB0_381, NB381_0, HP0_⟩ := b3 hg HP0_ hb; clear hb hg; have hnb15 := NB381_0.out; have hnc15 := NB0_381.out; have hcz16 := bK w14 BK381; have hfz16 := bF BK381))
   (try simp only [Act.put, sa, sz, ss])
   go_cut [56] (fun v56 wc => ∃ (kq : Nat) (x56_12 : Bool), v56 = .bool x56_12 ∧ Aside0 (impl_prog_headers.j2 kq a1 x5_2 x13_1 (t374.length : Int) x13_1 t377 (t377.length : Int) x20_2 x56_12 l0_0 l0_1 = some r) ∧ Aside0 (kq ≤ k2) ∧ Aside0 (Kd.R (Kd.int .i64) 2 wc w.heap.size (fun _ => True) u5 x5_2) ∧ Aside0 (Kd.V k38 38 wc w.heap.size (fun k_ => some k_ ≠ (u5 : Value).ownBlock ∧ k_ ≠ gb381) (.slice (some ad380) t377.length co9) t377) ∧ Aside0 (wc.heap[g0_]? = some (.cells #[(.slice A0_0 l0_0.length c0_0), (.slice A0_1 l0_1.length c0_1)] 67 (0, 0))) ∧ Aside0 (wc.heap[gb381]? = some (.cells #[.int .i64 ((rd_T38 t377 x20_2).f0), .int .i64 ((rd_T38 t377 x20_2).f1)] 38 (0, 0))) ∧ Aside0 (Below w.heap.size w wc))
   case first =>
    have H := HC13.out
    clear HC13
    refine iM H ?_; clear H; intro c17b0 H
    (first | rw [c17b0] | (simp only [i64_w, i32_w]; rw [c17b0]) | skip)
    refine iM H ?_; clear H; intro c18b0 H
    refine iM H ?_; clear H; intro c19b0 H
    refine qL H ?_ ?_ <;> clear H <;> intro c20b0 H
    ·refine qE H ?_ ?_ <;> clear H
     ·intro c21b0 c21b1 H
      refine qE H ?_ ?_ <;> clear H
      ·intro c22b0 c22b1 H
       have H' := am H
       clear H
       have hnb23 := NB0_381.out
       have hnc23 := NB381_0.out
       have hcz24 := bK w14 HP0_
       have hfz24 := bF HP0_
       have p382 : 0 ≤ (a1 : Int) := of_decide_eq_true as1
       have q382 : a1 < (l0_1.length : Int) := of_decide_eq_true as1
       obtain ⟨ad382, A382_0, c382_0, e382, hx382_0, hl382_0, hi382_0⟩ := at_L7 HR0_1.out a1 p382 q382
       cases e382
       have hn382_0 : ad382.block ≠ gb381 := Nat.ne_of_lt (Nat.lt_of_lt_of_le (by have := World.block_lt_of_cell? _ _ hx382_0; first | rwa [add_block] at this | exact this) GW381.out)
       have hn382_1 : ad382.block ≠ gb381 := Nat.ne_of_lt (Nat.lt_of_lt_of_le (by have := World.block_lt_of_cell? _ _ hx382_0; first | rwa [add_block] at this | exact this) GW381.out)
       replace hx382_0 := cl HB hx382_0
       have HR382_0 := am hi382_0
       have HC382_0 := am hl382_0
       clear hi382_0 hl382_0
       replace hx382_0 := (cell_far (p := ⟨gb381, 0, none⟩) (by first | (rw [add_block]; exact hn382_0) | (show (Addr.add _ _).block ≠ _; rw [add_block]; exact hn382_0) | exact hn382_0) (.int .i64 ((rd_T38 t377 x20_2).f0))).trans hx382_0
       replace hx382_0 := (cell_far (p := ⟨gb381, 1, none⟩) (by first | (rw [add_block]; exact hn382_1) | (show (Addr.add _ _).block ≠ _; rw [add_block]; exact hn382_1) | exact hn382_1) (.int .i64 ((rd_T38 t377 x20_2).f1))).trans hx382_0
       clear hn382_0
       clear hn382_1
       replace p382 := eq_true p382
       replace q382 := eq_true q382
       have p383 : 0 ≤ (x20_2 : Int) := of_decide_eq_true as1
       have q383 : x20_2 < ((rd_L7 l0_1 a1).length : Int) := of_decide_eq_true as1
       obtain ⟨ad383, e383, hx383_0⟩ := Kd.at_int HR382_0.out x20_2 p383 q383
       cases e383
       have hn383_0 : ad383.block ≠ gb381 := Nat.ne_of_lt (Nat.lt_of_lt_of_le (by have := World.block_lt_of_cell? _ _ hx383_0; first | rwa [add_block] at this | exact this) GW381.out)
       have hn383_1 : ad383.block ≠ gb381 := Nat.ne_of_lt (Nat.lt_of_lt_of_le (by have := World.block_lt_of_cell? _ _ hx383_0; first | rwa [add_block] at this | exact this) GW381.out)
       replace hx383_0 := cl HB hx383_0
       replace hx383_0 := (cell_far (p := ⟨gb381, 0, none⟩) (by first | (rw [add_block]; exact hn383_0) | (show (Addr.add _ _).block ≠ _; rw [add_block]; exact hn383_0) | exact hn383_0) (.int .i64 ((rd_T38 t377 x20_2).f0))).trans hx383_0
       replace hx383_0 := (cell_far (p := ⟨gb381, 1, none⟩) (by first | (rw [add_block]; exact hn383_1) | (show (Addr.add _ _).block ≠ _; rw [add_block]; exact hn383_1) | exact hn383_1) (.int .i64 ((rd_T38 t377 x20_2).f1))).trans hx383_0
       clear hn383_0
       clear hn383_1
       replace p383 := eq_true p383
       replace q383 := eq_true q383
       have hcz25 := bK w14 BK381
       have hfz25 := bF BK381
       go_wp2
       go_meet
       case rel => exact ⟨_, (decide (x20_2 ≥ x13_1)), dr, H', ⟨lk2 HK1 HK2⟩, ⟨by (with_reducible repeat (first | apply Kd.R_alloc | apply Kd.R_drewN | apply Kd.R_drew)); exact Kd.R_mono (Kd.R_far (p := ⟨gb381, 1, none⟩) (Kd.R_far (p := ⟨gb381, 0, none⟩) (Kd.R_types HO_5.out BK381.out (by decide)) (fun _ hk => hk.2) (.int .i64 ((rd_T38 t377 x20_2).f0))) (fun _ hk => hk.2) (.int .i64 ((rd_T38 t377 x20_2).f1))) (fun _ hk => trivial)⟩, ⟨by (with_reducible repeat (first | apply Kd.V_alloc | apply Kd.V_drewN | apply Kd.V_drew)); exact Kd.V_mono (Kd.V_far (p := ⟨gb381, 1, none⟩) (Kd.V_far (p := ⟨gb381, 0, none⟩) (Kd.V_mono HO_18.out (fun k_ hk => (⟨hk, hk.2⟩ : _ ∧ k_ ≠ gb381))) (fun _ hk => hk.2) (.int .i64 ((rd_T38 t377 x20_2).f0))) (fun _ hk => hk.2) (.int .i64 ((rd_T38 t377 x20_2).f1))) (fun _ hk => ⟨hk.1.1, hk.1.2⟩)⟩, ⟨by (with_reducible repeat (first | apply dN | apply dW | apply dA)); refine blk_far ?_ NB0_381.out _; (with_reducible repeat (first | apply dN | apply dW | apply dA)); refine blk_far ?_ NB0_381.out _; exact bp HP0_⟩, ⟨by (with_reducible repeat (first | apply dN | apply dW | apply dA)); refine blk_put (cs := #[.int .i64 ((rd_T38 t377 x20_2).f0), .int .i64 0]) ?_ 1 _ rfl; (with_reducible repeat (first | apply dN | apply dW | apply dA)); refine blk_put (cs := #[.int .i64 0, .int .i64 0]) ?_ 0 _ rfl; exact bp BK381⟩, ⟨bw HB⟩⟩
      intro c22 c22b0 c22b1 H
      have H' := am H
      clear H
      have hnb26 := NB0_381.out
      have hnc26 := NB381_0.out
      have hcz27 := bK w14 HP0_
      have hfz27 := bF HP0_
      have p382 : 0 ≤ (a1 : Int) := of_decide_eq_true as1
      have q382 : a1 < (l0_1.length : Int) := of_decide_eq_true as1
      obtain ⟨ad382, A382_0, c382_0, e382, hx382_0, hl382_0, hi382_0⟩ := at_L7 HR0_1.out a1 p382 q382
      cases e382
      have hn382_0 : ad382.block ≠ gb381 := Nat.ne_of_lt (Nat.lt_of_lt_of_le (by have := World.block_lt_of_cell? _ _ hx382_0; first | rwa [add_block] at this | exact this) GW381.out)
      have hn382_1 : ad382.block ≠ gb381 := Nat.ne_of_lt (Nat.lt_of_lt_of_le (by have := World.block_lt_of_cell? _ _ hx382_0; first | rwa [add_block] at this | exact this) GW381.out)
      replace hx382_0 := cl HB hx382_0
      have HR382_0 := am hi382_0
      have HC382_0 := am hl382_0
      clear hi382_0 hl382_0
      replace hx382_0 := (cell_far (p := ⟨gb381, 0, none⟩) (by first | (rw [add_block]; exact hn382_0) | (show (Addr.add _ _).block ≠ _; rw [add_block]; exact hn382_0) | exact hn382_0) (.int .i64 ((rd_T38 t377 x20_2).f0))).trans hx382_0
      replace hx382_0 := (cell_far (p := ⟨gb381, 1, none⟩) (by first | (rw [add_block]; exact hn382_1) | (show (Addr.add _ _).block ≠ _; rw [add_block]; exact hn382_1) | exact hn382_1) (.int .i64 ((rd_T38 t377 x20_2).f1))).trans hx382_0
      clear hn382_0
      clear hn382_1
      replace p382 := eq_true p382
      replace q382 := eq_true q382
      have p383 : 0 ≤ (x20_2 : Int) := of_decide_eq_true as1
      have q383 : x20_2 < ((rd_L7 l0_1 a1).length : Int) := of_decide_eq_true as1
      obtain ⟨ad383, e383, hx383_0⟩ := Kd.at_int HR382_0.out x20_2 p383 q383
      cases e383
      have hn383_0 : ad383.block ≠ gb381 := Nat.ne_of_lt (Nat.lt_of_lt_of_le (by have := World.block_lt_of_cell? _ _ hx383_0; first | rwa [add_block] at this | exact this) GW381.out)
      have hn383_1 : ad383.block ≠ gb381 := Nat.ne_of_lt (Nat.lt_of_lt_of_le (by have := World.block_lt_of_cell? _ _ hx383_0; first | rwa [add_block] at this | exact this) GW381.out)
      replace hx383_0 := cl HB hx383_0
      replace hx383_0 := (cell_far (p := ⟨gb381, 0, none⟩) (by first | (rw [add_block]; exact hn383_0) | (show (Addr.add _ _).block ≠ _; rw [add_block]; exact hn383_0) | exact hn383_0) (.int .i64 ((rd_T38 t377 x20_2).f0))).trans hx383_0
      replace hx383_0 := (cell_far (p := ⟨gb381, 1, none⟩) (by first | (rw [add_block]; exact hn383_1) | (show (Addr.add _ _).block ≠ _; rw [add_block]; exact hn383_1) | exact hn383_1) (.int .i64 ((rd_T38 t377 x20_2).f1))).trans hx383_0
      clear hn383_0
      clear hn383_1
      replace p383 := eq_true p383
      replace q383 := eq_true q383
      have hcz28 := bK w14 BK381
      have hfz28 := bF BK381
      go_wp2
      go_meet
      case rel => exact ⟨_, (false), dr, H', ⟨lk2 HK1 HK2⟩, ⟨by (with_reducible repeat (first | apply Kd.R_alloc | apply Kd.R_drewN | apply Kd.R_drew)); exact Kd.R_mono (Kd.R_far (p := ⟨gb381, 1, none⟩) (Kd.R_far (p := ⟨gb381, 0, none⟩) (Kd.R_types HO_5.out BK381.out (by decide)) (fun _ hk => hk.2) (.int .i64 ((rd_T38 t377 x20_2).f0))) (fun _ hk => hk.2) (.int .i64 ((rd_T38 t377 x20_2).f1))) (fun _ hk => trivial)⟩, ⟨by (with_reducible repeat (first | apply Kd.V_alloc | apply Kd.V_drewN | apply Kd.V_drew)); exact Kd.V_mono (Kd.V_far (p := ⟨gb381, 1, none⟩) (Kd.V_far (p := ⟨gb381, 0, none⟩) (Kd.V_mono HO_18.out (fun k_ hk => (⟨hk, hk.2⟩ : _ ∧ k_ ≠ gb381))) (fun _ hk => hk.2) (.int .i64 ((rd_T38 t377 x20_2).f0))) (fun _ hk => hk.2) (.int .i64 ((rd_T38 t377 x20_2).f1))) (fun _ hk => ⟨hk.1.1, hk.1.2⟩)⟩, ⟨by (with_reducible repeat (first | apply dN | apply dW | apply dA)); refine blk_far ?_ NB0_381.out _; (with_reducible repeat (first | apply dN | apply dW | apply dA)); refine blk_far ?_ NB0_381.out _; exact bp HP0_⟩, ⟨by (with_reducible repeat (first | apply dN | apply dW | apply dA)); refine blk_put (cs := #[.int .i64 ((rd_T38 t377 x20_2).f0), .int .i64 0]) ?_ 1 _ rfl; (with_reducible repeat (first | apply dN | apply dW | apply dA)); refine blk_put (cs := #[.int .i64 0, .int .i64 0]) ?_ 0 _ rfl; exact bp BK381⟩, ⟨bw HB⟩⟩
     intro c21 c21b0 c21b1 H
     refine qE H ?_ ?_ <;> clear H
     ·intro c29b0 c29b1 H
      refine qE H ?_ ?_ <;> clear H
      ·intro c30b0 c30b1 H
       have H' := am H
       clear H
       have hnb31 := NB0_381.out
       have hnc31 := NB381_0.out
       have hcz32 := bK w14 HP0_
       have hfz32 := bF HP0_
       have p382 : 0 ≤ (a1 : Int) := of_decide_eq_true as1
       have q382 : a1 < (l0_1.length : Int) := of_decide_eq_true as1
       obtain ⟨ad382, A382_0, c382_0, e382, hx382_0, hl382_0, hi382_0⟩ := at_L7 HR0_1.out a1 p382 q382
       cases e382
       have hn382_0 : ad382.block ≠ gb381 := Nat.ne_of_lt (Nat.lt_of_lt_of_le (by have := World.block_lt_of_cell? _ _ hx382_0; first | rwa [add_block] at this | exact this) GW381.out)
       have hn382_1 : ad382.block ≠ gb381 := Nat.ne_of_lt (Nat.lt_of_lt_of_le (by have := World.block_lt_of_cell? _ _ hx382_0; first | rwa [add_block] at this | exact this) GW381.out)
       replace hx382_0 := cl HB hx382_0
       have HR382_0 := am hi382_0
       have HC382_0 := am hl382_0
       clear hi382_0 hl382_0
       replace hx382_0 := (cell_far (p := ⟨gb381, 0, none⟩) (by first | (rw [add_block]; exact hn382_0) | (show (Addr.add _ _).block ≠ _; rw [add_block]; exact hn382_0) | exact hn382_0) (.int .i64 ((rd_T38 t377 x20_2).f0))).trans hx382_0
       replace hx382_0 := (cell_far (p := ⟨gb381, 1, none⟩) (by first | (rw [add_block]; exact hn382_1) | (show (Addr.add _ _).block ≠ _; rw [add_block]; exact hn382_1) | exact hn382_1) (.int .i64 ((rd_T38 t377 x20_2).f1))).trans hx382_0
       clear hn382_0
       clear hn382_1
       replace p382 := eq_true p382
       replace q382 := eq_true q382
       have p383 : 0 ≤ (x20_2 : Int) := of_decide_eq_true as1
       have q383 : x20_2 < ((rd_L7 l0_1 a1).length : Int) := of_decide_eq_true as1
       obtain ⟨ad383, e383, hx383_0⟩ := Kd.at_int HR382_0.out x20_2 p383 q383
       cases e383
       have hn383_0 : ad383.block ≠ gb381 := Nat.ne_of_lt (Nat.lt_of_lt_of_le (by have := World.block_lt_of_cell? _ _ hx383_0; first | rwa [add_block] at this | exact this) GW381.out)
       have hn383_1 : ad383.block ≠ gb381 := Nat.ne_of_lt (Nat.lt_of_lt_of_le (by have := World.block_lt_of_cell? _ _ hx383_0; first | rwa [add_block] at this | exact this) GW381.out)
       replace hx383_0 := cl HB hx383_0
       replace hx383_0 := (cell_far (p := ⟨gb381, 0, none⟩) (by first | (rw [add_block]; exact hn383_0) | (show (Addr.add _ _).block ≠ _; rw [add_block]; exact hn383_0) | exact hn383_0) (.int .i64 ((rd_T38 t377 x20_2).f0))).trans hx383_0
       replace hx383_0 := (cell_far (p := ⟨gb381, 1, none⟩) (by first | (rw [add_block]; exact hn383_1) | (show (Addr.add _ _).block ≠ _; rw [add_block]; exact hn383_1) | exact hn383_1) (.int .i64 ((rd_T38 t377 x20_2).f1))).trans hx383_0
       clear hn383_0
       clear hn383_1
       replace p383 := eq_true p383
       replace q383 := eq_true q383
       have hcz33 := bK w14 BK381
       have hfz33 := bF BK381
       go_wp2
       go_meet
       case rel => exact ⟨_, (decide (x20_2 ≥ x13_1)), dr, H', ⟨lk2 HK1 HK2⟩, ⟨by (with_reducible repeat (first | apply Kd.R_alloc | apply Kd.R_drewN | apply Kd.R_drew)); exact Kd.R_mono (Kd.R_far (p := ⟨gb381, 1, none⟩) (Kd.R_far (p := ⟨gb381, 0, none⟩) (Kd.R_types HO_5.out BK381.out (by decide)) (fun _ hk => hk.2) (.int .i64 ((rd_T38 t377 x20_2).f0))) (fun _ hk => hk.2) (.int .i64 ((rd_T38 t377 x20_2).f1))) (fun _ hk => trivial)⟩, ⟨by (with_reducible repeat (first | apply Kd.V_alloc | apply Kd.V_drewN | apply Kd.V_drew)); exact Kd.V_mono (Kd.V_far (p := ⟨gb381, 1, none⟩) (Kd.V_far (p := ⟨gb381, 0, none⟩) (Kd.V_mono HO_18.out (fun k_ hk => (⟨hk, hk.2⟩ : _ ∧ k_ ≠ gb381))) (fun _ hk => hk.2) (.int .i64 ((rd_T38 t377 x20_2).f0))) (fun _ hk => hk.2) (.int .i64 ((rd_T38 t377 x20_2).f1))) (fun _ hk => ⟨hk.1.1, hk.1.2⟩)⟩, ⟨by (with_reducible repeat (first | apply dN | apply dW | apply dA)); refine blk_far ?_ NB0_381.out _; (with_reducible repeat (first | apply dN | apply dW | apply dA)); refine blk_far ?_ NB0_381.out _; exact bp HP0_⟩, ⟨by (with_reducible repeat (first | apply dN | apply dW | apply dA)); refine blk_put (cs := #[.int .i64 ((rd_T38 t377 x20_2).f0), .int .i64 0]) ?_ 1 _ rfl; (with_reducible repeat (first | apply dN | apply dW | apply dA)); refine blk_put (cs := #[.int .i64 0, .int .i64 0]) ?_ 0 _ rfl; exact bp BK381⟩, ⟨bw HB⟩⟩
      intro c30 c30b0 c30b1 H
      have H' := am H
      clear H
      have hnb34 := NB0_381.out
      have hnc34 := NB381_0.out
      have hcz35 := bK w14 HP0_
      have hfz35 := bF HP0_
      have p382 : 0 ≤ (a1 : Int) := of_decide_eq_true as1
      have q382 : a1 < (l0_1.length : Int) := of_decide_eq_true as1
      obtain ⟨ad382, A382_0, c382_0, e382, hx382_0, hl382_0, hi382_0⟩ := at_L7 HR0_1.out a1 p382 q382
      cases e382
      have hn382_0 : ad382.block ≠ gb381 := Nat.ne_of_lt (Nat.lt_of_lt_of_le (by have := World.block_lt_of_cell? _ _ hx382_0; first | rwa [add_block] at this | exact this) GW381.out)
      have hn382_1 : ad382.block ≠ gb381 := Nat.ne_of_lt (Nat.lt_of_lt_of_le (by have := World.block_lt_of_cell? _ _ hx382_0; first | rwa [add_block] at this | exact this) GW381.out)
      replace hx382_0 := cl HB hx382_0
      have HR382_0 := am hi382_0
      have HC382_0 := am hl382_0
      clear hi382_0 hl382_0
      replace hx382_0 := (cell_far (p := ⟨gb381, 0, none⟩) (by first | (rw [add_block]; exact hn382_0) | (show (Addr.add _ _).block ≠ _; rw [add_block]; exact hn382_0) | exact hn382_0) (.int .i64 ((rd_T38 t377 x20_2).f0))).trans hx382_0
      replace hx382_0 := (cell_far (p := ⟨gb381, 1, none⟩) (by first | (rw [add_block]; exact hn382_1) | (show (Addr.add _ _).block ≠ _; rw [add_block]; exact hn382_1) | exact hn382_1) (.int .i64 ((rd_T38 t377 x20_2).f1))).trans hx382_0
      clear hn382_0
      clear hn382_1
      replace p382 := eq_true p382
      replace q382 := eq_true q382
      have p383 : 0 ≤ (x20_2 : Int) := of_decide_eq_true as1
      have q383 : x20_2 < ((rd_L7 l0_1 a1).length : Int) := of_decide_eq_true as1
      obtain ⟨ad383, e383, hx383_0⟩ := Kd.at_int HR382_0.out x20_2 p383 q383
      cases e383
      have hn383_0 : ad383.block ≠ gb381 := Nat.ne_of_lt (Nat.lt_of_lt_of_le (by have := World.block_lt_of_cell? _ _ hx383_0; first | rwa [add_block] at this | exact this) GW381.out)
      have hn383_1 : ad383.block ≠ gb381 := Nat.ne_of_lt (Nat.lt_of_lt_of_le (by have := World.block_lt_of_cell? _ _ hx383_0; first | rwa [add_block] at this | exact this) GW381.out)
      replace hx383_0 := cl HB hx383_0
      replace hx383_0 := (cell_far (p := ⟨gb381, 0, none⟩) (by first | (rw [add_block]; exact hn383_0) | (show (Addr.add _ _).block ≠ _; rw [add_block]; exact hn383_0) | exact hn383_0) (.int .i64 ((rd_T38 t377 x20_2).f0))).trans hx383_0
      replace hx383_0 := (cell_far (p := ⟨gb381, 1, none⟩) (by first | (rw [add_block]; exact hn383_1) | (show (Addr.add _ _).block ≠ _; rw [add_block]; exact hn383_1) | exact hn383_1) (.int .i64 ((rd_T38 t377 x20_2).f1))).trans hx383_0
      clear hn383_0
      clear hn383_1
      replace p383 := eq_true p383
      replace q383 := eq_true q383
      have hcz36 := bK w14 BK381
      have hfz36 := bF BK381
      go_wp2
      go_meet
      case rel => exact ⟨_, (false), dr, H', ⟨lk2 HK1 HK2⟩, ⟨by (with_reducible repeat (first | apply Kd.R_alloc | apply Kd.R_drewN | apply Kd.R_drew)); exact Kd.R_mono (Kd.R_far (p := ⟨gb381, 1, none⟩) (Kd.R_far (p := ⟨gb381, 0, none⟩) (Kd.R_types HO_5.out BK381.out (by decide)) (fun _ hk => hk.2) (.int .i64 ((rd_T38 t377 x20_2).f0))) (fun _ hk => hk.2) (.int .i64 ((rd_T38 t377 x20_2).f1))) (fun _ hk => trivial)⟩, ⟨by (with_reducible repeat (first | apply Kd.V_alloc | apply Kd.V_drewN | apply Kd.V_drew)); exact Kd.V_mono (Kd.V_far (p := ⟨gb381, 1, none⟩) (Kd.V_far (p := ⟨gb381, 0, none⟩) (Kd.V_mono HO_18.out (fun k_ hk => (⟨hk, hk.2⟩ : _ ∧ k_ ≠ gb381))) (fun _ hk => hk.2) (.int .i64 ((rd_T38 t377 x20_2).f0))) (fun _ hk => hk.2) (.int .i64 ((rd_T38 t377 x20_2).f1))) (fun _ hk => ⟨hk.1.1, hk.1.2⟩)⟩, ⟨by (with_reducible repeat (first | apply dN | apply dW | apply dA)); refine blk_far ?_ NB0_381.out _; (with_reducible repeat (first | apply dN | apply dW | apply dA)); refine blk_far ?_ NB0_381.out _; exact bp HP0_⟩, ⟨by (with_reducible repeat (first | apply dN | apply dW | apply dA)); refine blk_put (cs := #[.int .i64 ((rd_T38 t377 x20_2).f0), .int .i64 0]) ?_ 1 _ rfl; (with_reducible repeat (first | apply dN | apply dW | apply dA)); refine blk_put (cs := #[.int .i64 0, .int .i64 0]) ?_ 0 _ rfl; exact bp BK381⟩, ⟨bw HB⟩⟩
     intro c29 c29b0 c29b1 H
     have H' := am H
     clear H
     have hnb37 := NB0_381.out
     have hnc37 := NB381_0.out
     have hcz38 := bK w14 HP0_
     have hfz38 := bF HP0_
     have p382 : 0 ≤ (a1 : Int) := of_decide_eq_true as1
     have q382 : a1 < (l0_1.length : Int) := of_decide_eq_true as1
     obtain ⟨ad382, A382_0, c382_0, e382, hx382_0, hl382_0, hi382_0⟩ := at_L7 HR0_1.out a1 p382 q382
     cases e382
     have hn382_0 : ad382.block ≠ gb381 := Nat.ne_of_lt (Nat.lt_of_lt_of_le (by have := World.block_lt_of_cell? _ _ hx382_0; first | rwa [add_block] at this | exact this) GW381.out)
     have hn382_1 : ad382.block ≠ gb381 := Nat.ne_of_lt (Nat.lt_of_lt_of_le (by have := World.block_lt_of_cell? _ _ hx382_0; first | rwa [add_block] at this | exact this) GW381.out)
     replace hx382_0 := cl HB hx382_0
     have HR382_0 := am hi382_0
     have HC382_0 := am hl382_0
     clear hi382_0 hl382_0
     replace hx382_0 := (cell_far (p := ⟨gb381, 0, none⟩) (by first | (rw [add_block]; exact hn382_0) | (show (Addr.add _ _).block ≠ _; rw [add_block]; exact hn382_0) | exact hn382_0) (.int .i64 ((rd_T38 t377 x20_2).f0))).trans hx382_0
     replace hx382_0 := (cell_far (p := ⟨gb381, 1, none⟩) (by first | (rw [add_block]; exact hn382_1) | (show (Addr.add _ _).block ≠ _; rw [add_block]; exact hn382_1) | exact hn382_1) (.int .i64 ((rd_T38 t377 x20_2).f1))).trans hx382_0
     clear hn382_0
     clear hn382_1
     replace p382 := eq_true p382
     replace q382 := eq_true q382
     have p383 : 0 ≤ (x20_2 : Int) := of_decide_eq_true as1
     have q383 : x20_2 < ((rd_L7 l0_1 a1).length : Int) := of_decide_eq_true as1
     obtain ⟨ad383, e383, hx383_0⟩ := Kd.at_int HR382_0.out x20_2 p383 q383
     cases e383
     have hn383_0 : ad383.block ≠ gb381 := Nat.ne_of_lt (Nat.lt_of_lt_of_le (by have := World.block_lt_of_cell? _ _ hx383_0; first | rwa [add_block] at this | exact this) GW381.out)
     have hn383_1 : ad383.block ≠ gb381 := Nat.ne_of_lt (Nat.lt_of_lt_of_le (by have := World.block_lt_of_cell? _ _ hx383_0; first | rwa [add_block] at this | exact this) GW381.out)
     replace hx383_0 := cl HB hx383_0
     replace hx383_0 := (cell_far (p := ⟨gb381, 0, none⟩) (by first | (rw [add_block]; exact hn383_0) | (show (Addr.add _ _).block ≠ _; rw [add_block]; exact hn383_0) | exact hn383_0) (.int .i64 ((rd_T38 t377 x20_2).f0))).trans hx383_0
     replace hx383_0 := (cell_far (p := ⟨gb381, 1, none⟩) (by first | (rw [add_block]; exact hn383_1) | (show (Addr.add _ _).block ≠ _; rw [add_block]; exact hn383_1) | exact hn383_1) (.int .i64 ((rd_T38 t377 x20_2).f1))).trans hx383_0
     clear hn383_0
     clear hn383_1
     replace p383 := eq_true p383
     replace q383 := eq_true q383
     have hcz39 := bK w14 BK381
     have hfz39 := bF BK381
     go_wp2
     go_meet
     case rel => exact ⟨_, (false), dr, H', ⟨lk2 HK1 HK2⟩, ⟨by (with_reducible repeat (first | apply Kd.R_alloc | apply Kd.R_drewN | apply Kd.R_drew)); exact Kd.R_mono (Kd.R_far (p := ⟨gb381, 1, none⟩) (Kd.R_far (p := ⟨gb381, 0, none⟩) (Kd.R_types HO_5.out BK381.out (by decide)) (fun _ hk => hk.2) (.int .i64 ((rd_T38 t377 x20_2).f0))) (fun _ hk => hk.2) (.int .i64 ((rd_T38 t377 x20_2).f1))) (fun _ hk => trivial)⟩, ⟨by (with_reducible repeat (first | apply Kd.V_alloc | apply Kd.V_drewN | apply Kd.V_drew)); exact Kd.V_mono (Kd.V_far (p := ⟨gb381, 1, none⟩) (Kd.V_far (p := ⟨gb381, 0, none⟩) (Kd.V_mono HO_18.out (fun k_ hk => (⟨hk, hk.2⟩ : _ ∧ k_ ≠ gb381))) (fun _ hk => hk.2) (.int .i64 ((rd_T38 t377 x20_2).f0))) (fun _ hk => hk.2) (.int .i64 ((rd_T38 t377 x20_2).f1))) (fun _ hk => ⟨hk.1.1, hk.1.2⟩)⟩, ⟨by (with_reducible repeat (first | apply dN | apply dW | apply dA)); refine blk_far ?_ NB0_381.out _; (with_reducible repeat (first | apply dN | apply dW | apply dA)); refine blk_far ?_ NB0_381.out _; exact bp HP0_⟩, ⟨by (with_reducible repeat (first | apply dN | apply dW | apply dA)); refine blk_put (cs := #[.int .i64 ((rd_T38 t377 x20_2).f0), .int .i64 0]) ?_ 1 _ rfl; (with_reducible repeat (first | apply dN | apply dW | apply dA)); refine blk_put (cs := #[.int .i64 0, .int .i64 0]) ?_ 0 _ rfl; exact bp BK381⟩, ⟨bw HB⟩⟩
    have H' := am H
    clear H
    have hnb40 := NB0_381.out
    have hnc40 := NB381_0.out
    have hcz41 := bK w14 HP0_
    have hfz41 := bF HP0_
    have p382 : 0 ≤ (a1 : Int) := of_decide_eq_true as1
    have q382 : a1 < (l0_1.length : Int) := of_decide_eq_true as1
    obtain ⟨ad382, A382_0, c382_0, e382, hx382_0, hl382_0, hi382_0⟩ := at_L7 HR0_1.out a1 p382 q382
    cases e382
    have hn382_0 : ad382.block ≠ gb381 := Nat.ne_of_lt (Nat.lt_of_lt_of_le (by have := World.block_lt_of_cell? _ _ hx382_0; first | rwa [add_block] at this | exact this) GW381.out)
    have hn382_1 : ad382.block ≠ gb381 := Nat.ne_of_lt (Nat.lt_of_lt_of_le (by have := World.block_lt_of_cell? _ _ hx382_0; first | rwa [add_block] at this | exact this) GW381.out)
    replace hx382_0 := cl HB hx382_0
    have HR382_0 := am hi382_0
    have HC382_0 := am hl382_0
    clear hi382_0 hl382_0
    replace hx382_0 := (cell_far (p := ⟨gb381, 0, none⟩) (by first | (rw [add_block]; exact hn382_0) | (show (Addr.add _ _).block ≠ _; rw [add_block]; exact hn382_0) | exact hn382_0) (.int .i64 ((rd_T38 t377 x20_2).f0))).trans hx382_0
    replace hx382_0 := (cell_far (p := ⟨gb381, 1, none⟩) (by first | (rw [add_block]; exact hn382_1) | (show (Addr.add _ _).block ≠ _; rw [add_block]; exact hn382_1) | exact hn382_1) (.int .i64 ((rd_T38 t377 x20_2).f1))).trans hx382_0
    clear hn382_0
    clear hn382_1
    replace p382 := eq_true p382
    replace q382 := eq_true q382
    have p383 : 0 ≤ (x20_2 : Int) := of_decide_eq_true as1
    have q383 : x20_2 < ((rd_L7 l0_1 a1).length : Int) := of_decide_eq_true as1
    obtain ⟨ad383, e383, hx383_0⟩ := Kd.at_int HR382_0.out x20_2 p383 q383
    cases e383
    have hn383_0 : ad383.block ≠ gb381 := Nat.ne_of_lt (Nat.lt_of_lt_of_le (by have := World.block_lt_of_cell? _ _ hx383_0; first | rwa [add_block] at this | exact this) GW381.out)
    have hn383_1 : ad383.block ≠ gb381 := Nat.ne_of_lt (Nat.lt_of_lt_of_le (by have := World.block_lt_of_cell? _ _ hx383_0; first | rwa [add_block] at this | exact this) GW381.out)
    replace hx383_0 := cl HB hx383_0
    replace hx383_0 := (cell_far (p := ⟨gb381, 0, none⟩) (by first | (rw [add_block]; exact hn383_0) | (show (Addr.add _ _).block ≠ _; rw [add_block]; exact hn383_0) | exact hn383_0) (.int .i64 ((rd_T38 t377 x20_2).f0))).trans hx383_0
    replace hx383_0 := (cell_far (p := ⟨gb381, 1, none⟩) (by first | (rw [add_block]; exact hn383_1) | (show (Addr.add _ _).block ≠ _; rw [add_block]; exact hn383_1) | exact hn383_1) (.int .i64 ((rd_T38 t377 x20_2).f1))).trans hx383_0
    clear hn383_0
    clear hn383_1
    replace p383 := eq_true p383
    replace q383 := eq_true q383
    go_wp2
    go_meet
    case rel => exact ⟨_, (false), dr, H', ⟨lk2 HK1 HK2⟩, ⟨by (with_reducible repeat (first | apply Kd.R_alloc | apply Kd.R_drewN | apply Kd.R_drew)); exact Kd.R_mono (Kd.R_far (p := ⟨gb381, 1, none⟩) (Kd.R_far (p := ⟨gb381, 0, none⟩) (Kd.R_types HO_5.out BK381.out (by decide)) (fun _ hk => hk.2) (.int .i64 ((rd_T38 t377 x20_2).f0))) (fun _ hk => hk.2) (.int .i64 ((rd_T38 t377 x20_2).f1))) (fun _ hk => trivial)⟩, ⟨by (with_reducible repeat (first | apply Kd.V_alloc | apply Kd.V_drewN | apply Kd.V_drew)); exact Kd.V_mono (Kd.V_far (p := ⟨gb381, 1, none⟩) (Kd.V_far (p := ⟨gb381, 0, none⟩) (Kd.V_mono HO_18.out (fun k_ hk => (⟨hk, hk.2⟩ : _ ∧ k_ ≠ gb381))) (fun _ hk => hk.2) (.int .i64 ((rd_T38 t377 x20_2).f0))) (fun _ hk => hk.2) (.int .i64 ((rd_T38 t377 x20_2).f1))) (fun _ hk => ⟨hk.1.1, hk.1.2⟩)⟩, ⟨by (with_reducible repeat (first | apply dN | apply dW | apply dA)); refine blk_far ?_ NB0_381.out _; (with_reducible repeat (first | apply dN | apply dW | apply dA)); refine blk_far ?_ NB0_381.out _; exact bp HP0_⟩, ⟨by (with_reducible repeat (first | apply dN | apply dW | apply dA)); refine blk_put (cs := #[.int .i64 ((rd_T38 t377 x20_2).f0), .int .i64 0]) ?_ 1 _ rfl; (with_reducible repeat (first | apply dN | apply dW | apply dA)); refine blk_put (cs := #[.int .i64 0, .int .i64 0]) ?_ 0 _ rfl; exact bp BK381⟩, ⟨bw HB⟩⟩
   clear HC13
   (try clear c1); (try clear c2); (try clear p3); (try clear q3); (try clear hx3); (try clear c4); (try clear c10); (try clear c10b0); (try clear c11); (try clear c11b0); (try clear c12); (try clear c12b0); (try clear c15); (try clear c17); (try clear c17b0); (try clear c18); (try clear c18b0); (try clear c19); (try clear c19b0); (try clear c20); (try clear c20b0); (try clear c21); (try clear c21b0); (try clear c21b1); (try clear c22); (try clear c22b0); (try clear c22b1); (try clear c23); (try clear c26); (try clear c29); (try clear c29b0); (try clear c29b1); (try clear c30); (try clear c30b0); (try clear c30b1); (try clear c31); (try clear c34); (try clear c36); (try clear c37); (try clear c38); (try clear p38); (try clear q38); (try clear hx38); (try clear c40); (try clear hcz16); (try clear hcz24); (try clear hcz25); (try clear hcz27); (try clear hcz28); (try clear hcz32); (try clear hcz33); (try clear hcz35); (try clear hcz36); (try clear hcz38); (try clear hcz39); (try clear hcz41); (try clear hfz16); (try clear hfz24); (try clear hfz25); (try clear hfz27); (try clear hfz28); (try clear hfz32); (try clear hfz33); (try clear hfz35); (try clear hfz36); (try clear hfz38); (try clear hfz39); (try clear hfz41); (try clear hx380_0); (try clear hx380_1); (try clear hx382_0); (try clear hx383_0); (try clear p380); (try clear p382); (try clear p383); (try clear q380); (try clear q382); (try clear q383)
   obtain ⟨kq, x56_12, rfl, HA, HJ12, HO_5, HO_18, HP0_, BK381, HB⟩ := hcut
   rcases kq with _ | kj12
   ·exact absurd HA.out (by simp [impl_prog_headers.j2])
   have H := HA.out
   clear HA
   simp only [impl_prog_headers.j2] at H
   refine qT H ?_ ?_ <;> clear H <;> intro c42 H <;> subst c42
   ·refine iN H ?_; clear H; intro c43 H
    have LMc43 := am c43
    clear c43
    obtain ⟨y384, hy384⟩ : ∃ y_ : List Int, y_ = (x5_2 ++ [x13_1]) := ⟨_, rfl⟩
    replace H : (impl_prog_headers.l0 kj12 a1 y384 (t374.length : Int) (wrap64 (x13_1 + 1)) l0_0 l0_1) = some r := by first | (rw [hy384]; with_reducible exact H) | (have H2_ := (Option.bind_some _ _).symm.trans H; rw [hy384]; with_reducible exact H2_) | (have H2_ := (Option.bind_some _ _).symm.trans H; with_reducible exact H2_) | with_reducible exact H | (rw [hy384]; exact H) | exact H
    have Ny384 := am hy384
    clear hy384
    have H' := am H
    clear H
    go_wp2_with (first | ((with_reducible refine gate_builtin (b := .append) (xs := #[.tmp 57, .tmp 59]) rfl ?_); at_builtin; refine Kd.R_append (Kd.int .i64) (w0 := w) w.heap.size rfl (.tmp 57) (.tmp 59) 31 2 (.int .i64 0) 8 rfl Try.underlying31 info2 rfl (by decide) (by omega) u5 x5_2 x13_1 [.int .i64 x13_1] (fun _ => True) (fun _ => False) rfl rfl ?aP (fun _ hk => hk.elim) ?aF ?aO ?aB ?aS ?aL ?_; (case aP => exact rfl); (case aB => exact (bw HB)); (case aF => exact (fun _ _ => trivial)); (case aO => exact (kR HO_5)); (case aS => exact (below_size (bw HB))); (case aL => have := LMc43.out; omega); intro v385 w44 ho hb hg hat; rw [← Ny384.out] at ho; replace HO_18 := am (Kd.V_afterv (ok := (fun k_ => k_ ≠ gb381)) (by (with_reducible repeat (first | apply Kd.V_alloc | apply Kd.V_drewN | apply Kd.V_drew)); exact Kd.V_mono HO_18.out (fun _ hk => ⟨hk.2, hk.1⟩)) hg hat); replace HP0_ := bg HP0_ hg (Kd.R_ne HO_5.out HP0_.out (by decide)); replace BK381 := bg BK381 hg (Kd.R_ne HO_5.out BK381.out (by decide)); replace HB := am (hb); have HO386 := am (ho); clear HO_5; clear ho hb hg hat))
    go_roundg kj12
    case measure => have := HK1.out; have := HK2.out; have := HJ12.out; omega
    case rel => exact ⟨(y384), (wrap64 (x13_1 + 1)), dr, H', ⟨by have := HK1.out; have := HK2.out; have := HJ12.out; omega⟩, ⟨kR HO386⟩, ⟨bp HP0_⟩, ⟨bw HB⟩⟩
   have H' := am H
   clear H
   go_wp2
   go_roundg kj12
   case measure => have := HK1.out; have := HK2.out; have := HJ12.out; omega
   case rel => exact ⟨(x5_2), (wrap64 (x20_2 + 1)), dr, H', ⟨by have := HK1.out; have := HK2.out; have := HJ12.out; omega⟩, ⟨kR HO_5⟩, ⟨by (with_reducible repeat (first | apply Kd.V_alloc | apply Kd.V_drewN | apply Kd.V_drew)); exact Kd.V_mono HO_18.out (fun _ hk => hk.1)⟩, ⟨bp HP0_⟩, ⟨bw HB⟩⟩
  rw [if_neg c10] at H
  have c10b0 := decide_eq_false c10
  clear c10
  have H' := am H
  clear H
  go_wp2
  go_roundg k2
  case measure => have := HK1.out; have := HK2.out; omega
  case rel => exact ⟨(x5_2), (wrap64 (x13_1 + 1)), dr, H', ⟨by have := HK1.out; have := HK2.out; omega⟩, ⟨kR HO_5⟩, ⟨bp HP0_⟩, ⟨bw HB⟩⟩
 rw [if_neg c6] at H
 have c6b0 := decide_eq_false c6
 clear c6
 obtain rfl := Option.some.inj H
 go_wp2
 go_ret
 exact ⟨_, er, kR HO_5, bw HB⟩

def impl_Headers.f (k : Nat) (l0_0 : List (S35)) (a1 : Int) : Option (List Int) := (impl_knownFunc.f k l0_0 a1).bind fun bt388 => (if bt388.2.2 = true then ((impl_prog_headers.f k bt388.1 bt388.2.1 a1).bind fun t396 => (some t396)) else (some ([] : List Int)))
theorem impl_Headers.mono : ∀ a0 a1 k, LeO (impl_Headers.f k a0 a1) (impl_Headers.f (k + 1) a0 a1) := by
 intro a0 a1 k
 unfold impl_Headers.f
 with_reducible repeat' first | exact impl_knownFunc.mono .. | exact impl_prog_headers.mono .. | exact LeO.refl _ | exact LeO.none _ | refine LeO.ite ?_ ?_ | refine LeO.bind ?_ (fun _ => ?_)
theorem impl_Headers.calls (k : Nat) (A0_0 : Option Addr) (c0_0 : Nat) (l0_0 : List (S35)) (a1 : Int) (r : List Int) (w : World) (hr0_0 : Kd.C k35 w A0_0 l0_0.length l0_0) (hc0_0 : l0_0.length ≤ c0_0) (h : impl_Headers.f k l0_0 a1 = some r) :
  Calls Try.prog 12 #[.agg #[.slice A0_0 l0_0.length c0_0], .int .i64 a1] w fun e w' => ∃ v0_ : Value, e = .returned (v0_) ∧ Kd.R (Kd.int .i64) 2 w' w.heap.size (fun _ => True) v0_ r ∧ Below w.heap.size w w' := by
 have hu25 := Try.underlying25
 have HR0_0 := am hr0_0
 have HC0_0 := am hc0_0
 clear hr0_0 hc0_0
 have HB := am (Below.refl w.heap.size w)
 have H : ((impl_knownFunc.f k l0_0 a1).bind fun bt388 => (if bt388.2.2 = true then ((impl_prog_headers.f k bt388.1 bt388.2.1 a1).bind fun t396 => (some t396)) else (some ([] : List Int)))) = some r := h
 clear h
 replace H := Option.bind_eq_some_iff.mp H
 obtain ⟨⟨t388, t391, t395⟩, A30, H⟩ := H
 replace H : (if t395 = true then ((impl_prog_headers.f k t388 t391 a1).bind fun t396 => (some t396)) else (some ([] : List Int))) = some r := H
 have A3 := am A30
 clear A30
 have HC4 := am H
 clear H
 go_enter Try.func12, Try.ntmps12
 go_upto_if 14 with (first | ((with_reducible refine gd 2 rfl ?_); refine bX 2 #[.slice A0_0 l0_0.length c0_0] 25 HB ?_; clear HB; intro gb387 w5 hg hb BK387 GW387 HB; clear hb hg; have hcz6 := bK w5 BK387; have hfz6 := bF BK387) | ((with_reducible refine gk 35 rfl ?_); refine gC 35 (some 10) Try.func35 #[.agg #[.slice A0_0 l0_0.length c0_0], .int .i64 a1] ((impl_knownFunc.calls k (fun k_ => k_ < w.heap.size) _ _ l0_0 a1 t388 t391 t395 _ (Kd.V_mk HC0_0.out (Kd.F_below (Kd.C_F k35_heap HR0_0.out) (bw HB))) A3.out).mono ?_); rintro e w7 ⟨v389, v392, gb394, rfl, ho0, ho1, hbx, hgx, hb⟩; refine ⟨_, rfl, ?_⟩; have HO390 := am (Kd.V_lower (Kd.V_mono (ok' := fun k_ => some k_ ≠ (v392 : Value).ownBlock ∧ k_ ≠ gb387) ho0 (fun k_ hk_ => ⟨hk_.2, Or.elim hk_.1 (fun hs_ => fun e_ => Nat.not_le.2 hs_ (by rw [e_]; exact GW387.out)) (fun hn_ => (Kd.freshB (g := gb387) (o := .cells #[.slice A0_0 l0_0.length c0_0] 25 (0, 0)) (bp BK387) k_ hn_))⟩)) (below_size (bw HB))); have HO393 := am (Kd.S_lower (Kd.S_mono (ok' := fun k_ => True) ho1 (fun _ hk_ => trivial)) (below_size (bw HB))); have BK394 := am (hbx); have GW394 := am ((Nat.le_trans (below_size (bw HB)) hgx)); have GE394 := am ((Nat.le_trans (below_size (bw HB)) hgx)); have NB387_394 := am ((Nat.ne_of_lt (Nat.lt_of_lt_of_le (blk_lt (g := gb387) (o := .cells #[.slice A0_0 l0_0.length c0_0] 25 (0, 0)) (bp BK387)) hgx) : gb387 ≠ gb394)); have NB394_387 := am ((Nat.ne_of_gt (Nat.lt_of_lt_of_le (blk_lt (g := gb387) (o := .cells #[.slice A0_0 l0_0.length c0_0] 25 (0, 0)) (bp BK387)) hgx) : gb394 ≠ gb387)); replace BK387 := bb BK387 hb; replace HB := bs HB hb; clear hb; (try clear ho0); (try clear ho1); (try clear hbx); (try clear hgx)))
 (try simp only [Act.put, sa, sz, ss])
 have H := HC4.out
 clear HC4
 refine qT H ?_ ?_ <;> clear H <;> intro c8 H <;> subst c8
 ·refine be H ?_; clear H; intro t396 A9 H
  obtain rfl := Option.some.inj H
  obtain ⟨Ao10, co10, eo10⟩ := Kd.V_slice HO390.out
  subst eo10
  obtain ⟨Ao11, co11, eo11⟩ := Kd.S_slice HO393.out
  subst eo11
  go_wp2_with (first | ((with_reducible refine gk 36 rfl ?_); refine gC 36 (some 17) Try.func36 #[.pointer (some ⟨gb394, 0, none⟩), .int .i64 a1] ((impl_prog_headers.calls k gb394 Ao10 co10 t388 Ao11 co11 t391 a1 t396 _ (bp BK394) (cc (Kd.V_reads' HO390.out).2.2) ((Kd.V_reads' HO390.out).2.1) (cc (Kd.S_reads' HO393.out).2.2) ((Kd.S_reads' HO393.out).2.1) A9.out).mono ?_); rintro e w12 ⟨v397, rfl, ho0, hb⟩; refine ⟨_, rfl, ?_⟩; replace HO390 := am (Kd.V_elder' (kV HO390) (Kd.R_base ho0) hb); replace HO393 := am (Kd.S_elder' (kS HO393) (Kd.R_base ho0) hb); have HO398 := am (Kd.R_lower ho0 (below_size (bw HB))); replace BK387 := bb BK387 hb; replace BK394 := bb BK394 hb; replace HB := bs HB hb; clear hb; (try clear ho0)))
  go_ret
  exact ⟨_, er, kR HO398, bw HB⟩
 obtain rfl := Option.some.inj H
 go_wp2
 go_ret
 exact ⟨_, er, by first | exact Kd.R_nil _ _ _ _ _ | exact Kd.N_nil _ _ _ _ _ | exact Kd.V_nil _ _ _ _ _ | exact Kd.Q_nil _ _ _ _ _ | exact Kd.S_nil _ _ _ _ _, bw HB⟩

-- NOT PRINTED: function 3 (laws_FnHeights)

end Go.Proofs.Ytopaefhfjioecaa.QFnHeights
