import Derived.Test.YticdldoijkdffaaCFnExactMixToldx0
import Derived.Test.YticdldoijkdffaaCFnExactMixToldx7
namespace Go.Proofs.Yticdldoijkdffaa.QFnExactMixTold
open Go.RowKit Go.Proofs.YticdldoijkdffaaW
open PrintWords PrintLast PrintMore PrintShort PrintIsh
attribute [local go_sem] max2_int min2_int max_two min_two max_three min_three max_four min_four   -- for this text's walks alone
set_option linter.unusedVariables false
set_option maxHeartbeats 8000000
set_option maxRecDepth 100000
set_option linter.unusedSimpArgs false

def laws_eqMovS.l0 : Nat → List (S109) → List (S109) → Int → Option (Bool)
 | 0, _, _, _ => none
 | k + 1, x0, x1, x5 => if x5 < (x0.length : Int) then (if 0 ≤ x5 then (if x5 < (x1.length : Int) then ((laws_eqMov.f ((rd_T109 x0 x5).f0) ((rd_T109 x0 x5).f1.f0) ((rd_T109 x0 x5).f1.f1) ((rd_T109 x1 x5).f0) ((rd_T109 x1 x5).f1.f0) ((rd_T109 x1 x5).f1.f1)).bind fun t338 => (if t338 = true then (laws_eqMovS.l0 k x0 x1 (wrap64 (x5 + 1))) else (some false))) else (none)) else (none)) else (some true)
def laws_eqMovS.f (k : Nat) (l0 : List (S109)) (l1 : List (S109)) : Option (Bool) := if (l0.length : Int) = (l1.length : Int) then (laws_eqMovS.l0 k l0 l1 0) else (some false)
theorem laws_eqMovS.mono_l : ∀ k, (∀ y0 y1 y2, LeO (laws_eqMovS.l0 k y0 y1 y2) (laws_eqMovS.l0 (k + 1) y0 y1 y2))
 | 0 => fun _ _ _ r h => by simp [laws_eqMovS.l0] at h
 | k + 1 => by
  have ih0 := laws_eqMovS.mono_l k
  ·intro y0 y1 y2
   unfold laws_eqMovS.l0
   with_reducible repeat' first | exact ih0 .. | exact LeO.refl _ | exact LeO.none _ | refine LeO.ite ?_ ?_ | refine LeO.bind ?_ (fun _ => ?_)
theorem laws_eqMovS.mono : ∀ a0 a1 k, LeO (laws_eqMovS.f k a0 a1) (laws_eqMovS.f (k + 1) a0 a1) := by
 intro a0 a1 k
 have ih0 := laws_eqMovS.mono_l k
 unfold laws_eqMovS.f
 with_reducible repeat' first | exact ih0 .. | exact LeO.refl _ | exact LeO.none _ | refine LeO.ite ?_ ?_ | refine LeO.bind ?_ (fun _ => ?_)
def laws_eqMovS.T6 : Bool × List (List Nat × List Nat) := (true, [([], []), ([], []), ([0, 1], [0, 1]), ([2], [2]), ([], []), ([], []), ([4, 5], [4, 5]), ([6], [6]), ([3, 7], [3, 7]), ([8], [8])])
def laws_eqMovS.B6 : List Nat := [0, 0, 3, 7, 0, 0, 48, 112, 255, 511]
theorem laws_eqMovS.tab6 : rtab .any (opsOf Try.f64 6) = laws_eqMovS.T6 := by kernel_rfl
theorem laws_eqMovS.bits6 : waitsOk laws_eqMovS.T6.2 laws_eqMovS.B6 = true := by kernel_rfl
theorem laws_eqMovS.calls (k : Nat) (A0 : Option Addr) (c0 : Nat) (l0 : List (S109)) (A1 : Option Addr) (c1 : Nat) (l1 : List (S109)) (r : Bool) (w : World) (hr0 : Kd.C k109 w A0 l0.length l0) (hc0 : l0.length ≤ c0) (hr1 : Kd.C k109 w A1 l1.length l1) (hc1 : l1.length ≤ c1) (h : laws_eqMovS.f k l0 l1 = some r) :
  Calls Try.prog 64 #[.slice A0 l0.length c0, .slice A1 l1.length c1] w fun e w' => e = .returned (.bool r) ∧ Below w.heap.size w w' := by
 have hu109 := Try.underlying109
 have HR0 := am hr0
 have HC0 := am hc0
 clear hr0 hc0
 have HR1 := am hr1
 have HC1 := am hc1
 clear hr1 hc1
 have HB := am (Below.refl w.heap.size w)
 have H : (if (l0.length : Int) = (l1.length : Int) then (laws_eqMovS.l0 k l0 l1 0) else (some false)) = some r := h
 clear h
 by_cases c3 : (l0.length : Int) = (l1.length : Int)
 ·rw [if_pos c3] at H
  have c3b0 : ((l0.length : Int) == (l1.length : Int)) = true := beq_iff_eq.mpr c3
  have c3b1 : ((l0.length : Int) != (l1.length : Int)) = false := bne_eq_false_iff_eq.mpr c3
  have c3b2 : (l0.length == l1.length) = true := by first | simpa using c3 | (simp at c3 ⊢; omega)
  clear c3
  have H' := am H
  clear H
  go_enter Try.func64, Try.ntmps64
  go_wp2
  go_loopg [5] k (fun kq v5 w' => ∃ (x5_1 : Int), v5 = .int .i64 x5_1 ∧ Aside0 (laws_eqMovS.l0 kq l0 l1 x5_1 = some r) ∧ Aside0 (kq ≤ k) ∧ Aside0 (Below w.heap.size w w'))
  case atStart => exact ⟨(0), dr, H', ⟨Nat.le_refl _⟩, ⟨bw HB⟩⟩
  clear H'
  (try clear c1); (try clear p2); (try clear c3); (try clear c3b0); (try clear c3b1); (try clear c3b2)
  obtain ⟨x5_1, rfl, HA, HK1, HB⟩ := hrel
  rcases gk with _ | k1
  ·exact absurd HA.out (by simp [laws_eqMovS.l0])
  have H := HA.out
  clear HA
  simp only [laws_eqMovS.l0] at H
  refine qI H ?_ ?_ <;> clear H <;> intro c4b0 H
  ·refine iM H ?_; clear H; intro c5b0 H
   refine iM H ?_; clear H; intro c6b0 H
   refine be H ?_; clear H; intro t338 A7 H
   have HC8 := am H
   clear H
   try go_wp2
   replace HB := am (below_drew1 HB.out)
   have p336 : 0 ≤ (x5_1 : Int) := of_decide_eq_true as1
   have q336 : x5_1 < (l0.length : Int) := of_decide_eq_true as1
   obtain ⟨ad336, e336, hx336_0, hx336_1, hx336_2⟩ := at_T109 HR0.out x5_1 p336 q336
   have hw336_2 := hx336_2
   have hw336_1 := hx336_1
   have hw336_0 := hx336_0
   cases e336
   replace hx336_0 := cl HB hx336_0
   replace hx336_1 := cl HB hx336_1
   replace hx336_2 := cl HB hx336_2
   replace p336 := eq_true p336
   replace q336 := eq_true q336
   have p337 : 0 ≤ (x5_1 : Int) := of_decide_eq_true as1
   have q337 : x5_1 < (l1.length : Int) := of_decide_eq_true as1
   obtain ⟨ad337, e337, hx337_0, hx337_1, hx337_2⟩ := at_T109 HR1.out x5_1 p337 q337
   have hw337_2 := hx337_2
   have hw337_1 := hx337_1
   have hw337_0 := hx337_0
   cases e337
   replace hx337_0 := cl HB hx337_0
   replace hx337_1 := cl HB hx337_1
   replace hx337_2 := cl HB hx337_2
   replace p337 := eq_true p337
   replace q337 := eq_true q337
   refine start_ (n := 10) (S := fun w' => w'.cell? (ad336.add ((x5_1).toNat * 3)) = some (.int .i64 ((rd_T109 l0 x5_1).f0)) ∧ w'.cell? ⟨(ad336.add ((x5_1).toNat * 3)).block, (ad336.add ((x5_1).toNat * 3)).off + 1, none⟩ = some (.int .i64 ((rd_T109 l0 x5_1).f1.f0)) ∧ w'.cell? ⟨(ad336.add ((x5_1).toNat * 3)).block, (ad336.add ((x5_1).toNat * 3)).off + 2, none⟩ = some (.int .i64 ((rd_T109 l0 x5_1).f1.f1)) ∧ w'.cell? (ad337.add ((x5_1).toNat * 3)) = some (.int .i64 ((rd_T109 l1 x5_1).f0)) ∧ w'.cell? ⟨(ad337.add ((x5_1).toNat * 3)).block, (ad337.add ((x5_1).toNat * 3)).off + 1, none⟩ = some (.int .i64 ((rd_T109 l1 x5_1).f1.f0)) ∧ w'.cell? ⟨(ad337.add ((x5_1).toNat * 3)).block, (ad337.add ((x5_1).toNat * 3)).off + 2, none⟩ = some (.int .i64 ((rd_T109 l1 x5_1).f1.f1))) (ds := []) (bv 10 0) (by kernel_rfl) rfl (by kernel_rfl) ⟨(cq HB hw336_0), (cq HB hw336_1), (cq HB hw336_2), (cq HB hw337_0), (cq HB hw337_1), (cq HB hw337_2)⟩ (fun hHeld => ?_); refine with_tabW laws_eqMovS.tab6 laws_eqMovS.bits6 (fun HT_ HW_ => ?_)
   generalize wr.drew = w9 at HB hx336_0 hx336_1 hx336_2 hx337_0 hx337_1 hx337_2 hHeld ⊢
   refine pu 0 17 10 1 HT_ ?_
   refine pu 1 18 10 3 HT_ ?_
   refine pu 2 19 10 7 HT_ ?_
   refine pu 4 21 10 23 HT_ ?_
   refine pu 5 22 10 55 HT_ ?_
   refine pu 6 23 10 119 HT_ ?_
   refine tk 3 20 10 127 HT_ HW_ hHeld ?_
   refine tk 7 24 10 255 HT_ HW_ hHeld ?_
   refine on 8 (some 25) 10 511 HT_ fun K hK => ?_
   refine goes_ Try.func67 (by kernel_rfl) rfl #[.agg #[.int .i64 ((rd_T109 l0 x5_1).f0), .int .i64 ((rd_T109 l0 x5_1).f1.f0), .int .i64 ((rd_T109 l0 x5_1).f1.f1)], .agg #[.int .i64 ((rd_T109 l1 x5_1).f0), .int .i64 ((rd_T109 l1 x5_1).f1.f0), .int .i64 ((rd_T109 l1 x5_1).f1.f1)]] (by rfl) rfl rfl gl ?_
   with_reducible refine (laws_eqMov.calls ((rd_T109 l0 x5_1).f0) ((rd_T109 l0 x5_1).f1.f0) ((rd_T109 l0 x5_1).f1.f1) ((rd_T109 l1 x5_1).f0) ((rd_T109 l1 x5_1).f1.f0) ((rd_T109 l1 x5_1).f1.f1) t338 _ A7.out).mono ?_
   rintro e w10 ⟨rfl, hb⟩
   refine ⟨_, rfl, ?_⟩
   replace HB := am (below_step (bw HB) hb)
   clear hb
   refine hK.out _ _ ⟨(cq HB hw336_0), (cq HB hw336_1), (cq HB hw336_2), (cq HB hw337_0), (cq HB hw337_1), (cq HB hw337_2)⟩ (fun hHeld => ?_)
   clear hK K
   refine nm (some 25) ?_
   refine pu 9 26 10 1023 HT_ ?_
   refine done_ (done_of HT_.out (by kernel_rfl)) ?_
   go_upto_if 26 with (fail)
   (try simp only [Act.put, sa, sz, ss])
   have H := HC8.out
   clear HC8
   refine qT H ?_ ?_ <;> clear H <;> intro c11 H <;> subst c11
   ·have H' := am H
    clear H
    go_wp2
    go_roundg k1
    case measure => have := HK1.out; omega
    case rel => exact ⟨(wrap64 (x5_1 + 1)), dr, H', ⟨by have := HK1.out; omega⟩, ⟨bw HB⟩⟩
   obtain rfl := Option.some.inj H
   go_wp2
   go_ret
   exact ⟨er, bw HB⟩
  obtain rfl := Option.some.inj H
  go_wp2
  go_ret
  exact ⟨er, bw HB⟩
 rw [if_neg c3] at H
 have c3b0 : ((l0.length : Int) == (l1.length : Int)) = false := beq_eq_false_iff_ne.mpr c3
 have c3b1 : ((l0.length : Int) != (l1.length : Int)) = true := bne_iff_ne.mpr c3
 have c3b2 : (l0.length == l1.length) = false := by first | simpa using c3 | (simp at c3 ⊢; omega)
 obtain rfl := Option.some.inj H
 go_enter Try.func64, Try.ntmps64
 go_wp2
 go_ret
 exact ⟨er, bw HB⟩

def laws_eqAsmIns.f (k : Nat) (l0_0 : List (S109)) (a0_1 : Int) (a0_2 : Int) (l0_3 : List (S107)) (a0_4 : Int) (l1_0 : List (S109)) (a1_1 : Int) (a1_2 : Int) (l1_3 : List (S107)) (a1_4 : Int) : Option (Bool) := (laws_eqMovS.f k l0_0 l1_0).bind fun t341 => (if t341 = true then (if a0_1 = a1_1 then (if a0_2 = a1_2 then ((laws_eqValS.f k l0_3 l1_3).bind fun t342 => (if t342 = true then (if a0_4 = a1_4 then (some true) else (some false)) else (some false))) else (some false)) else (some false)) else (some false))
theorem laws_eqAsmIns.mono : ∀ a0 a1 a2 a3 a4 a5 a6 a7 a8 a9 k, LeO (laws_eqAsmIns.f k a0 a1 a2 a3 a4 a5 a6 a7 a8 a9) (laws_eqAsmIns.f (k + 1) a0 a1 a2 a3 a4 a5 a6 a7 a8 a9) := by
 intro a0 a1 a2 a3 a4 a5 a6 a7 a8 a9 k
 unfold laws_eqAsmIns.f
 with_reducible repeat' first | exact laws_eqMovS.mono .. | exact laws_eqValS.mono .. | exact LeO.refl _ | exact LeO.none _ | refine LeO.ite ?_ ?_ | refine LeO.bind ?_ (fun _ => ?_)
theorem laws_eqAsmIns.calls (k : Nat) (A0_0 : Option Addr) (c0_0 : Nat) (l0_0 : List (S109)) (a0_1 : Int) (a0_2 : Int) (A0_3 : Option Addr) (c0_3 : Nat) (l0_3 : List (S107)) (a0_4 : Int) (A1_0 : Option Addr) (c1_0 : Nat) (l1_0 : List (S109)) (a1_1 : Int) (a1_2 : Int) (A1_3 : Option Addr) (c1_3 : Nat) (l1_3 : List (S107)) (a1_4 : Int) (r : Bool) (w : World) (hr0_0 : Kd.C k109 w A0_0 l0_0.length l0_0) (hc0_0 : l0_0.length ≤ c0_0) (hr0_3 : Kd.C k107 w A0_3 l0_3.length l0_3) (hc0_3 : l0_3.length ≤ c0_3) (hr1_0 : Kd.C k109 w A1_0 l1_0.length l1_0) (hc1_0 : l1_0.length ≤ c1_0) (hr1_3 : Kd.C k107 w A1_3 l1_3.length l1_3) (hc1_3 : l1_3.length ≤ c1_3) (h : laws_eqAsmIns.f k l0_0 a0_1 a0_2 l0_3 a0_4 l1_0 a1_1 a1_2 l1_3 a1_4 = some r) :
  Calls Try.prog 59 #[.agg #[.slice A0_0 l0_0.length c0_0, .int .i64 a0_1, .int .i64 a0_2, .slice A0_3 l0_3.length c0_3, .int .i64 a0_4], .agg #[.slice A1_0 l1_0.length c1_0, .int .i64 a1_1, .int .i64 a1_2, .slice A1_3 l1_3.length c1_3, .int .i64 a1_4]] w fun e w' => e = .returned (.bool r) ∧ Below w.heap.size w w' := by
 have hu94 := Try.underlying94
 have HR0_0 := am hr0_0
 have HC0_0 := am hc0_0
 clear hr0_0 hc0_0
 have HR0_3 := am hr0_3
 have HC0_3 := am hc0_3
 clear hr0_3 hc0_3
 have HR1_0 := am hr1_0
 have HC1_0 := am hc1_0
 clear hr1_0 hc1_0
 have HR1_3 := am hr1_3
 have HC1_3 := am hc1_3
 clear hr1_3 hc1_3
 have HB := am (Below.refl w.heap.size w)
 have H : ((laws_eqMovS.f k l0_0 l1_0).bind fun t341 => (if t341 = true then (if a0_1 = a1_1 then (if a0_2 = a1_2 then ((laws_eqValS.f k l0_3 l1_3).bind fun t342 => (if t342 = true then (if a0_4 = a1_4 then (some true) else (some false)) else (some false))) else (some false)) else (some false)) else (some false))) = some r := h
 clear h
 refine be H ?_; clear H; intro t341 A3 H
 have HC4 := am H
 clear H
 go_enter Try.func59, Try.ntmps59
 go_upto_if 10 with (first | ((with_reducible refine gd 2 rfl ?_); refine bX 2 #[.slice A0_0 l0_0.length c0_0, .int .i64 a0_1, .int .i64 a0_2, .slice A0_3 l0_3.length c0_3, .int .i64 a0_4] 94 HB ?_; clear HB; intro gb339 w5 hg hb BK339 GW339 HB; clear hb hg) | ((with_reducible refine gd 3 rfl ?_); refine bX 3 #[.slice A1_0 l1_0.length c1_0, .int .i64 a1_1, .int .i64 a1_2, .slice A1_3 l1_3.length c1_3, .int .i64 a1_4] 94 HB ?_; clear HB; intro gb340 w6 hg hb BK340 GW340 HB; obtain ⟨NB339_340, NB340_339, BK339⟩ := b3 hg BK339 hb; clear hb hg; have hnb7 := NB339_340.out; have hnc7 := NB340_339.out; have hcz8_0 := bk w6 BK339 0; have hcz8_1 := bk w6 BK339 1; have hcz8_2 := bk w6 BK339 2; have hcz8_3 := bk w6 BK339 3; have hcz8_4 := bk w6 BK339 4; have hfz8_0 := bf BK339 0; have hfz8_1 := bf BK339 1; have hfz8_2 := bf BK339 2; have hfz8_3 := bf BK339 3; have hfz8_4 := bf BK339 4; have hcz9_0 := bk w6 BK340 0; have hcz9_1 := bk w6 BK340 1; have hcz9_2 := bk w6 BK340 2; have hcz9_3 := bk w6 BK340 3; have hcz9_4 := bk w6 BK340 4; have hfz9_0 := bf BK340 0; have hfz9_1 := bf BK340 1; have hfz9_2 := bf BK340 2; have hfz9_3 := bf BK340 3; have hfz9_4 := bf BK340 4) | ((with_reducible refine gk 64 rfl ?_); refine gB 64 (some 9) Try.func64 #[.slice A0_0 l0_0.length c0_0, .slice A1_0 l1_0.length c1_0] (laws_eqMovS.calls k _ _ l0_0 _ _ l1_0 t341 _ (cc (Kd.C_below HR0_0.out HB.out)) HC0_0.out (cc (Kd.C_below HR1_0.out HB.out)) HC1_0.out A3.out) ?_; intro w10 hb; replace BK339 := bb BK339 hb; replace BK340 := bb BK340 hb; replace HB := bs HB hb; clear hb))
 (try simp only [Act.put, sa, sz, ss])
 have H := HC4.out
 clear HC4
 refine qT H ?_ ?_ <;> clear H <;> intro c11 H <;> subst c11
 ·refine qE H ?_ ?_ <;> clear H
  ·intro c12b0 c12b1 H
   (first | rw [c12b0] | (simp only [i64_w, i32_w]; rw [c12b0]) | skip)
   refine qE H ?_ ?_ <;> clear H
   ·intro c13b0 c13b1 H
    refine be H ?_; clear H; intro t342 A14 H
    have HC15 := am H
    clear H
    have hnb16 := NB339_340.out
    have hnc16 := NB340_339.out
    have hcz17_0 := bk w10 BK339 0
    have hcz17_1 := bk w10 BK339 1
    have hcz17_2 := bk w10 BK339 2
    have hcz17_3 := bk w10 BK339 3
    have hcz17_4 := bk w10 BK339 4
    have hfz17_0 := bf BK339 0
    have hfz17_1 := bf BK339 1
    have hfz17_2 := bf BK339 2
    have hfz17_3 := bf BK339 3
    have hfz17_4 := bf BK339 4
    have hcz18_0 := bk w10 BK340 0
    have hcz18_1 := bk w10 BK340 1
    have hcz18_2 := bk w10 BK340 2
    have hcz18_3 := bk w10 BK340 3
    have hcz18_4 := bk w10 BK340 4
    have hfz18_0 := bf BK340 0
    have hfz18_1 := bf BK340 1
    have hfz18_2 := bf BK340 2
    have hfz18_3 := bf BK340 3
    have hfz18_4 := bf BK340 4
    go_upto_if 26 with (first | ((with_reducible refine gk 60 rfl ?_); refine gB 60 (some 25) Try.func60 #[.slice A0_3 l0_3.length c0_3, .slice A1_3 l1_3.length c1_3] (laws_eqValS.calls k _ _ l0_3 _ _ l1_3 t342 _ (cc (Kd.C_below HR0_3.out HB.out)) HC0_3.out (cc (Kd.C_below HR1_3.out HB.out)) HC1_3.out A14.out) ?_; intro w19 hb; replace BK339 := bb BK339 hb; replace BK340 := bb BK340 hb; replace HB := bs HB hb; clear hb))
    (try simp only [Act.put, sa, sz, ss])
    have H := HC15.out
    clear HC15
    refine qT H ?_ ?_ <;> clear H <;> intro c20 H <;> subst c20
    ·refine qE H ?_ ?_ <;> clear H
     ·intro c21b0 c21b1 H
      (first | rw [c21b0] | (simp only [i64_w, i32_w]; rw [c21b0]) | skip)
      obtain rfl := Option.some.inj H
      have hnb22 := NB339_340.out
      have hnc22 := NB340_339.out
      have hcz23_0 := bk w19 BK339 0
      have hcz23_1 := bk w19 BK339 1
      have hcz23_2 := bk w19 BK339 2
      have hcz23_3 := bk w19 BK339 3
      have hcz23_4 := bk w19 BK339 4
      have hfz23_0 := bf BK339 0
      have hfz23_1 := bf BK339 1
      have hfz23_2 := bf BK339 2
      have hfz23_3 := bf BK339 3
      have hfz23_4 := bf BK339 4
      have hcz24_0 := bk w19 BK340 0
      have hcz24_1 := bk w19 BK340 1
      have hcz24_2 := bk w19 BK340 2
      have hcz24_3 := bk w19 BK340 3
      have hcz24_4 := bk w19 BK340 4
      have hfz24_0 := bf BK340 0
      have hfz24_1 := bf BK340 1
      have hfz24_2 := bf BK340 2
      have hfz24_3 := bf BK340 3
      have hfz24_4 := bf BK340 4
      go_wp2
      go_ret
      exact ⟨er, bw HB⟩
     intro c21 c21b0 c21b1 H
     (first | rw [c21b0] | (simp only [i64_w, i32_w]; rw [c21b0]) | skip)
     obtain rfl := Option.some.inj H
     have hnb25 := NB339_340.out
     have hnc25 := NB340_339.out
     have hcz26_0 := bk w19 BK339 0
     have hcz26_1 := bk w19 BK339 1
     have hcz26_2 := bk w19 BK339 2
     have hcz26_3 := bk w19 BK339 3
     have hcz26_4 := bk w19 BK339 4
     have hfz26_0 := bf BK339 0
     have hfz26_1 := bf BK339 1
     have hfz26_2 := bf BK339 2
     have hfz26_3 := bf BK339 3
     have hfz26_4 := bf BK339 4
     have hcz27_0 := bk w19 BK340 0
     have hcz27_1 := bk w19 BK340 1
     have hcz27_2 := bk w19 BK340 2
     have hcz27_3 := bk w19 BK340 3
     have hcz27_4 := bk w19 BK340 4
     have hfz27_0 := bf BK340 0
     have hfz27_1 := bf BK340 1
     have hfz27_2 := bf BK340 2
     have hfz27_3 := bf BK340 3
     have hfz27_4 := bf BK340 4
     go_wp2
     go_ret
     exact ⟨er, bw HB⟩
    obtain rfl := Option.some.inj H
    go_wp2
    go_ret
    exact ⟨er, bw HB⟩
   intro c13 c13b0 c13b1 H
   obtain rfl := Option.some.inj H
   have hnb28 := NB339_340.out
   have hnc28 := NB340_339.out
   have hcz29_0 := bk w10 BK339 0
   have hcz29_1 := bk w10 BK339 1
   have hcz29_2 := bk w10 BK339 2
   have hcz29_3 := bk w10 BK339 3
   have hcz29_4 := bk w10 BK339 4
   have hfz29_0 := bf BK339 0
   have hfz29_1 := bf BK339 1
   have hfz29_2 := bf BK339 2
   have hfz29_3 := bf BK339 3
   have hfz29_4 := bf BK339 4
   have hcz30_0 := bk w10 BK340 0
   have hcz30_1 := bk w10 BK340 1
   have hcz30_2 := bk w10 BK340 2
   have hcz30_3 := bk w10 BK340 3
   have hcz30_4 := bk w10 BK340 4
   have hfz30_0 := bf BK340 0
   have hfz30_1 := bf BK340 1
   have hfz30_2 := bf BK340 2
   have hfz30_3 := bf BK340 3
   have hfz30_4 := bf BK340 4
   go_wp2
   go_ret
   exact ⟨er, bw HB⟩
  intro c12 c12b0 c12b1 H
  (first | rw [c12b0] | (simp only [i64_w, i32_w]; rw [c12b0]) | skip)
  obtain rfl := Option.some.inj H
  have hnb31 := NB339_340.out
  have hnc31 := NB340_339.out
  have hcz32_0 := bk w10 BK339 0
  have hcz32_1 := bk w10 BK339 1
  have hcz32_2 := bk w10 BK339 2
  have hcz32_3 := bk w10 BK339 3
  have hcz32_4 := bk w10 BK339 4
  have hfz32_0 := bf BK339 0
  have hfz32_1 := bf BK339 1
  have hfz32_2 := bf BK339 2
  have hfz32_3 := bf BK339 3
  have hfz32_4 := bf BK339 4
  have hcz33_0 := bk w10 BK340 0
  have hcz33_1 := bk w10 BK340 1
  have hcz33_2 := bk w10 BK340 2
  have hcz33_3 := bk w10 BK340 3
  have hcz33_4 := bk w10 BK340 4
  have hfz33_0 := bf BK340 0
  have hfz33_1 := bf BK340 1
  have hfz33_2 := bf BK340 2
  have hfz33_3 := bf BK340 3
  have hfz33_4 := bf BK340 4
  go_wp2
  go_ret
  exact ⟨er, bw HB⟩
 obtain rfl := Option.some.inj H
 go_wp2
 go_ret
 exact ⟨er, bw HB⟩

def laws_eqAsmInsS.l0 : Nat → List (S94) → List (S94) → Int → Option (Bool)
 | 0, _, _, _ => none
 | k + 1, x0, x1, x5 => if x5 < (x0.length : Int) then (if 0 ≤ x5 then (if x5 < (x1.length : Int) then ((laws_eqAsmIns.f k ((rd_T94 x0 x5).f0) ((rd_T94 x0 x5).f1) ((rd_T94 x0 x5).f2) ((rd_T94 x0 x5).f3) ((rd_T94 x0 x5).f4) ((rd_T94 x1 x5).f0) ((rd_T94 x1 x5).f1) ((rd_T94 x1 x5).f2) ((rd_T94 x1 x5).f3) ((rd_T94 x1 x5).f4)).bind fun t345 => (if t345 = true then (laws_eqAsmInsS.l0 k x0 x1 (wrap64 (x5 + 1))) else (some false))) else (none)) else (none)) else (some true)
def laws_eqAsmInsS.f (k : Nat) (l0 : List (S94)) (l1 : List (S94)) : Option (Bool) := if (l0.length : Int) = (l1.length : Int) then (laws_eqAsmInsS.l0 k l0 l1 0) else (some false)
theorem laws_eqAsmInsS.mono_l : ∀ k, (∀ y0 y1 y2, LeO (laws_eqAsmInsS.l0 k y0 y1 y2) (laws_eqAsmInsS.l0 (k + 1) y0 y1 y2))
 | 0 => fun _ _ _ r h => by simp [laws_eqAsmInsS.l0] at h
 | k + 1 => by
  have ih0 := laws_eqAsmInsS.mono_l k
  ·intro y0 y1 y2
   unfold laws_eqAsmInsS.l0
   with_reducible repeat' first | exact ih0 .. | exact laws_eqAsmIns.mono .. | exact LeO.refl _ | exact LeO.none _ | refine LeO.ite ?_ ?_ | refine LeO.bind ?_ (fun _ => ?_)
theorem laws_eqAsmInsS.mono : ∀ a0 a1 k, LeO (laws_eqAsmInsS.f k a0 a1) (laws_eqAsmInsS.f (k + 1) a0 a1) := by
 intro a0 a1 k
 have ih0 := laws_eqAsmInsS.mono_l k
 unfold laws_eqAsmInsS.f
 with_reducible repeat' first | exact ih0 .. | exact laws_eqAsmIns.mono .. | exact LeO.refl _ | exact LeO.none _ | refine LeO.ite ?_ ?_ | refine LeO.bind ?_ (fun _ => ?_)
def laws_eqAsmInsS.T6 : Bool × List (List Nat × List Nat) := (true, [([], []), ([], []), ([0, 1], [0, 1]), ([2], [2]), ([], []), ([], []), ([4, 5], [4, 5]), ([6], [6]), ([3, 7], [3, 7]), ([8], [8])])
def laws_eqAsmInsS.B6 : List Nat := [0, 0, 3, 7, 0, 0, 48, 112, 255, 511]
theorem laws_eqAsmInsS.tab6 : rtab .any (opsOf Try.f51 6) = laws_eqAsmInsS.T6 := by kernel_rfl
theorem laws_eqAsmInsS.bits6 : waitsOk laws_eqAsmInsS.T6.2 laws_eqAsmInsS.B6 = true := by kernel_rfl
theorem laws_eqAsmInsS.calls (k : Nat) (A0 : Option Addr) (c0 : Nat) (l0 : List (S94)) (A1 : Option Addr) (c1 : Nat) (l1 : List (S94)) (r : Bool) (w : World) (hr0 : Kd.C k94 w A0 l0.length l0) (hc0 : l0.length ≤ c0) (hr1 : Kd.C k94 w A1 l1.length l1) (hc1 : l1.length ≤ c1) (h : laws_eqAsmInsS.f k l0 l1 = some r) :
  Calls Try.prog 51 #[.slice A0 l0.length c0, .slice A1 l1.length c1] w fun e w' => e = .returned (.bool r) ∧ Below w.heap.size w w' := by
 have hu94 := Try.underlying94
 have HR0 := am hr0
 have HC0 := am hc0
 clear hr0 hc0
 have HR1 := am hr1
 have HC1 := am hc1
 clear hr1 hc1
 have HB := am (Below.refl w.heap.size w)
 have H : (if (l0.length : Int) = (l1.length : Int) then (laws_eqAsmInsS.l0 k l0 l1 0) else (some false)) = some r := h
 clear h
 by_cases c3 : (l0.length : Int) = (l1.length : Int)
 ·rw [if_pos c3] at H
  have c3b0 : ((l0.length : Int) == (l1.length : Int)) = true := beq_iff_eq.mpr c3
  have c3b1 : ((l0.length : Int) != (l1.length : Int)) = false := bne_eq_false_iff_eq.mpr c3
  have c3b2 : (l0.length == l1.length) = true := by first | simpa using c3 | (simp at c3 ⊢; omega)
  clear c3
  have H' := am H
  clear H
  go_enter Try.func51, Try.ntmps51
  go_wp2
  go_loopg [5] k (fun kq v5 w' => ∃ (x5_1 : Int), v5 = .int .i64 x5_1 ∧ Aside0 (laws_eqAsmInsS.l0 kq l0 l1 x5_1 = some r) ∧ Aside0 (kq ≤ k) ∧ Aside0 (Below w.heap.size w w'))
  case atStart => exact ⟨(0), dr, H', ⟨Nat.le_refl _⟩, ⟨bw HB⟩⟩
  clear H'
  (try clear c1); (try clear p2); (try clear c3); (try clear c3b0); (try clear c3b1); (try clear c3b2)
  obtain ⟨x5_1, rfl, HA, HK1, HB⟩ := hrel
  rcases gk with _ | k1
  ·exact absurd HA.out (by simp [laws_eqAsmInsS.l0])
  have H := HA.out
  clear HA
  simp only [laws_eqAsmInsS.l0] at H
  refine qI H ?_ ?_ <;> clear H <;> intro c4b0 H
  ·refine iM H ?_; clear H; intro c5b0 H
   refine iM H ?_; clear H; intro c6b0 H
   refine be H ?_; clear H; intro t345 A7 H
   have HC8 := am H
   clear H
   try go_wp2
   replace HB := am (below_drew1 HB.out)
   have p343 : 0 ≤ (x5_1 : Int) := of_decide_eq_true as1
   have q343 : x5_1 < (l0.length : Int) := of_decide_eq_true as1
   obtain ⟨ad343, A343_0, c343_0, A343_3, c343_3, e343, hx343_0, hx343_1, hx343_2, hx343_3, hx343_4, hl343_0, hi343_0, hl343_3, hi343_3⟩ := at_T94 HR0.out x5_1 p343 q343
   have hw343_4 := hx343_4
   have hw343_3 := hx343_3
   have hw343_2 := hx343_2
   have hw343_1 := hx343_1
   have hw343_0 := hx343_0
   cases e343
   replace hx343_0 := cl HB hx343_0
   replace hx343_1 := cl HB hx343_1
   replace hx343_2 := cl HB hx343_2
   replace hx343_3 := cl HB hx343_3
   replace hx343_4 := cl HB hx343_4
   have HR343_0 := am hi343_0
   have HC343_0 := am hl343_0
   clear hi343_0 hl343_0
   have HR343_3 := am hi343_3
   have HC343_3 := am hl343_3
   clear hi343_3 hl343_3
   replace p343 := eq_true p343
   replace q343 := eq_true q343
   have p344 : 0 ≤ (x5_1 : Int) := of_decide_eq_true as1
   have q344 : x5_1 < (l1.length : Int) := of_decide_eq_true as1
   obtain ⟨ad344, A344_0, c344_0, A344_3, c344_3, e344, hx344_0, hx344_1, hx344_2, hx344_3, hx344_4, hl344_0, hi344_0, hl344_3, hi344_3⟩ := at_T94 HR1.out x5_1 p344 q344
   have hw344_4 := hx344_4
   have hw344_3 := hx344_3
   have hw344_2 := hx344_2
   have hw344_1 := hx344_1
   have hw344_0 := hx344_0
   cases e344
   replace hx344_0 := cl HB hx344_0
   replace hx344_1 := cl HB hx344_1
   replace hx344_2 := cl HB hx344_2
   replace hx344_3 := cl HB hx344_3
   replace hx344_4 := cl HB hx344_4
   have HR344_0 := am hi344_0
   have HC344_0 := am hl344_0
   clear hi344_0 hl344_0
   have HR344_3 := am hi344_3
   have HC344_3 := am hl344_3
   clear hi344_3 hl344_3
   replace p344 := eq_true p344
   replace q344 := eq_true q344
   refine start_ (n := 10) (S := fun w' => w'.cell? (ad343.add ((x5_1).toNat * 5)) = some (.slice A343_0 ((rd_T94 l0 x5_1).f0).length c343_0) ∧ w'.cell? ⟨(ad343.add ((x5_1).toNat * 5)).block, (ad343.add ((x5_1).toNat * 5)).off + 1, none⟩ = some (.int .i64 ((rd_T94 l0 x5_1).f1)) ∧ w'.cell? ⟨(ad343.add ((x5_1).toNat * 5)).block, (ad343.add ((x5_1).toNat * 5)).off + 2, none⟩ = some (.int .i64 ((rd_T94 l0 x5_1).f2)) ∧ w'.cell? ⟨(ad343.add ((x5_1).toNat * 5)).block, (ad343.add ((x5_1).toNat * 5)).off + 3, none⟩ = some (.slice A343_3 ((rd_T94 l0 x5_1).f3).length c343_3) ∧ w'.cell? ⟨(ad343.add ((x5_1).toNat * 5)).block, (ad343.add ((x5_1).toNat * 5)).off + 4, none⟩ = some (.int .i64 ((rd_T94 l0 x5_1).f4)) ∧ w'.cell? (ad344.add ((x5_1).toNat * 5)) = some (.slice A344_0 ((rd_T94 l1 x5_1).f0).length c344_0) ∧ w'.cell? ⟨(ad344.add ((x5_1).toNat * 5)).block, (ad344.add ((x5_1).toNat * 5)).off + 1, none⟩ = some (.int .i64 ((rd_T94 l1 x5_1).f1)) ∧ w'.cell? ⟨(ad344.add ((x5_1).toNat * 5)).block, (ad344.add ((x5_1).toNat * 5)).off + 2, none⟩ = some (.int .i64 ((rd_T94 l1 x5_1).f2)) ∧ w'.cell? ⟨(ad344.add ((x5_1).toNat * 5)).block, (ad344.add ((x5_1).toNat * 5)).off + 3, none⟩ = some (.slice A344_3 ((rd_T94 l1 x5_1).f3).length c344_3) ∧ w'.cell? ⟨(ad344.add ((x5_1).toNat * 5)).block, (ad344.add ((x5_1).toNat * 5)).off + 4, none⟩ = some (.int .i64 ((rd_T94 l1 x5_1).f4))) (ds := []) (bv 10 0) (by kernel_rfl) rfl (by kernel_rfl) ⟨(cq HB hw343_0), (cq HB hw343_1), (cq HB hw343_2), (cq HB hw343_3), (cq HB hw343_4), (cq HB hw344_0), (cq HB hw344_1), (cq HB hw344_2), (cq HB hw344_3), (cq HB hw344_4)⟩ (fun hHeld => ?_); refine with_tabW laws_eqAsmInsS.tab6 laws_eqAsmInsS.bits6 (fun HT_ HW_ => ?_)
   generalize wr.drew = w9 at HB HR343_0 HR343_3 HR344_0 HR344_3 hx343_0 hx343_1 hx343_2 hx343_3 hx343_4 hx344_0 hx344_1 hx344_2 hx344_3 hx344_4 hHeld ⊢
   refine pu 0 17 10 1 HT_ ?_
   refine pu 1 18 10 3 HT_ ?_
   refine pu 2 19 10 7 HT_ ?_
   refine pu 4 21 10 23 HT_ ?_
   refine pu 5 22 10 55 HT_ ?_
   refine pu 6 23 10 119 HT_ ?_
   refine tk 3 20 10 127 HT_ HW_ hHeld ?_
   refine tk 7 24 10 255 HT_ HW_ hHeld ?_
   refine on 8 (some 25) 10 511 HT_ fun K hK => ?_
   refine goes_ Try.func59 (by kernel_rfl) rfl #[.agg #[.slice A343_0 ((rd_T94 l0 x5_1).f0).length c343_0, .int .i64 ((rd_T94 l0 x5_1).f1), .int .i64 ((rd_T94 l0 x5_1).f2), .slice A343_3 ((rd_T94 l0 x5_1).f3).length c343_3, .int .i64 ((rd_T94 l0 x5_1).f4)], .agg #[.slice A344_0 ((rd_T94 l1 x5_1).f0).length c344_0, .int .i64 ((rd_T94 l1 x5_1).f1), .int .i64 ((rd_T94 l1 x5_1).f2), .slice A344_3 ((rd_T94 l1 x5_1).f3).length c344_3, .int .i64 ((rd_T94 l1 x5_1).f4)]] (by rfl) rfl rfl gl ?_
   with_reducible refine (laws_eqAsmIns.calls k1 _ _ ((rd_T94 l0 x5_1).f0) ((rd_T94 l0 x5_1).f1) ((rd_T94 l0 x5_1).f2) _ _ ((rd_T94 l0 x5_1).f3) ((rd_T94 l0 x5_1).f4) _ _ ((rd_T94 l1 x5_1).f0) ((rd_T94 l1 x5_1).f1) ((rd_T94 l1 x5_1).f2) _ _ ((rd_T94 l1 x5_1).f3) ((rd_T94 l1 x5_1).f4) t345 _ ?side1 ?side2 ?side3 ?side4 ?side5 ?side6 ?side7 ?side8 A7.out).mono ?_
   (case side1 => exact cc (Kd.C_below HR343_0.out HB.out))
   (case side2 => exact HC343_0.out)
   (case side3 => exact cc (Kd.C_below HR343_3.out HB.out))
   (case side4 => exact HC343_3.out)
   (case side5 => exact cc (Kd.C_below HR344_0.out HB.out))
   (case side6 => exact HC344_0.out)
   (case side7 => exact cc (Kd.C_below HR344_3.out HB.out))
   (case side8 => exact HC344_3.out)
   rintro e w10 ⟨rfl, hb⟩
   refine ⟨_, rfl, ?_⟩
   replace HB := am (below_step (bw HB) hb)
   clear hb
   refine hK.out _ _ ⟨(cq HB hw343_0), (cq HB hw343_1), (cq HB hw343_2), (cq HB hw343_3), (cq HB hw343_4), (cq HB hw344_0), (cq HB hw344_1), (cq HB hw344_2), (cq HB hw344_3), (cq HB hw344_4)⟩ (fun hHeld => ?_)
   clear hK K
   refine nm (some 25) ?_
   refine pu 9 26 10 1023 HT_ ?_
   refine done_ (done_of HT_.out (by kernel_rfl)) ?_
   go_upto_if 26 with (fail)
   (try simp only [Act.put, sa, sz, ss])
   have H := HC8.out
   clear HC8
   refine qT H ?_ ?_ <;> clear H <;> intro c11 H <;> subst c11
   ·have H' := am H
    clear H
    go_wp2
    go_roundg k1
    case measure => have := HK1.out; omega
    case rel => exact ⟨(wrap64 (x5_1 + 1)), dr, H', ⟨by have := HK1.out; omega⟩, ⟨bw HB⟩⟩
   obtain rfl := Option.some.inj H
   go_wp2
   go_ret
   exact ⟨er, bw HB⟩
  obtain rfl := Option.some.inj H
  go_wp2
  go_ret
  exact ⟨er, bw HB⟩
 rw [if_neg c3] at H
 have c3b0 : ((l0.length : Int) == (l1.length : Int)) = false := beq_eq_false_iff_ne.mpr c3
 have c3b1 : ((l0.length : Int) != (l1.length : Int)) = true := bne_iff_ne.mpr c3
 have c3b2 : (l0.length == l1.length) = false := by first | simpa using c3 | (simp at c3 ⊢; omega)
 obtain rfl := Option.some.inj H
 go_enter Try.func51, Try.ntmps51
 go_wp2
 go_ret
 exact ⟨er, bw HB⟩

end Go.Proofs.Yticdldoijkdffaa.QFnExactMixTold
