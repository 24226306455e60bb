import Derived.Test.YticdldoijkdffaaCFnExactMixToldx0
namespace Go.Proofs.Yticdldoijkdffaa.QFnExactMixTold
open Go.RowKit Go.Proofs.YticdldoijkdffaaW
open PrintWords PrintLast PrintMore PrintShort PrintIsh
attribute [local go_sem] max2_int min2_int max_two min_two max_three min_three max_four min_four   -- for this text's walks alone
set_option linter.unusedVariables false
set_option maxHeartbeats 8000000
set_option maxRecDepth 100000
set_option linter.unusedSimpArgs false

def laws_szValS.f (l0 : List (S113)) (a1 : Int) : Option (Int) := if (wrap64 (a1 - (l0.length : Int))) < 0 then (some (-1)) else (some (wrap64 (a1 - (l0.length : Int))))
theorem laws_szValS.calls (A0 : Option Addr) (c0 : Nat) (l0 : List (S113)) (a1 : Int) (r : Int) (w : World) (hr0 : Kd.C k113 w A0 l0.length l0) (hc0 : l0.length ≤ c0) (h : laws_szValS.f l0 a1 = some r) :
  Calls Try.prog 56 #[.slice A0 l0.length c0, .int .i64 a1] w fun e w' => e = .returned (.int .i64 r) ∧ Drawn0 w w' := by
 have HR0 := am hr0
 have HC0 := am hc0
 clear hr0 hc0
 have H : (if (wrap64 (a1 - (l0.length : Int))) < 0 then (some (-1)) else (some (wrap64 (a1 - (l0.length : Int))))) = some r := h
 clear h
 refine qI H ?_ ?_ <;> clear H <;> intro c3b0 H
 ·obtain rfl := Option.some.inj H
  go_enter Try.func56, Try.ntmps56
  go_wp2
  go_ret
  exact ⟨by first | rfl | (simp; done) | (simp [*]; done), by repeat (first | exact Drawn0.refl _ | apply Drawn0.step)⟩
 obtain rfl := Option.some.inj H
 go_enter Try.func56, Try.ntmps56
 go_wp2
 go_ret
 exact ⟨by first | rfl | (simp; done) | (simp [*]; done), by repeat (first | exact Drawn0.refl _ | apply Drawn0.step)⟩

def laws_szMovS.f (l0 : List (S118)) (a1 : Int) : Option (Int) := if (wrap64 (a1 - (l0.length : Int))) < 0 then (some (-1)) else (some (wrap64 (a1 - (l0.length : Int))))
theorem laws_szMovS.calls (A0 : Option Addr) (c0 : Nat) (l0 : List (S118)) (a1 : Int) (r : Int) (w : World) (hr0 : Kd.C k118 w A0 l0.length l0) (hc0 : l0.length ≤ c0) (h : laws_szMovS.f l0 a1 = some r) :
  Calls Try.prog 61 #[.slice A0 l0.length c0, .int .i64 a1] w fun e w' => e = .returned (.int .i64 r) ∧ Drawn0 w w' := by
 have HR0 := am hr0
 have HC0 := am hc0
 clear hr0 hc0
 have H : (if (wrap64 (a1 - (l0.length : Int))) < 0 then (some (-1)) else (some (wrap64 (a1 - (l0.length : Int))))) = some r := h
 clear h
 refine qI H ?_ ?_ <;> clear H <;> intro c3b0 H
 ·obtain rfl := Option.some.inj H
  go_enter Try.func61, Try.ntmps61
  go_wp2
  go_ret
  exact ⟨by first | rfl | (simp; done) | (simp [*]; done), by repeat (first | exact Drawn0.refl _ | apply Drawn0.step)⟩
 obtain rfl := Option.some.inj H
 go_enter Try.func61, Try.ntmps61
 go_wp2
 go_ret
 exact ⟨by first | rfl | (simp; done) | (simp [*]; done), by repeat (first | exact Drawn0.refl _ | apply Drawn0.step)⟩

def laws_szAsmIns.f (l0_0 : List (S118)) (a0_1 : Int) (a0_2 : Int) (l0_3 : List (S113)) (a0_4 : Int) (a1 : Int) : Option (Int) := (laws_szMovS.f l0_0 a1).bind fun t102 => (if t102 < 0 then (some (-1)) else ((laws_szValS.f l0_3 t102).bind fun t103 => (if t103 < 0 then (some (-1)) else (some t103))))
theorem laws_szAsmIns.calls (A0_0 : Option Addr) (c0_0 : Nat) (l0_0 : List (S118)) (a0_1 : Int) (a0_2 : Int) (A0_3 : Option Addr) (c0_3 : Nat) (l0_3 : List (S113)) (a0_4 : Int) (a1 : Int) (r : Int) (w : World) (hr0_0 : Kd.C k118 w A0_0 l0_0.length l0_0) (hc0_0 : l0_0.length ≤ c0_0) (hr0_3 : Kd.C k113 w A0_3 l0_3.length l0_3) (hc0_3 : l0_3.length ≤ c0_3) (h : laws_szAsmIns.f l0_0 a0_1 a0_2 l0_3 a0_4 a1 = some r) :
  Calls Try.prog 55 #[.agg #[.slice A0_0 l0_0.length c0_0, .int .i64 a0_1, .int .i64 a0_2, .slice A0_3 l0_3.length c0_3, .int .i64 a0_4], .int .i64 a1] w fun e w' => e = .returned (.int .i64 r) ∧ Below w.heap.size w w' := by
 have hu100 := Try.underlying100
 have HR0_0 := am hr0_0
 have HC0_0 := am hc0_0
 clear hr0_0 hc0_0
 have HR0_3 := am hr0_3
 have HC0_3 := am hc0_3
 clear hr0_3 hc0_3
 have HB := am (Below.refl w.heap.size w)
 have H : ((laws_szMovS.f l0_0 a1).bind fun t102 => (if t102 < 0 then (some (-1)) else ((laws_szValS.f l0_3 t102).bind fun t103 => (if t103 < 0 then (some (-1)) else (some t103))))) = some r := h
 clear h
 refine be H ?_; clear H; intro t102 A3 H
 have HC4 := am H
 clear H
 go_enter Try.func55, Try.ntmps55
 go_upto_if 10 with (first | ((with_reducible refine gd 2 rfl ?_); refine bX 2 #[.slice A0_0 l0_0.length c0_0, .int .i64 a0_1, .int .i64 a0_2, .slice A0_3 l0_3.length c0_3, .int .i64 a0_4] 100 HB ?_; clear HB; intro gb101 w5 hg hb BK101 GW101 HB; clear hb hg; have hcz6_0 := bk w5 BK101 0; have hcz6_1 := bk w5 BK101 1; have hcz6_2 := bk w5 BK101 2; have hcz6_3 := bk w5 BK101 3; have hcz6_4 := bk w5 BK101 4; have hfz6_0 := bf BK101 0; have hfz6_1 := bf BK101 1; have hfz6_2 := bf BK101 2; have hfz6_3 := bf BK101 3; have hfz6_4 := bf BK101 4) | ((with_reducible refine gk 61 rfl ?_); refine gD 61 (some 8) Try.func61 #[.slice A0_0 l0_0.length c0_0, .int .i64 a1] (laws_szMovS.calls _ _ l0_0 a1 t102 _ (cc (Kd.C_below HR0_0.out HB.out)) HC0_0.out A3.out) ?_; intro nd))
 (try simp only [Act.put, sa, sz, ss])
 (try simp only [World.drewN_drewN])
 generalize hq_ : World.drewN w5 _ = w7
 replace BK101 : Aside0 (w7.heap[gb101]? = some (.cells #[.slice A0_0 l0_0.length c0_0, .int .i64 a0_1, .int .i64 a0_2, .slice A0_3 l0_3.length c0_3, .int .i64 a0_4] 100 (0, 0))) := ⟨by rw [← hq_]; exact (bp BK101)⟩
 replace HB : Aside0 (Below w.heap.size w w7) := ⟨by rw [← hq_]; exact (bw HB)⟩
 clear hq_
 have H := HC4.out
 clear HC4
 refine qI H ?_ ?_ <;> clear H <;> intro c8b0 H
 ·(first | rw [c8b0] | (simp only [i64_w, i32_w]; rw [c8b0]) | skip)
  obtain rfl := Option.some.inj H
  go_wp2
  go_ret
  exact ⟨er, bw HB⟩
 (first | rw [c8b0] | (simp only [i64_w, i32_w]; rw [c8b0]) | skip)
 refine be H ?_; clear H; intro t103 A9 H
 have HC10 := am H
 clear H
 have hcz11_0 := bk w7 BK101 0
 have hcz11_1 := bk w7 BK101 1
 have hcz11_2 := bk w7 BK101 2
 have hcz11_3 := bk w7 BK101 3
 have hcz11_4 := bk w7 BK101 4
 have hfz11_0 := bf BK101 0
 have hfz11_1 := bf BK101 1
 have hfz11_2 := bf BK101 2
 have hfz11_3 := bf BK101 3
 have hfz11_4 := bf BK101 4
 go_upto_if 16 with (first | ((with_reducible refine gk 56 rfl ?_); refine gD 56 (some 14) Try.func56 #[.slice A0_3 l0_3.length c0_3, .int .i64 t102] (laws_szValS.calls _ _ l0_3 t102 t103 _ (cc (Kd.C_below HR0_3.out HB.out)) HC0_3.out A9.out) ?_; intro nd))
 (try simp only [Act.put, sa, sz, ss])
 (try simp only [World.drewN_drewN])
 generalize hq_ : World.drewN w7 _ = w12
 replace BK101 : Aside0 (w12.heap[gb101]? = some (.cells #[.slice A0_0 l0_0.length c0_0, .int .i64 a0_1, .int .i64 a0_2, .slice A0_3 l0_3.length c0_3, .int .i64 a0_4] 100 (0, 0))) := ⟨by rw [← hq_]; exact (bp BK101)⟩
 replace HB : Aside0 (Below w.heap.size w w12) := ⟨by rw [← hq_]; exact (bw HB)⟩
 clear hq_
 have H := HC10.out
 clear HC10
 refine qI H ?_ ?_ <;> clear H <;> intro c13b0 H
 ·(first | rw [c13b0] | (simp only [i64_w, i32_w]; rw [c13b0]) | skip)
  obtain rfl := Option.some.inj H
  go_wp2
  go_ret
  exact ⟨er, bw HB⟩
 (first | rw [c13b0] | (simp only [i64_w, i32_w]; rw [c13b0]) | skip)
 obtain rfl := Option.some.inj H
 go_wp2
 go_ret
 exact ⟨er, bw HB⟩

def laws_szAsmInsS.l0 : Nat → List (S100) → Int → Int → Option (Int)
 | 0, _, _, _ => none
 | k + 1, x0, x1, x5 => if x5 < (x0.length : Int) then (if 0 ≤ x5 then ((laws_szAsmIns.f ((rd_T100 x0 x5).f0) ((rd_T100 x0 x5).f1) ((rd_T100 x0 x5).f2) ((rd_T100 x0 x5).f3) ((rd_T100 x0 x5).f4) x1).bind fun t105 => (if t105 < 0 then (some (-1)) else (laws_szAsmInsS.l0 k x0 t105 (wrap64 (x5 + 1))))) else (none)) else (some x1)
def laws_szAsmInsS.f (k : Nat) (l0 : List (S100)) (a1 : Int) : Option (Int) := if (wrap64 (a1 - (l0.length : Int))) < 0 then (some (-1)) else (laws_szAsmInsS.l0 k l0 (wrap64 (a1 - (l0.length : Int))) 0)
theorem laws_szAsmInsS.mono_l : ∀ k, (∀ y0 y1 y2, LeO (laws_szAsmInsS.l0 k y0 y1 y2) (laws_szAsmInsS.l0 (k + 1) y0 y1 y2))
 | 0 => fun _ _ _ r h => by simp [laws_szAsmInsS.l0] at h
 | k + 1 => by
  have ih0 := laws_szAsmInsS.mono_l k
  ·intro y0 y1 y2
   unfold laws_szAsmInsS.l0
   with_reducible repeat' first | exact ih0 .. | exact LeO.refl _ | exact LeO.none _ | refine LeO.ite ?_ ?_ | refine LeO.bind ?_ (fun _ => ?_)
theorem laws_szAsmInsS.mono : ∀ a0 a1 k, LeO (laws_szAsmInsS.f k a0 a1) (laws_szAsmInsS.f (k + 1) a0 a1) := by
 intro a0 a1 k
 have ih0 := laws_szAsmInsS.mono_l k
 unfold laws_szAsmInsS.f
 with_reducible repeat' first | exact ih0 .. | exact LeO.refl _ | exact LeO.none _ | refine LeO.ite ?_ ?_ | refine LeO.bind ?_ (fun _ => ?_)
theorem laws_szAsmInsS.calls (k : Nat) (A0 : Option Addr) (c0 : Nat) (l0 : List (S100)) (a1 : Int) (r : Int) (w : World) (hr0 : Kd.C k100 w A0 l0.length l0) (hc0 : l0.length ≤ c0) (h : laws_szAsmInsS.f k l0 a1 = some r) :
  Calls Try.prog 47 #[.slice A0 l0.length c0, .int .i64 a1] w fun e w' => e = .returned (.int .i64 r) ∧ Below w.heap.size w w' := by
 have hu100 := Try.underlying100
 have HR0 := am hr0
 have HC0 := am hc0
 clear hr0 hc0
 have HB := am (Below.refl w.heap.size w)
 have H : (if (wrap64 (a1 - (l0.length : Int))) < 0 then (some (-1)) else (laws_szAsmInsS.l0 k l0 (wrap64 (a1 - (l0.length : Int))) 0)) = some r := h
 clear h
 by_cases c3 : (wrap64 (a1 - (l0.length : Int))) < 0
 ·rw [if_pos c3] at H
  have c3b0 := decide_eq_true c3
  clear c3
  obtain rfl := Option.some.inj H
  go_enter Try.func47, Try.ntmps47
  go_wp2
  go_ret
  exact ⟨er, bw HB⟩
 rw [if_neg c3] at H
 have c3b0 := decide_eq_false c3
 clear c3
 have H' := am H
 clear H
 go_enter Try.func47, Try.ntmps47
 go_wp2
 go_loopg [1, 5] k (fun kq v1 v5 w' => ∃ (x1_1 : Int) (x5_1 : Int), v1 = .int .i64 x1_1 ∧ v5 = .int .i64 x5_1 ∧ Aside0 (laws_szAsmInsS.l0 kq l0 x1_1 x5_1 = some r) ∧ Aside0 (kq ≤ k) ∧ Aside0 (Below w.heap.size w w'))
 case atStart => exact ⟨(wrap64 (a1 - (l0.length : Int))), (0), dr, dr, H', ⟨Nat.le_refl _⟩, ⟨bw HB⟩⟩
 clear H'
 (try clear p2); (try clear c3); (try clear c3b0)
 obtain ⟨x1_1, x5_1, rfl, rfl, HA, HK1, HB⟩ := hrel
 rcases gk with _ | k1
 ·exact absurd HA.out (by simp [laws_szAsmInsS.l0])
 have H := HA.out
 clear HA
 simp only [laws_szAsmInsS.l0] at H
 refine qI H ?_ ?_ <;> clear H <;> intro c4b0 H
 ·refine iM H ?_; clear H; intro c5b0 H
  refine be H ?_; clear H; intro t105 A6 H
  have HC7 := am H
  clear H
  have p104 : 0 ≤ (x5_1 : Int) := of_decide_eq_true as1
  have q104 : x5_1 < (l0.length : Int) := of_decide_eq_true as1
  obtain ⟨ad104, A104_0, c104_0, A104_3, c104_3, e104, hx104_0, hx104_1, hx104_2, hx104_3, hx104_4, hl104_0, hi104_0, hl104_3, hi104_3⟩ := at_T100 HR0.out x5_1 p104 q104
  cases e104
  replace hx104_0 := cl HB hx104_0
  replace hx104_1 := cl HB hx104_1
  replace hx104_2 := cl HB hx104_2
  replace hx104_3 := cl HB hx104_3
  replace hx104_4 := cl HB hx104_4
  have HR104_0 := am hi104_0
  have HC104_0 := am hl104_0
  clear hi104_0 hl104_0
  have HR104_3 := am hi104_3
  have HC104_3 := am hl104_3
  clear hi104_3 hl104_3
  replace p104 := eq_true p104
  replace q104 := eq_true q104
  go_upto_if 25 with (first | ((with_reducible refine gk 55 rfl ?_); refine gB 55 (some 23) Try.func55 #[.agg #[.slice A104_0 ((rd_T100 l0 x5_1).f0).length c104_0, .int .i64 ((rd_T100 l0 x5_1).f1), .int .i64 ((rd_T100 l0 x5_1).f2), .slice A104_3 ((rd_T100 l0 x5_1).f3).length c104_3, .int .i64 ((rd_T100 l0 x5_1).f4)], .int .i64 x1_1] (laws_szAsmIns.calls _ _ ((rd_T100 l0 x5_1).f0) ((rd_T100 l0 x5_1).f1) ((rd_T100 l0 x5_1).f2) _ _ ((rd_T100 l0 x5_1).f3) ((rd_T100 l0 x5_1).f4) x1_1 t105 _ (cc (Kd.C_below HR104_0.out HB.out)) HC104_0.out (cc (Kd.C_below HR104_3.out HB.out)) HC104_3.out A6.out) ?_; intro w8 hb; replace HB := bs HB hb; clear hb))
  (try simp only [Act.put, sa, sz, ss])
  have H := HC7.out
  clear HC7
  refine qI H ?_ ?_ <;> clear H <;> intro c9b0 H
  ·(first | rw [c9b0] | (simp only [i64_w, i32_w]; rw [c9b0]) | skip)
   obtain rfl := Option.some.inj H
   go_wp2
   go_ret
   exact ⟨er, bw HB⟩
  (first | rw [c9b0] | (simp only [i64_w, i32_w]; rw [c9b0]) | skip)
  have H' := am H
  clear H
  go_wp2
  go_roundg k1
  case measure => have := HK1.out; omega
  case rel => exact ⟨(t105), (wrap64 (x5_1 + 1)), dr, dr, H', ⟨by have := HK1.out; omega⟩, ⟨bw HB⟩⟩
 obtain rfl := Option.some.inj H
 go_wp2
 go_ret
 exact ⟨er, bw HB⟩

def laws_szValSS.l0 : Nat → List (List (S113)) → Int → Int → Option (Int)
 | 0, _, _, _ => none
 | k + 1, x0, x1, x5 => if x5 < (x0.length : Int) then (if 0 ≤ x5 then ((laws_szValS.f (rd_L4 x0 x5) x1).bind fun t107 => (if t107 < 0 then (some (-1)) else (laws_szValSS.l0 k x0 t107 (wrap64 (x5 + 1))))) else (none)) else (some x1)
def laws_szValSS.f (k : Nat) (l0 : List (List (S113))) (a1 : Int) : Option (Int) := if (wrap64 (a1 - (l0.length : Int))) < 0 then (some (-1)) else (laws_szValSS.l0 k l0 (wrap64 (a1 - (l0.length : Int))) 0)
theorem laws_szValSS.mono_l : ∀ k, (∀ y0 y1 y2, LeO (laws_szValSS.l0 k y0 y1 y2) (laws_szValSS.l0 (k + 1) y0 y1 y2))
 | 0 => fun _ _ _ r h => by simp [laws_szValSS.l0] at h
 | k + 1 => by
  have ih0 := laws_szValSS.mono_l k
  ·intro y0 y1 y2
   unfold laws_szValSS.l0
   with_reducible repeat' first | exact ih0 .. | exact LeO.refl _ | exact LeO.none _ | refine LeO.ite ?_ ?_ | refine LeO.bind ?_ (fun _ => ?_)
theorem laws_szValSS.mono : ∀ a0 a1 k, LeO (laws_szValSS.f k a0 a1) (laws_szValSS.f (k + 1) a0 a1) := by
 intro a0 a1 k
 have ih0 := laws_szValSS.mono_l k
 unfold laws_szValSS.f
 with_reducible repeat' first | exact ih0 .. | exact LeO.refl _ | exact LeO.none _ | refine LeO.ite ?_ ?_ | refine LeO.bind ?_ (fun _ => ?_)
theorem laws_szValSS.calls (k : Nat) (A0 : Option Addr) (c0 : Nat) (l0 : List (List (S113))) (a1 : Int) (r : Int) (w : World) (hr0 : Kd.C (Kd.slice 113 k113) w A0 l0.length l0) (hc0 : l0.length ≤ c0) (h : laws_szValSS.f k l0 a1 = some r) :
  Calls Try.prog 48 #[.slice A0 l0.length c0, .int .i64 a1] w fun e w' => e = .returned (.int .i64 r) ∧ Drawn0 w w' := by
 have HR0 := am hr0
 have HC0 := am hc0
 clear hr0 hc0
 have H : (if (wrap64 (a1 - (l0.length : Int))) < 0 then (some (-1)) else (laws_szValSS.l0 k l0 (wrap64 (a1 - (l0.length : Int))) 0)) = some r := h
 clear h
 by_cases c3 : (wrap64 (a1 - (l0.length : Int))) < 0
 ·rw [if_pos c3] at H
  have c3b0 := decide_eq_true c3
  clear c3
  obtain rfl := Option.some.inj H
  go_enter Try.func48, Try.ntmps48
  go_wp2
  go_ret
  exact ⟨by first | rfl | (simp; done) | (simp [*]; done), by repeat (first | exact Drawn0.refl _ | apply Drawn0.step)⟩
 rw [if_neg c3] at H
 have c3b0 := decide_eq_false c3
 clear c3
 have H' := am H
 clear H
 go_enter Try.func48, Try.ntmps48
 go_wp2
 go_loopg [1, 5] k (fun kq v1 v5 w' => ∃ (x1_1 : Int) (x5_1 : Int), v1 = .int .i64 x1_1 ∧ v5 = .int .i64 x5_1 ∧ Aside0 (laws_szValSS.l0 kq l0 x1_1 x5_1 = some r) ∧ Aside0 (kq ≤ k) ∧ Drawn0 w w')
 case atStart => exact ⟨(wrap64 (a1 - (l0.length : Int))), (0), dr, dr, H', ⟨Nat.le_refl _⟩, by repeat (first | exact Drawn0.refl _ | apply Drawn0.step)⟩
 clear H'
 (try clear p2); (try clear c3); (try clear c3b0)
 obtain ⟨x1_1, x5_1, rfl, rfl, HA, HK1, ⟨m1, rfl⟩⟩ := hrel
 rcases gk with _ | k1
 ·exact absurd HA.out (by simp [laws_szValSS.l0])
 have H := HA.out
 clear HA
 simp only [laws_szValSS.l0] at H
 refine qI H ?_ ?_ <;> clear H <;> intro c4b0 H
 ·refine iM H ?_; clear H; intro c5b0 H
  refine be H ?_; clear H; intro t107 A6 H
  have HC7 := am H
  clear H
  have p106 : 0 ≤ (x5_1 : Int) := of_decide_eq_true as1
  have q106 : x5_1 < (l0.length : Int) := of_decide_eq_true as1
  obtain ⟨ad106, A106_0, c106_0, e106, hx106_0, hl106_0, hi106_0⟩ := at_L4 HR0.out x5_1 p106 q106
  cases e106
  have HR106_0 := am hi106_0
  have HC106_0 := am hl106_0
  clear hi106_0 hl106_0
  replace p106 := eq_true p106
  replace q106 := eq_true q106
  go_upto_if 25 with (first | ((with_reducible refine gk 56 rfl ?_); refine gD 56 (some 23) Try.func56 #[.slice A106_0 (rd_L4 l0 x5_1).length c106_0, .int .i64 x1_1] (laws_szValS.calls _ _ (rd_L4 l0 x5_1) x1_1 t107 _ (by repeat (first | exact HR106_0.out | (with_reducible refine Kd.C_alloc ?_ _) | (with_reducible refine Kd.C_drewN ?_ _) | (with_reducible refine Kd.C_drew ?_))) HC106_0.out A6.out) ?_; intro nd))
  (try simp only [Act.put, sa, sz, ss])
  have H := HC7.out
  clear HC7
  refine qI H ?_ ?_ <;> clear H <;> intro c8b0 H
  ·(first | rw [c8b0] | (simp only [i64_w, i32_w]; rw [c8b0]) | skip)
   obtain rfl := Option.some.inj H
   go_wp2
   go_ret
   exact ⟨by first | rfl | (simp; done) | (simp [*]; done), by repeat (first | exact Drawn0.refl _ | apply Drawn0.step)⟩
  (first | rw [c8b0] | (simp only [i64_w, i32_w]; rw [c8b0]) | skip)
  have H' := am H
  clear H
  go_wp2
  go_roundg k1
  case measure => have := HK1.out; omega
  case rel => exact ⟨(t107), (wrap64 (x5_1 + 1)), dr, dr, H', ⟨by have := HK1.out; omega⟩, by repeat (first | exact Drawn0.refl _ | apply Drawn0.step)⟩
 obtain rfl := Option.some.inj H
 go_wp2
 go_ret
 exact ⟨by first | rfl | (simp; done) | (simp [*]; done), by repeat (first | exact Drawn0.refl _ | apply Drawn0.step)⟩

def laws_szAsm.f (k : Nat) (a0_0 : Int) (l0_1 : List (S100)) (l0_2 : List (List (S113))) (a1 : Int) : Option (Int) := (laws_szAsmInsS.f k l0_1 a1).bind fun t109 => (if t109 < 0 then (some (-1)) else ((laws_szValSS.f k l0_2 t109).bind fun t110 => (if t110 < 0 then (some (-1)) else (some t110))))
theorem laws_szAsm.mono : ∀ a0 a1 a2 a3 k, LeO (laws_szAsm.f k a0 a1 a2 a3) (laws_szAsm.f (k + 1) a0 a1 a2 a3) := by
 intro a0 a1 a2 a3 k
 unfold laws_szAsm.f
 with_reducible repeat' first | exact laws_szAsmInsS.mono .. | exact laws_szValSS.mono .. | exact LeO.refl _ | exact LeO.none _ | refine LeO.ite ?_ ?_ | refine LeO.bind ?_ (fun _ => ?_)
theorem laws_szAsm.calls (k : Nat) (a0_0 : Int) (A0_1 : Option Addr) (c0_1 : Nat) (l0_1 : List (S100)) (A0_2 : Option Addr) (c0_2 : Nat) (l0_2 : List (List (S113))) (a1 : Int) (r : Int) (w : World) (hr0_1 : Kd.C k100 w A0_1 l0_1.length l0_1) (hc0_1 : l0_1.length ≤ c0_1) (hr0_2 : Kd.C (Kd.slice 113 k113) w A0_2 l0_2.length l0_2) (hc0_2 : l0_2.length ≤ c0_2) (h : laws_szAsm.f k a0_0 l0_1 l0_2 a1 = some r) :
  Calls Try.prog 36 #[.agg #[.int .i64 a0_0, .slice A0_1 l0_1.length c0_1, .slice A0_2 l0_2.length c0_2], .int .i64 a1] w fun e w' => e = .returned (.int .i64 r) ∧ Below w.heap.size w w' := by
 have hu66 := Try.underlying66
 have HR0_1 := am hr0_1
 have HC0_1 := am hc0_1
 clear hr0_1 hc0_1
 have HR0_2 := am hr0_2
 have HC0_2 := am hc0_2
 clear hr0_2 hc0_2
 have HB := am (Below.refl w.heap.size w)
 have H : ((laws_szAsmInsS.f k l0_1 a1).bind fun t109 => (if t109 < 0 then (some (-1)) else ((laws_szValSS.f k l0_2 t109).bind fun t110 => (if t110 < 0 then (some (-1)) else (some t110))))) = some r := h
 clear h
 refine be H ?_; clear H; intro t109 A3 H
 have HC4 := am H
 clear H
 go_enter Try.func36, Try.ntmps36
 go_upto_if 10 with (first | ((with_reducible refine gd 2 rfl ?_); refine bX 2 #[.int .i64 a0_0, .slice A0_1 l0_1.length c0_1, .slice A0_2 l0_2.length c0_2] 66 HB ?_; clear HB; intro gb108 w5 hg hb BK108 GW108 HB; clear hb hg; have hcz6 := bK w5 BK108; have hfz6 := bF BK108) | ((with_reducible refine gk 47 rfl ?_); refine gB 47 (some 8) Try.func47 #[.slice A0_1 l0_1.length c0_1, .int .i64 a1] (laws_szAsmInsS.calls k _ _ l0_1 a1 t109 _ (cc (Kd.C_below HR0_1.out HB.out)) HC0_1.out A3.out) ?_; intro w7 hb; replace BK108 := bb BK108 hb; replace HB := bs HB hb; clear hb))
 (try simp only [Act.put, sa, sz, ss])
 have H := HC4.out
 clear HC4
 refine qI H ?_ ?_ <;> clear H <;> intro c8b0 H
 ·(first | rw [c8b0] | (simp only [i64_w, i32_w]; rw [c8b0]) | skip)
  obtain rfl := Option.some.inj H
  go_wp2
  go_ret
  exact ⟨er, bw HB⟩
 (first | rw [c8b0] | (simp only [i64_w, i32_w]; rw [c8b0]) | skip)
 refine be H ?_; clear H; intro t110 A9 H
 have HC10 := am H
 clear H
 have hcz11 := bK w7 BK108
 have hfz11 := bF BK108
 go_upto_if 16 with (first | ((with_reducible refine gk 48 rfl ?_); refine gD 48 (some 14) Try.func48 #[.slice A0_2 l0_2.length c0_2, .int .i64 t109] (laws_szValSS.calls k _ _ l0_2 t109 t110 _ (cc (Kd.C_below HR0_2.out HB.out)) HC0_2.out A9.out) ?_; intro nd))
 (try simp only [Act.put, sa, sz, ss])
 (try simp only [World.drewN_drewN])
 generalize hq_ : World.drewN w7 _ = w12
 replace BK108 : Aside0 (w12.heap[gb108]? = some (.cells #[.int .i64 a0_0, .slice A0_1 l0_1.length c0_1, .slice A0_2 l0_2.length c0_2] 66 (0, 0))) := ⟨by rw [← hq_]; exact (bp BK108)⟩
 replace HB : Aside0 (Below w.heap.size w w12) := ⟨by rw [← hq_]; exact (bw HB)⟩
 clear hq_
 have H := HC10.out
 clear HC10
 refine qI H ?_ ?_ <;> clear H <;> intro c13b0 H
 ·(first | rw [c13b0] | (simp only [i64_w, i32_w]; rw [c13b0]) | skip)
  obtain rfl := Option.some.inj H
  go_wp2
  go_ret
  exact ⟨er, bw HB⟩
 (first | rw [c13b0] | (simp only [i64_w, i32_w]; rw [c13b0]) | skip)
 obtain rfl := Option.some.inj H
 go_wp2
 go_ret
 exact ⟨er, bw HB⟩

def laws_szAsmS.l0 : Nat → List (S66) → Int → Int → Option (Int)
 | 0, _, _, _ => none
 | k + 1, x0, x1, x5 => if x5 < (x0.length : Int) then (if 0 ≤ x5 then ((laws_szAsm.f k ((rd_T66 x0 x5).f0) ((rd_T66 x0 x5).f1) ((rd_T66 x0 x5).f2) x1).bind fun t112 => (if t112 < 0 then (some (-1)) else (laws_szAsmS.l0 k x0 t112 (wrap64 (x5 + 1))))) else (none)) else (some x1)
def laws_szAsmS.f (k : Nat) (l0 : List (S66)) (a1 : Int) : Option (Int) := if (wrap64 (a1 - (l0.length : Int))) < 0 then (some (-1)) else (laws_szAsmS.l0 k l0 (wrap64 (a1 - (l0.length : Int))) 0)
theorem laws_szAsmS.mono_l : ∀ k, (∀ y0 y1 y2, LeO (laws_szAsmS.l0 k y0 y1 y2) (laws_szAsmS.l0 (k + 1) y0 y1 y2))
 | 0 => fun _ _ _ r h => by simp [laws_szAsmS.l0] at h
 | k + 1 => by
  have ih0 := laws_szAsmS.mono_l k
  ·intro y0 y1 y2
   unfold laws_szAsmS.l0
   with_reducible repeat' first | exact ih0 .. | exact laws_szAsm.mono .. | exact LeO.refl _ | exact LeO.none _ | refine LeO.ite ?_ ?_ | refine LeO.bind ?_ (fun _ => ?_)
theorem laws_szAsmS.mono : ∀ a0 a1 k, LeO (laws_szAsmS.f k a0 a1) (laws_szAsmS.f (k + 1) a0 a1) := by
 intro a0 a1 k
 have ih0 := laws_szAsmS.mono_l k
 unfold laws_szAsmS.f
 with_reducible repeat' first | exact ih0 .. | exact laws_szAsm.mono .. | exact LeO.refl _ | exact LeO.none _ | refine LeO.ite ?_ ?_ | refine LeO.bind ?_ (fun _ => ?_)
theorem laws_szAsmS.calls (k : Nat) (A0 : Option Addr) (c0 : Nat) (l0 : List (S66)) (a1 : Int) (r : Int) (w : World) (hr0 : Kd.C k66 w A0 l0.length l0) (hc0 : l0.length ≤ c0) (h : laws_szAsmS.f k l0 a1 = some r) :
  Calls Try.prog 13 #[.slice A0 l0.length c0, .int .i64 a1] w fun e w' => e = .returned (.int .i64 r) ∧ Below w.heap.size w w' := by
 have hu66 := Try.underlying66
 have HR0 := am hr0
 have HC0 := am hc0
 clear hr0 hc0
 have HB := am (Below.refl w.heap.size w)
 have H : (if (wrap64 (a1 - (l0.length : Int))) < 0 then (some (-1)) else (laws_szAsmS.l0 k l0 (wrap64 (a1 - (l0.length : Int))) 0)) = some r := h
 clear h
 by_cases c3 : (wrap64 (a1 - (l0.length : Int))) < 0
 ·rw [if_pos c3] at H
  have c3b0 := decide_eq_true c3
  clear c3
  obtain rfl := Option.some.inj H
  go_enter Try.func13, Try.ntmps13
  go_wp2
  go_ret
  exact ⟨er, bw HB⟩
 rw [if_neg c3] at H
 have c3b0 := decide_eq_false c3
 clear c3
 have H' := am H
 clear H
 go_enter Try.func13, Try.ntmps13
 go_wp2
 go_loopg [1, 5] k (fun kq v1 v5 w' => ∃ (x1_1 : Int) (x5_1 : Int), v1 = .int .i64 x1_1 ∧ v5 = .int .i64 x5_1 ∧ Aside0 (laws_szAsmS.l0 kq l0 x1_1 x5_1 = some r) ∧ Aside0 (kq ≤ k) ∧ Aside0 (Below w.heap.size w w'))
 case atStart => exact ⟨(wrap64 (a1 - (l0.length : Int))), (0), dr, dr, H', ⟨Nat.le_refl _⟩, ⟨bw HB⟩⟩
 clear H'
 (try clear c1); (try clear p2); (try clear c3); (try clear c3b0)
 obtain ⟨x1_1, x5_1, rfl, rfl, HA, HK1, HB⟩ := hrel
 rcases gk with _ | k1
 ·exact absurd HA.out (by simp [laws_szAsmS.l0])
 have H := HA.out
 clear HA
 simp only [laws_szAsmS.l0] at H
 refine qI H ?_ ?_ <;> clear H <;> intro c4b0 H
 ·refine iM H ?_; clear H; intro c5b0 H
  refine be H ?_; clear H; intro t112 A6 H
  have HC7 := am H
  clear H
  have p111 : 0 ≤ (x5_1 : Int) := of_decide_eq_true as1
  have q111 : x5_1 < (l0.length : Int) := of_decide_eq_true as1
  obtain ⟨ad111, A111_1, c111_1, A111_2, c111_2, e111, hx111_0, hx111_1, hx111_2, hl111_1, hi111_1, hl111_2, hi111_2⟩ := at_T66 HR0.out x5_1 p111 q111
  cases e111
  replace hx111_0 := cl HB hx111_0
  replace hx111_1 := cl HB hx111_1
  replace hx111_2 := cl HB hx111_2
  have HR111_1 := am hi111_1
  have HC111_1 := am hl111_1
  clear hi111_1 hl111_1
  have HR111_2 := am hi111_2
  have HC111_2 := am hl111_2
  clear hi111_2 hl111_2
  replace p111 := eq_true p111
  replace q111 := eq_true q111
  go_upto_if 25 with (first | ((with_reducible refine gk 36 rfl ?_); refine gB 36 (some 23) Try.func36 #[.agg #[.int .i64 ((rd_T66 l0 x5_1).f0), .slice A111_1 ((rd_T66 l0 x5_1).f1).length c111_1, .slice A111_2 ((rd_T66 l0 x5_1).f2).length c111_2], .int .i64 x1_1] (laws_szAsm.calls k1 ((rd_T66 l0 x5_1).f0) _ _ ((rd_T66 l0 x5_1).f1) _ _ ((rd_T66 l0 x5_1).f2) x1_1 t112 _ (cc (Kd.C_below HR111_1.out HB.out)) HC111_1.out (cc (Kd.C_below HR111_2.out HB.out)) HC111_2.out A6.out) ?_; intro w8 hb; replace HB := bs HB hb; clear hb))
  (try simp only [Act.put, sa, sz, ss])
  have H := HC7.out
  clear HC7
  refine qI H ?_ ?_ <;> clear H <;> intro c9b0 H
  ·(first | rw [c9b0] | (simp only [i64_w, i32_w]; rw [c9b0]) | skip)
   obtain rfl := Option.some.inj H
   go_wp2
   go_ret
   exact ⟨er, bw HB⟩
  (first | rw [c9b0] | (simp only [i64_w, i32_w]; rw [c9b0]) | skip)
  have H' := am H
  clear H
  go_wp2
  go_roundg k1
  case measure => have := HK1.out; omega
  case rel => exact ⟨(t112), (wrap64 (x5_1 + 1)), dr, dr, H', ⟨by have := HK1.out; omega⟩, ⟨bw HB⟩⟩
 obtain rfl := Option.some.inj H
 go_wp2
 go_ret
 exact ⟨er, bw HB⟩

def laws_szInt64S.f (l0 : List Int) (a1 : Int) : Option (Int) := if (wrap64 (a1 - (l0.length : Int))) < 0 then (some (-1)) else (some (wrap64 (a1 - (l0.length : Int))))
theorem laws_szInt64S.calls (A0 : Option Addr) (c0 : Nat) (l0 : List Int) (a1 : Int) (r : Int) (w : World) (hr0 : Kd.C (Kd.int .i64) w A0 l0.length l0) (hc0 : l0.length ≤ c0) (h : laws_szInt64S.f l0 a1 = some r) :
  Calls Try.prog 16 #[.slice A0 l0.length c0, .int .i64 a1] w fun e w' => e = .returned (.int .i64 r) ∧ Drawn0 w w' := by
 have HR0 := am hr0
 have HC0 := am hc0
 clear hr0 hc0
 have H : (if (wrap64 (a1 - (l0.length : Int))) < 0 then (some (-1)) else (some (wrap64 (a1 - (l0.length : Int))))) = some r := h
 clear h
 refine qI H ?_ ?_ <;> clear H <;> intro c3b0 H
 ·obtain rfl := Option.some.inj H
  go_enter Try.func16, Try.ntmps16
  go_wp2
  go_ret
  exact ⟨by first | rfl | (simp; done) | (simp [*]; done), by repeat (first | exact Drawn0.refl _ | apply Drawn0.step)⟩
 obtain rfl := Option.some.inj H
 go_enter Try.func16, Try.ntmps16
 go_wp2
 go_ret
 exact ⟨by first | rfl | (simp; done) | (simp [*]; done), by repeat (first | exact Drawn0.refl _ | apply Drawn0.step)⟩

def laws_szMixFrame.f (a0_0 : Bool) (a0_1 : Int) (a0_2 : Int) (l0_3 : List Int) (l0_4 : List Int) (l0_5 : List Int) (a1 : Int) : Option (Int) := (laws_szInt64S.f l0_3 a1).bind fun t114 => (if t114 < 0 then (some (-1)) else ((laws_szInt64S.f l0_4 t114).bind fun t115 => (if t115 < 0 then (some (-1)) else ((laws_szInt64S.f l0_5 t115).bind fun t116 => (if t116 < 0 then (some (-1)) else (some t116))))))
theorem laws_szMixFrame.calls (a0_0 : Bool) (a0_1 : Int) (a0_2 : Int) (A0_3 : Option Addr) (c0_3 : Nat) (l0_3 : List Int) (A0_4 : Option Addr) (c0_4 : Nat) (l0_4 : List Int) (A0_5 : Option Addr) (c0_5 : Nat) (l0_5 : List Int) (a1 : Int) (r : Int) (w : World) (hr0_3 : Kd.C (Kd.int .i64) w A0_3 l0_3.length l0_3) (hc0_3 : l0_3.length ≤ c0_3) (hr0_4 : Kd.C (Kd.int .i64) w A0_4 l0_4.length l0_4) (hc0_4 : l0_4.length ≤ c0_4) (hr0_5 : Kd.C (Kd.int .i64) w A0_5 l0_5.length l0_5) (hc0_5 : l0_5.length ≤ c0_5) (h : laws_szMixFrame.f a0_0 a0_1 a0_2 l0_3 l0_4 l0_5 a1 = some r) :
  Calls Try.prog 37 #[.agg #[.bool a0_0, .int .i64 a0_1, .int .i64 a0_2, .slice A0_3 l0_3.length c0_3, .slice A0_4 l0_4.length c0_4, .slice A0_5 l0_5.length c0_5], .int .i64 a1] w fun e w' => e = .returned (.int .i64 r) ∧ Below w.heap.size w w' := by
 have hu69 := Try.underlying69
 have HR0_3 := am hr0_3
 have HC0_3 := am hc0_3
 clear hr0_3 hc0_3
 have HR0_4 := am hr0_4
 have HC0_4 := am hc0_4
 clear hr0_4 hc0_4
 have HR0_5 := am hr0_5
 have HC0_5 := am hc0_5
 clear hr0_5 hc0_5
 have HB := am (Below.refl w.heap.size w)
 have H : ((laws_szInt64S.f l0_3 a1).bind fun t114 => (if t114 < 0 then (some (-1)) else ((laws_szInt64S.f l0_4 t114).bind fun t115 => (if t115 < 0 then (some (-1)) else ((laws_szInt64S.f l0_5 t115).bind fun t116 => (if t116 < 0 then (some (-1)) else (some t116))))))) = some r := h
 clear h
 refine be H ?_; clear H; intro t114 A3 H
 have HC4 := am H
 clear H
 go_enter Try.func37, Try.ntmps37
 go_upto_if 10 with (first | ((with_reducible refine gd 2 rfl ?_); refine bX 2 #[.bool a0_0, .int .i64 a0_1, .int .i64 a0_2, .slice A0_3 l0_3.length c0_3, .slice A0_4 l0_4.length c0_4, .slice A0_5 l0_5.length c0_5] 69 HB ?_; clear HB; intro gb113 w5 hg hb BK113 GW113 HB; clear hb hg; have hcz6_0 := bk w5 BK113 0; have hcz6_1 := bk w5 BK113 1; have hcz6_2 := bk w5 BK113 2; have hcz6_3 := bk w5 BK113 3; have hcz6_4 := bk w5 BK113 4; have hcz6_5 := bk w5 BK113 5; have hfz6_0 := bf BK113 0; have hfz6_1 := bf BK113 1; have hfz6_2 := bf BK113 2; have hfz6_3 := bf BK113 3; have hfz6_4 := bf BK113 4; have hfz6_5 := bf BK113 5) | ((with_reducible refine gk 16 rfl ?_); refine gD 16 (some 8) Try.func16 #[.slice A0_3 l0_3.length c0_3, .int .i64 a1] (laws_szInt64S.calls _ _ l0_3 a1 t114 _ (cc (Kd.C_below HR0_3.out HB.out)) HC0_3.out A3.out) ?_; intro nd))
 (try simp only [Act.put, sa, sz, ss])
 (try simp only [World.drewN_drewN])
 generalize hq_ : World.drewN w5 _ = w7
 replace BK113 : Aside0 (w7.heap[gb113]? = some (.cells #[.bool a0_0, .int .i64 a0_1, .int .i64 a0_2, .slice A0_3 l0_3.length c0_3, .slice A0_4 l0_4.length c0_4, .slice A0_5 l0_5.length c0_5] 69 (0, 0))) := ⟨by rw [← hq_]; exact (bp BK113)⟩
 replace HB : Aside0 (Below w.heap.size w w7) := ⟨by rw [← hq_]; exact (bw HB)⟩
 clear hq_
 have H := HC4.out
 clear HC4
 refine qI H ?_ ?_ <;> clear H <;> intro c8b0 H
 ·(first | rw [c8b0] | (simp only [i64_w, i32_w]; rw [c8b0]) | skip)
  obtain rfl := Option.some.inj H
  go_wp2
  go_ret
  exact ⟨er, bw HB⟩
 (first | rw [c8b0] | (simp only [i64_w, i32_w]; rw [c8b0]) | skip)
 refine be H ?_; clear H; intro t115 A9 H
 have HC10 := am H
 clear H
 have hcz11_0 := bk w7 BK113 0
 have hcz11_1 := bk w7 BK113 1
 have hcz11_2 := bk w7 BK113 2
 have hcz11_3 := bk w7 BK113 3
 have hcz11_4 := bk w7 BK113 4
 have hcz11_5 := bk w7 BK113 5
 have hfz11_0 := bf BK113 0
 have hfz11_1 := bf BK113 1
 have hfz11_2 := bf BK113 2
 have hfz11_3 := bf BK113 3
 have hfz11_4 := bf BK113 4
 have hfz11_5 := bf BK113 5
 go_upto_if 16 with (first | ((with_reducible refine gk 16 rfl ?_); refine gD 16 (some 14) Try.func16 #[.slice A0_4 l0_4.length c0_4, .int .i64 t114] (laws_szInt64S.calls _ _ l0_4 t114 t115 _ (cc (Kd.C_below HR0_4.out HB.out)) HC0_4.out A9.out) ?_; intro nd))
 (try simp only [Act.put, sa, sz, ss])
 (try simp only [World.drewN_drewN])
 generalize hq_ : World.drewN w7 _ = w12
 replace BK113 : Aside0 (w12.heap[gb113]? = some (.cells #[.bool a0_0, .int .i64 a0_1, .int .i64 a0_2, .slice A0_3 l0_3.length c0_3, .slice A0_4 l0_4.length c0_4, .slice A0_5 l0_5.length c0_5] 69 (0, 0))) := ⟨by rw [← hq_]; exact (bp BK113)⟩
 replace HB : Aside0 (Below w.heap.size w w12) := ⟨by rw [← hq_]; exact (bw HB)⟩
 clear hq_
 have H := HC10.out
 clear HC10
 refine qI H ?_ ?_ <;> clear H <;> intro c13b0 H
 ·(first | rw [c13b0] | (simp only [i64_w, i32_w]; rw [c13b0]) | skip)
  obtain rfl := Option.some.inj H
  go_wp2
  go_ret
  exact ⟨er, bw HB⟩
 (first | rw [c13b0] | (simp only [i64_w, i32_w]; rw [c13b0]) | skip)
 refine be H ?_; clear H; intro t116 A14 H
 have HC15 := am H
 clear H
 have hcz16_0 := bk w12 BK113 0
 have hcz16_1 := bk w12 BK113 1
 have hcz16_2 := bk w12 BK113 2
 have hcz16_3 := bk w12 BK113 3
 have hcz16_4 := bk w12 BK113 4
 have hcz16_5 := bk w12 BK113 5
 have hfz16_0 := bf BK113 0
 have hfz16_1 := bf BK113 1
 have hfz16_2 := bf BK113 2
 have hfz16_3 := bf BK113 3
 have hfz16_4 := bf BK113 4
 have hfz16_5 := bf BK113 5
 go_upto_if 22 with (first | ((with_reducible refine gk 16 rfl ?_); refine gD 16 (some 20) Try.func16 #[.slice A0_5 l0_5.length c0_5, .int .i64 t115] (laws_szInt64S.calls _ _ l0_5 t115 t116 _ (cc (Kd.C_below HR0_5.out HB.out)) HC0_5.out A14.out) ?_; intro nd))
 (try simp only [Act.put, sa, sz, ss])
 (try simp only [World.drewN_drewN])
 generalize hq_ : World.drewN w12 _ = w17
 replace BK113 : Aside0 (w17.heap[gb113]? = some (.cells #[.bool a0_0, .int .i64 a0_1, .int .i64 a0_2, .slice A0_3 l0_3.length c0_3, .slice A0_4 l0_4.length c0_4, .slice A0_5 l0_5.length c0_5] 69 (0, 0))) := ⟨by rw [← hq_]; exact (bp BK113)⟩
 replace HB : Aside0 (Below w.heap.size w w17) := ⟨by rw [← hq_]; exact (bw HB)⟩
 clear hq_
 have H := HC15.out
 clear HC15
 refine qI H ?_ ?_ <;> clear H <;> intro c18b0 H
 ·(first | rw [c18b0] | (simp only [i64_w, i32_w]; rw [c18b0]) | skip)
  obtain rfl := Option.some.inj H
  go_wp2
  go_ret
  exact ⟨er, bw HB⟩
 (first | rw [c18b0] | (simp only [i64_w, i32_w]; rw [c18b0]) | skip)
 obtain rfl := Option.some.inj H
 go_wp2
 go_ret
 exact ⟨er, bw HB⟩

end Go.Proofs.Yticdldoijkdffaa.QFnExactMixTold
