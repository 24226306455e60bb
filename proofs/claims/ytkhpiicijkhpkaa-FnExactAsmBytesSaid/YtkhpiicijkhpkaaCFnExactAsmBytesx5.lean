import Derived.Test.YtkhpiicijkhpkaaCFnExactAsmBytesx0
import Derived.Test.YtkhpiicijkhpkaaCFnExactAsmBytesx4
namespace Go.Proofs.Ytkhpiicijkhpkaa.QFnExactAsmBytes
open Go.RowKit Go.Proofs.YtkhpiicijkhpkaaW
open PrintWords PrintLast PrintMore PrintShort PrintIsh
attribute [local go_sem] max2_int min2_int max_two min_two max_three min_three max_four min_four
set_option linter.unusedVariables false
set_option maxHeartbeats 8000000
set_option maxRecDepth 100000
set_option linter.unusedSimpArgs false

def laws_szAsmInsS.l0 : Nat → List (S134) → Int → Int → Option (Int)
 | 0, _, _, _ => none
 | k + 1, x0, x1, x5 => if x5 < (x0.length : Int) then (if 0 ≤ x5 then ((laws_szAsmIns.f ((rd_T134 x0 x5).f0) ((rd_T134 x0 x5).f1) ((rd_T134 x0 x5).f2) ((rd_T134 x0 x5).f3) ((rd_T134 x0 x5).f4) x1).bind fun t157 => (if t157 < 0 then (some (-1)) else (laws_szAsmInsS.l0 k x0 t157 (wrap64 (x5 + 1))))) else (none)) else (some x1)
def laws_szAsmInsS.f (k : Nat) (l0 : List (S134)) (a1 : Int) : Option (Int) := if (wrap64 (a1 - (l0.length : Int))) < 0 then (some (-1)) else (laws_szAsmInsS.l0 k l0 (wrap64 (a1 - (l0.length : Int))) 0)
theorem laws_szAsmInsS.calls (k : Nat) (A0 : Option Addr) (c0 : Nat) (l0 : List (S134)) (a1 : Int) (r : Int) (w : World) (hr0 : Kd.C k134 w A0 l0.length l0) (hc0 : l0.length ≤ c0) (h : laws_szAsmInsS.f k l0 a1 = some r) :
  Calls Try.prog 41 #[.slice A0 l0.length c0, .int .i64 a1] w fun e w' => e = .returned (.int .i64 r) ∧ Below w.heap.size w w' := by
 have hu134 := Try.underlying134
 have HR0 := am hr0
 have HC0 := am hc0
 clear hr0 hc0
 have HB := am (Below.refl w.heap.size w)
 have H : (if (wrap64 (a1 - (l0.length : Int))) < 0 then (some (-1)) else (laws_szAsmInsS.l0 k l0 (wrap64 (a1 - (l0.length : Int))) 0)) = some r := h
 clear h
 by_cases c3 : (wrap64 (a1 - (l0.length : Int))) < 0
 ·rw [if_pos c3] at H
  have c3b0 := decide_eq_true c3
  clear c3
  obtain rfl := oi H
  go_enter Try.func41, Try.ntmps41
  go_wp2
  go_ret
  exact ⟨er, bw HB⟩
 rw [if_neg c3] at H
 have c3b0 := decide_eq_false c3
 clear c3
 have H' := am H
 clear H
 go_enter Try.func41, Try.ntmps41
 go_wp2
 go_loopg [1, 5] k (fun kq v1 v5 w' => ∃ (x1_1 : Int) (x5_1 : Int), v1 = .int .i64 x1_1 ∧ v5 = .int .i64 x5_1 ∧ Aside0 (laws_szAsmInsS.l0 kq l0 x1_1 x5_1 = some r) ∧ Aside0 (kq ≤ k) ∧ Aside0 (Below w.heap.size w w'))
 case atStart => exact ⟨(wrap64 (a1 - (l0.length : Int))), (0), dr, dr, H', ⟨Nat.le_refl _⟩, ⟨bw HB⟩⟩
 clear H'
 obtain ⟨x1_1, x5_1, rfl, rfl, HA, HK1, HB⟩ := hrel
 rcases gk with _ | k1
 ·exact absurd HA.out (by simp [laws_szAsmInsS.l0])
 have H := HA.out
 clear HA
 simp only [laws_szAsmInsS.l0] at H
 refine qI H ?_ ?_ <;> clear H <;> intro c4b0 H
 ·refine iM H ?_; clear H; intro c5b0 H
  refine be H ?_; clear H; intro t157 A6 H
  have HC7 := am H
  clear H
  have p156 : 0 ≤ (x5_1 : Int) := dt
  have q156 : x5_1 < (l0.length : Int) := dt
  obtain ⟨ad156, A156_0, c156_0, A156_3, c156_3, e156, hx156_0, hx156_1, hx156_2, hx156_3, hx156_4, hl156_0, hi156_0, hl156_3, hi156_3⟩ := at_T134 HR0.out x5_1 p156 q156
  cases e156
  replace hx156_0 := cl HB hx156_0
  replace hx156_1 := cl HB hx156_1
  replace hx156_2 := cl HB hx156_2
  replace hx156_3 := cl HB hx156_3
  replace hx156_4 := cl HB hx156_4
  have HR156_0 := am hi156_0
  have HC156_0 := am hl156_0
  clear hi156_0 hl156_0
  have HR156_3 := am hi156_3
  have HC156_3 := am hl156_3
  clear hi156_3 hl156_3
  replace p156 := eq_true p156
  replace q156 := eq_true q156
  go_upto_if 25 with (first | ((with_reducible refine gk 81 rfl ?_); refine gB 81 (some 23) Try.func81 #[.agg #[.slice A156_0 ((rd_T134 l0 x5_1).f0).length c156_0, .int .i64 ((rd_T134 l0 x5_1).f1), .int .i64 ((rd_T134 l0 x5_1).f2), .slice A156_3 ((rd_T134 l0 x5_1).f3).length c156_3, .int .i64 ((rd_T134 l0 x5_1).f4)], .int .i64 x1_1] (laws_szAsmIns.calls _ _ ((rd_T134 l0 x5_1).f0) ((rd_T134 l0 x5_1).f1) ((rd_T134 l0 x5_1).f2) _ _ ((rd_T134 l0 x5_1).f3) ((rd_T134 l0 x5_1).f4) x1_1 t157 _ (cc (Kd.C_below HR156_0.out HB.out)) HC156_0.out (cc (Kd.C_below HR156_3.out HB.out)) HC156_3.out A6.out) ?_; intro w8 hb; replace HB := bs HB hb; clear hb))
  (try simp only [Act.put, sa, sz, ss])
  have H := HC7.out
  clear HC7
  refine qI H ?_ ?_ <;> clear H <;> intro c9b0 H
  ·(first | rw [c9b0] | (simp only [i64_w, i32_w]; rw [c9b0]) | skip)
   obtain rfl := oi H
   go_wp2
   go_ret
   exact ⟨er, bw HB⟩
  (first | rw [c9b0] | (simp only [i64_w, i32_w]; rw [c9b0]) | skip)
  have H' := am H
  clear H
  go_wp2
  go_roundg k1
  case measure => have := HK1.out; omega
  case rel => exact ⟨(t157), (wrap64 (x5_1 + 1)), dr, dr, H', ⟨by have := HK1.out; omega⟩, ⟨bw HB⟩⟩
 obtain rfl := oi H
 go_wp2
 go_ret
 exact ⟨er, bw HB⟩

def laws_szValSS.l0 : Nat → List (List (S185)) → Int → Int → Option (Int)
 | 0, _, _, _ => none
 | k + 1, x0, x1, x5 => if x5 < (x0.length : Int) then (if 0 ≤ x5 then ((laws_szValS.f (rd_L10 x0 x5) x1).bind fun t159 => (if t159 < 0 then (some (-1)) else (laws_szValSS.l0 k x0 t159 (wrap64 (x5 + 1))))) else (none)) else (some x1)
def laws_szValSS.f (k : Nat) (l0 : List (List (S185))) (a1 : Int) : Option (Int) := if (wrap64 (a1 - (l0.length : Int))) < 0 then (some (-1)) else (laws_szValSS.l0 k l0 (wrap64 (a1 - (l0.length : Int))) 0)
theorem laws_szValSS.calls (k : Nat) (A0 : Option Addr) (c0 : Nat) (l0 : List (List (S185))) (a1 : Int) (r : Int) (w : World) (hr0 : Kd.C (Kd.slice 185 k185) w A0 l0.length l0) (hc0 : l0.length ≤ c0) (h : laws_szValSS.f k l0 a1 = some r) :
  Calls Try.prog 42 #[.slice A0 l0.length c0, .int .i64 a1] w fun e w' => e = .returned (.int .i64 r) ∧ Drawn0 w w' := by
 have HR0 := am hr0
 have HC0 := am hc0
 clear hr0 hc0
 have H : (if (wrap64 (a1 - (l0.length : Int))) < 0 then (some (-1)) else (laws_szValSS.l0 k l0 (wrap64 (a1 - (l0.length : Int))) 0)) = some r := h
 clear h
 by_cases c3 : (wrap64 (a1 - (l0.length : Int))) < 0
 ·rw [if_pos c3] at H
  have c3b0 := decide_eq_true c3
  clear c3
  obtain rfl := oi H
  go_enter Try.func42, Try.ntmps42
  go_wp2
  go_ret
  exact ⟨by first | rfl | (simp; done) | (simp [*]; done), by repeat (first | exact Drawn0.refl _ | apply Drawn0.step)⟩
 rw [if_neg c3] at H
 have c3b0 := decide_eq_false c3
 clear c3
 have H' := am H
 clear H
 go_enter Try.func42, Try.ntmps42
 go_wp2
 go_loopg [1, 5] k (fun kq v1 v5 w' => ∃ (x1_1 : Int) (x5_1 : Int), v1 = .int .i64 x1_1 ∧ v5 = .int .i64 x5_1 ∧ Aside0 (laws_szValSS.l0 kq l0 x1_1 x5_1 = some r) ∧ Aside0 (kq ≤ k) ∧ Drawn0 w w')
 case atStart => exact ⟨(wrap64 (a1 - (l0.length : Int))), (0), dr, dr, H', ⟨Nat.le_refl _⟩, by repeat (first | exact Drawn0.refl _ | apply Drawn0.step)⟩
 clear H'
 obtain ⟨x1_1, x5_1, rfl, rfl, HA, HK1, ⟨m1, rfl⟩⟩ := hrel
 rcases gk with _ | k1
 ·exact absurd HA.out (by simp [laws_szValSS.l0])
 have H := HA.out
 clear HA
 simp only [laws_szValSS.l0] at H
 refine qI H ?_ ?_ <;> clear H <;> intro c4b0 H
 ·refine iM H ?_; clear H; intro c5b0 H
  refine be H ?_; clear H; intro t159 A6 H
  have HC7 := am H
  clear H
  have p158 : 0 ≤ (x5_1 : Int) := dt
  have q158 : x5_1 < (l0.length : Int) := dt
  obtain ⟨ad158, A158_0, c158_0, e158, hx158_0, hl158_0, hi158_0⟩ := at_L10 HR0.out x5_1 p158 q158
  cases e158
  have HR158_0 := am hi158_0
  have HC158_0 := am hl158_0
  clear hi158_0 hl158_0
  replace p158 := eq_true p158
  replace q158 := eq_true q158
  go_upto_if 25 with (first | ((with_reducible refine gk 82 rfl ?_); refine gD 82 (some 23) Try.func82 #[.slice A158_0 (rd_L10 l0 x5_1).length c158_0, .int .i64 x1_1] (laws_szValS.calls _ _ (rd_L10 l0 x5_1) x1_1 t159 _ (by repeat (first | exact HR158_0.out | (with_reducible refine Kd.C_alloc ?_ _) | (with_reducible refine Kd.C_drewN ?_ _) | (with_reducible refine Kd.C_drew ?_))) HC158_0.out A6.out) ?_; intro nd))
  (try simp only [Act.put, sa, sz, ss])
  have H := HC7.out
  clear HC7
  refine qI H ?_ ?_ <;> clear H <;> intro c8b0 H
  ·(first | rw [c8b0] | (simp only [i64_w, i32_w]; rw [c8b0]) | skip)
   obtain rfl := oi H
   go_wp2
   go_ret
   exact ⟨by first | rfl | (simp; done) | (simp [*]; done), by repeat (first | exact Drawn0.refl _ | apply Drawn0.step)⟩
  (first | rw [c8b0] | (simp only [i64_w, i32_w]; rw [c8b0]) | skip)
  have H' := am H
  clear H
  go_wp2
  go_roundg k1
  case measure => have := HK1.out; omega
  case rel => exact ⟨(t159), (wrap64 (x5_1 + 1)), dr, dr, H', ⟨by have := HK1.out; omega⟩, by repeat (first | exact Drawn0.refl _ | apply Drawn0.step)⟩
 obtain rfl := oi H
 go_wp2
 go_ret
 exact ⟨by first | rfl | (simp; done) | (simp [*]; done), by repeat (first | exact Drawn0.refl _ | apply Drawn0.step)⟩

def laws_szAsm.f (k : Nat) (a0_0 : Int) (l0_1 : List (S134)) (l0_2 : List (List (S185))) (a1 : Int) : Option (Int) := (laws_szAsmInsS.f k l0_1 a1).bind fun t161 => (if t161 < 0 then (some (-1)) else ((laws_szValSS.f k l0_2 t161).bind fun t162 => (if t162 < 0 then (some (-1)) else (some t162))))
theorem laws_szAsm.calls (k : Nat) (a0_0 : Int) (A0_1 : Option Addr) (c0_1 : Nat) (l0_1 : List (S134)) (A0_2 : Option Addr) (c0_2 : Nat) (l0_2 : List (List (S185))) (a1 : Int) (r : Int) (w : World) (hr0_1 : Kd.C k134 w A0_1 l0_1.length l0_1) (hc0_1 : l0_1.length ≤ c0_1) (hr0_2 : Kd.C (Kd.slice 185 k185) w A0_2 l0_2.length l0_2) (hc0_2 : l0_2.length ≤ c0_2) (h : laws_szAsm.f k a0_0 l0_1 l0_2 a1 = some r) :
  Calls Try.prog 18 #[.agg #[.int .i64 a0_0, .slice A0_1 l0_1.length c0_1, .slice A0_2 l0_2.length c0_2], .int .i64 a1] w fun e w' => e = .returned (.int .i64 r) ∧ Below w.heap.size w w' := by
 have hu43 := Try.underlying43
 have HR0_1 := am hr0_1
 have HC0_1 := am hc0_1
 clear hr0_1 hc0_1
 have HR0_2 := am hr0_2
 have HC0_2 := am hc0_2
 clear hr0_2 hc0_2
 have HB := am (Below.refl w.heap.size w)
 have H : ((laws_szAsmInsS.f k l0_1 a1).bind fun t161 => (if t161 < 0 then (some (-1)) else ((laws_szValSS.f k l0_2 t161).bind fun t162 => (if t162 < 0 then (some (-1)) else (some t162))))) = some r := h
 clear h
 refine be H ?_; clear H; intro t161 A3 H
 have HC4 := am H
 clear H
 go_enter Try.func18, Try.ntmps18
 go_upto_if 10 with (first | ((with_reducible refine gd 2 rfl ?_); refine bX 2 #[.int .i64 a0_0, .slice A0_1 l0_1.length c0_1, .slice A0_2 l0_2.length c0_2] 43 HB ?_; clear HB; intro gb160 w5 hg hb BK160 GW160 HB; clear hb hg; have hcz6 := bK w5 BK160; have hfz6 := bF BK160) | ((with_reducible refine gk 41 rfl ?_); refine gB 41 (some 8) Try.func41 #[.slice A0_1 l0_1.length c0_1, .int .i64 a1] (laws_szAsmInsS.calls k _ _ l0_1 a1 t161 _ (cc (Kd.C_below HR0_1.out HB.out)) HC0_1.out A3.out) ?_; intro w7 hb; replace BK160 := bb BK160 hb; replace HB := bs HB hb; clear hb))
 (try simp only [Act.put, sa, sz, ss])
 have H := HC4.out
 clear HC4
 refine qI H ?_ ?_ <;> clear H <;> intro c8b0 H
 ·(first | rw [c8b0] | (simp only [i64_w, i32_w]; rw [c8b0]) | skip)
  obtain rfl := oi H
  go_wp2
  go_ret
  exact ⟨er, bw HB⟩
 (first | rw [c8b0] | (simp only [i64_w, i32_w]; rw [c8b0]) | skip)
 refine be H ?_; clear H; intro t162 A9 H
 have HC10 := am H
 clear H
 have hcz11 := bK w7 BK160
 have hfz11 := bF BK160
 go_upto_if 16 with (first | ((with_reducible refine gk 42 rfl ?_); refine gD 42 (some 14) Try.func42 #[.slice A0_2 l0_2.length c0_2, .int .i64 t161] (laws_szValSS.calls k _ _ l0_2 t161 t162 _ (cc (Kd.C_below HR0_2.out HB.out)) HC0_2.out A9.out) ?_; intro nd))
 (try simp only [Act.put, sa, sz, ss])
 (try simp only [World.drewN_drewN])
 generalize hq_ : World.drewN w7 _ = w12
 replace BK160 : Aside0 (w12.heap[gb160]? = some (.cells #[.int .i64 a0_0, .slice A0_1 l0_1.length c0_1, .slice A0_2 l0_2.length c0_2] 43 (0, 0))) := ⟨by rw [← hq_]; exact (bp BK160)⟩
 replace HB : Aside0 (Below w.heap.size w w12) := ⟨by rw [← hq_]; exact (bw HB)⟩
 clear hq_
 have H := HC10.out
 clear HC10
 refine qI H ?_ ?_ <;> clear H <;> intro c13b0 H
 ·(first | rw [c13b0] | (simp only [i64_w, i32_w]; rw [c13b0]) | skip)
  obtain rfl := oi H
  go_wp2
  go_ret
  exact ⟨er, bw HB⟩
 (first | rw [c13b0] | (simp only [i64_w, i32_w]; rw [c13b0]) | skip)
 obtain rfl := oi H
 go_wp2
 go_ret
 exact ⟨er, bw HB⟩

def spec_l04Least.l0 : Nat → List Bool → Int → Option (Int)
 | 0, _, _ => none
 | k + 1, x0, x3 => if x3 < (x0.length : Int) then (if 0 ≤ x3 then (if rdOf false x0 x3 = true then (some x3) else (spec_l04Least.l0 k x0 (wrap64 (x3 + 1)))) else (none)) else (some (-1))
def spec_l04Least.f (k : Nat) (l0 : List Bool) : Option (Int) := spec_l04Least.l0 k l0 0
theorem spec_l04Least.calls (k : Nat) (A0 : Option Addr) (c0 : Nat) (l0 : List Bool) (r : Int) (w : World) (hr0 : Kd.C Kd.bool w A0 l0.length l0) (hc0 : l0.length ≤ c0) (h : spec_l04Least.f k l0 = some r) :
  Calls Try.prog 126 #[.slice A0 l0.length c0] w fun e w' => e = .returned (.int .i64 r) ∧ Drawn0 w w' := by
 have HR0 := am hr0
 have HC0 := am hc0
 clear hr0 hc0
 have H : (spec_l04Least.l0 k l0 0) = some r := h
 clear h
 have H' := am H
 clear H
 go_enter Try.func126, Try.ntmps126
 go_wp2
 go_loopg [3] k (fun kq v3 w' => ∃ (x3_1 : Int), v3 = .int .i64 x3_1 ∧ Aside0 (spec_l04Least.l0 kq l0 x3_1 = some r) ∧ Aside0 (kq ≤ k) ∧ Drawn0 w w')
 case atStart => exact ⟨(0), dr, H', ⟨Nat.le_refl _⟩, by repeat (first | exact Drawn0.refl _ | apply Drawn0.step)⟩
 clear H'
 obtain ⟨x3_1, rfl, HA, HK1, ⟨m1, rfl⟩⟩ := hrel
 rcases gk with _ | k1
 ·exact absurd HA.out (by simp [spec_l04Least.l0])
 have H := HA.out
 clear HA
 simp only [spec_l04Least.l0] at H
 refine qI H ?_ ?_ <;> clear H <;> intro c2b0 H
 ·refine iM H ?_; clear H; intro c3b0 H
  obtain ⟨bq4, hbq4⟩ : ∃ b_ : Bool, b_ = (rdOf false l0 x3_1) := ⟨_, rfl⟩
  replace H : (if bq4 = true then (some x3_1) else (spec_l04Least.l0 k1 l0 (wrap64 (x3_1 + 1)))) = some r := by rw [← hbq4] at H; exact H
  have Nbq4 := am hbq4
  clear hbq4
  refine qT H ?_ ?_ <;> clear H <;> intro c5 H <;> subst c5
  ·obtain rfl := oi H
   have p163 : 0 ≤ (x3_1 : Int) := dt
   have q163 : x3_1 < (l0.length : Int) := dt
   obtain ⟨ad163, e163, hx163_0⟩ := Kd.at_bool HR0.out x3_1 p163 q163
   (try rw [← Nbq4.out] at hx163_0)
   cases e163
   replace p163 := eq_true p163
   replace q163 := eq_true q163
   go_wp2
   go_ret
   exact ⟨by first | rfl | (simp; done) | (simp [*]; done), by repeat (first | exact Drawn0.refl _ | apply Drawn0.step)⟩
  have H' := am H
  clear H
  have p163 : 0 ≤ (x3_1 : Int) := dt
  have q163 : x3_1 < (l0.length : Int) := dt
  obtain ⟨ad163, e163, hx163_0⟩ := Kd.at_bool HR0.out x3_1 p163 q163
  (try rw [← Nbq4.out] at hx163_0)
  cases e163
  replace p163 := eq_true p163
  replace q163 := eq_true q163
  go_wp2
  go_roundg k1
  case measure => have := HK1.out; omega
  case rel => exact ⟨(wrap64 (x3_1 + 1)), dr, H', ⟨by have := HK1.out; omega⟩, by repeat (first | exact Drawn0.refl _ | apply Drawn0.step)⟩
 obtain rfl := oi H
 go_wp2
 go_ret
 exact ⟨by first | rfl | (simp; done) | (simp [*]; done), by repeat (first | exact Drawn0.refl _ | apply Drawn0.step)⟩

def spec_l03Binary.f (a0 : Int) : Option (Bool) := if a0 ≥ 10 then (some (decide (a0 ≤ 23))) else (some false)
theorem spec_l03Binary.calls (a0 : Int) (r : Bool) (w : World) (h : spec_l03Binary.f a0 = some r) :
  Calls Try.prog 131 #[.int .i64 a0] w fun e w' => e = .returned (.bool r) ∧ Drawn0 w w' := by
 have H : (if a0 ≥ 10 then (some (decide (a0 ≤ 23))) else (some false)) = some r := h
 clear h
 refine qL H ?_ ?_ <;> clear H <;> intro c2b0 H
 ·obtain rfl := oi H
  go_enter Try.func131, Try.ntmps131
  go_wp2
  go_ret
  exact ⟨by first | rfl | (simp; done) | (simp [*]; done), by repeat (first | exact Drawn0.refl _ | apply Drawn0.step)⟩
 obtain rfl := oi H
 go_enter Try.func131, Try.ntmps131
 go_wp2
 go_ret
 exact ⟨by first | rfl | (simp; done) | (simp [*]; done), by repeat (first | exact Drawn0.refl _ | apply Drawn0.step)⟩

def spec_l03Unary.f (a0 : Int) : Option (Bool) := if a0 ≥ 24 then (some (decide (a0 ≤ 29))) else (some false)
theorem spec_l03Unary.calls (a0 : Int) (r : Bool) (w : World) (h : spec_l03Unary.f a0 = some r) :
  Calls Try.prog 132 #[.int .i64 a0] w fun e w' => e = .returned (.bool r) ∧ Drawn0 w w' := by
 have H : (if a0 ≥ 24 then (some (decide (a0 ≤ 29))) else (some false)) = some r := h
 clear h
 refine qL H ?_ ?_ <;> clear H <;> intro c2b0 H
 ·obtain rfl := oi H
  go_enter Try.func132, Try.ntmps132
  go_wp2
  go_ret
  exact ⟨by first | rfl | (simp; done) | (simp [*]; done), by repeat (first | exact Drawn0.refl _ | apply Drawn0.step)⟩
 obtain rfl := oi H
 go_enter Try.func132, Try.ntmps132
 go_wp2
 go_ret
 exact ⟨by first | rfl | (simp; done) | (simp [*]; done), by repeat (first | exact Drawn0.refl _ | apply Drawn0.step)⟩

end Go.Proofs.Ytkhpiicijkhpkaa.QFnExactAsmBytes
