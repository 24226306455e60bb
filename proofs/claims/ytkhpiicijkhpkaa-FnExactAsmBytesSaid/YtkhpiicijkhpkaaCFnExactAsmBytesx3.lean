import Derived.Test.YtkhpiicijkhpkaaCFnExactAsmBytesx0
namespace Go.Proofs.Ytkhpiicijkhpkaa.QFnExactAsmBytes
open Go.RowKit Go.Proofs.YtkhpiicijkhpkaaW
open PrintWords PrintLast PrintMore PrintShort PrintIsh
attribute [local go_sem] max2_int min2_int max_two min_two max_three min_three max_four min_four
set_option linter.unusedVariables false
set_option maxHeartbeats 8000000
set_option maxRecDepth 100000
set_option linter.unusedSimpArgs false

def laws_szInsS.f (l0 : List (S196)) (a1 : Int) : Option (Int) := if (wrap64 (a1 - (l0.length : Int))) < 0 then (some (-1)) else (some (wrap64 (a1 - (l0.length : Int))))
theorem laws_szInsS.calls (A0 : Option Addr) (c0 : Nat) (l0 : List (S196)) (a1 : Int) (r : Int) (w : World) (hr0 : Kd.C k196 w A0 l0.length l0) (hc0 : l0.length ≤ c0) (h : laws_szInsS.f l0 a1 = some r) :
  Calls Try.prog 118 #[.slice A0 l0.length c0, .int .i64 a1] w fun e w' => e = .returned (.int .i64 r) ∧ Drawn0 w w' := by
 have HR0 := am hr0
 have HC0 := am hc0
 clear hr0 hc0
 have H : (if (wrap64 (a1 - (l0.length : Int))) < 0 then (some (-1)) else (some (wrap64 (a1 - (l0.length : Int))))) = some r := h
 clear h
 refine qI H ?_ ?_ <;> clear H <;> intro c3b0 H
 ·obtain rfl := oi H
  go_enter Try.func118, Try.ntmps118
  go_wp2
  go_ret
  exact ⟨by first | rfl | (simp; done) | (simp [*]; done), by repeat (first | exact Drawn0.refl _ | apply Drawn0.step)⟩
 obtain rfl := oi H
 go_enter Try.func118, Try.ntmps118
 go_wp2
 go_ret
 exact ⟨by first | rfl | (simp; done) | (simp [*]; done), by repeat (first | exact Drawn0.refl _ | apply Drawn0.step)⟩

def laws_szFunc.f (a0_0 : Int) (a0_1 : Int) (l0_2 : List (S196)) (a1 : Int) : Option (Int) := (laws_szInsS.f l0_2 a1).bind fun t102 => (if t102 < 0 then (some (-1)) else (some t102))
theorem laws_szFunc.calls (a0_0 : Int) (a0_1 : Int) (A0_2 : Option Addr) (c0_2 : Nat) (l0_2 : List (S196)) (a1 : Int) (r : Int) (w : World) (hr0_2 : Kd.C k196 w A0_2 l0_2.length l0_2) (hc0_2 : l0_2.length ≤ c0_2) (h : laws_szFunc.f a0_0 a0_1 l0_2 a1 = some r) :
  Calls Try.prog 69 #[.agg #[.int .i64 a0_0, .int .i64 a0_1, .slice A0_2 l0_2.length c0_2], .int .i64 a1] w fun e w' => e = .returned (.int .i64 r) ∧ Below w.heap.size w w' := by
 have hu116 := Try.underlying116
 have HR0_2 := am hr0_2
 have HC0_2 := am hc0_2
 clear hr0_2 hc0_2
 have HB := am (Below.refl w.heap.size w)
 have H : ((laws_szInsS.f l0_2 a1).bind fun t102 => (if t102 < 0 then (some (-1)) else (some t102))) = some r := h
 clear h
 refine be H ?_; clear H; intro t102 A3 H
 have HC4 := am H
 clear H
 go_enter Try.func69, Try.ntmps69
 go_upto_if 10 with (first | ((with_reducible refine gd 2 rfl ?_); refine bX 2 #[.int .i64 a0_0, .int .i64 a0_1, .slice A0_2 l0_2.length c0_2] 116 HB ?_; clear HB; intro gb101 w5 hg hb BK101 GW101 HB; clear hb hg; have hcz6 := bK w5 BK101; have hfz6 := bF BK101) | ((with_reducible refine gk 118 rfl ?_); refine gD 118 (some 8) Try.func118 #[.slice A0_2 l0_2.length c0_2, .int .i64 a1] (laws_szInsS.calls _ _ l0_2 a1 t102 _ (cc (Kd.C_below HR0_2.out HB.out)) HC0_2.out A3.out) ?_; intro nd))
 (try simp only [Act.put, sa, sz, ss])
 (try simp only [World.drewN_drewN])
 generalize hq_ : World.drewN w5 _ = w7
 replace BK101 : Aside0 (w7.heap[gb101]? = some (.cells #[.int .i64 a0_0, .int .i64 a0_1, .slice A0_2 l0_2.length c0_2] 116 (0, 0))) := ⟨by rw [← hq_]; exact (bp BK101)⟩
 replace HB : Aside0 (Below w.heap.size w w7) := ⟨by rw [← hq_]; exact (bw HB)⟩
 clear hq_
 have H := HC4.out
 clear HC4
 refine qI H ?_ ?_ <;> clear H <;> intro c8b0 H
 ·(first | rw [c8b0] | (simp only [i64_w, i32_w]; rw [c8b0]) | skip)
  obtain rfl := oi H
  go_wp2
  go_ret
  exact ⟨er, bw HB⟩
 (first | rw [c8b0] | (simp only [i64_w, i32_w]; rw [c8b0]) | skip)
 obtain rfl := oi H
 go_wp2
 go_ret
 exact ⟨er, bw HB⟩

def laws_szFuncS.l0 : Nat → List (S116) → Int → Int → Option (Int)
 | 0, _, _, _ => none
 | k + 1, x0, x1, x5 => if x5 < (x0.length : Int) then (if 0 ≤ x5 then ((laws_szFunc.f ((rd_T116 x0 x5).f0) ((rd_T116 x0 x5).f1) ((rd_T116 x0 x5).f2) x1).bind fun t104 => (if t104 < 0 then (some (-1)) else (laws_szFuncS.l0 k x0 t104 (wrap64 (x5 + 1))))) else (none)) else (some x1)
def laws_szFuncS.f (k : Nat) (l0 : List (S116)) (a1 : Int) : Option (Int) := if (wrap64 (a1 - (l0.length : Int))) < 0 then (some (-1)) else (laws_szFuncS.l0 k l0 (wrap64 (a1 - (l0.length : Int))) 0)
theorem laws_szFuncS.calls (k : Nat) (A0 : Option Addr) (c0 : Nat) (l0 : List (S116)) (a1 : Int) (r : Int) (w : World) (hr0 : Kd.C k116 w A0 l0.length l0) (hc0 : l0.length ≤ c0) (h : laws_szFuncS.f k l0 a1 = some r) :
  Calls Try.prog 30 #[.slice A0 l0.length c0, .int .i64 a1] w fun e w' => e = .returned (.int .i64 r) ∧ Below w.heap.size w w' := by
 have hu116 := Try.underlying116
 have HR0 := am hr0
 have HC0 := am hc0
 clear hr0 hc0
 have HB := am (Below.refl w.heap.size w)
 have H : (if (wrap64 (a1 - (l0.length : Int))) < 0 then (some (-1)) else (laws_szFuncS.l0 k l0 (wrap64 (a1 - (l0.length : Int))) 0)) = some r := h
 clear h
 by_cases c3 : (wrap64 (a1 - (l0.length : Int))) < 0
 ·rw [if_pos c3] at H
  have c3b0 := decide_eq_true c3
  clear c3
  obtain rfl := oi H
  go_enter Try.func30, Try.ntmps30
  go_wp2
  go_ret
  exact ⟨er, bw HB⟩
 rw [if_neg c3] at H
 have c3b0 := decide_eq_false c3
 clear c3
 have H' := am H
 clear H
 go_enter Try.func30, Try.ntmps30
 go_wp2
 go_loopg [1, 5] k (fun kq v1 v5 w' => ∃ (x1_1 : Int) (x5_1 : Int), v1 = .int .i64 x1_1 ∧ v5 = .int .i64 x5_1 ∧ Aside0 (laws_szFuncS.l0 kq l0 x1_1 x5_1 = some r) ∧ Aside0 (kq ≤ k) ∧ Aside0 (Below w.heap.size w w'))
 case atStart => exact ⟨(wrap64 (a1 - (l0.length : Int))), (0), dr, dr, H', ⟨Nat.le_refl _⟩, ⟨bw HB⟩⟩
 clear H'
 obtain ⟨x1_1, x5_1, rfl, rfl, HA, HK1, HB⟩ := hrel
 rcases gk with _ | k1
 ·exact absurd HA.out (by simp [laws_szFuncS.l0])
 have H := HA.out
 clear HA
 simp only [laws_szFuncS.l0] at H
 refine qI H ?_ ?_ <;> clear H <;> intro c4b0 H
 ·refine iM H ?_; clear H; intro c5b0 H
  refine be H ?_; clear H; intro t104 A6 H
  have HC7 := am H
  clear H
  have p103 : 0 ≤ (x5_1 : Int) := dt
  have q103 : x5_1 < (l0.length : Int) := dt
  obtain ⟨ad103, A103_2, c103_2, e103, hx103_0, hx103_1, hx103_2, hl103_2, hi103_2⟩ := at_T116 HR0.out x5_1 p103 q103
  cases e103
  replace hx103_0 := cl HB hx103_0
  replace hx103_1 := cl HB hx103_1
  replace hx103_2 := cl HB hx103_2
  have HR103_2 := am hi103_2
  have HC103_2 := am hl103_2
  clear hi103_2 hl103_2
  replace p103 := eq_true p103
  replace q103 := eq_true q103
  go_upto_if 25 with (first | ((with_reducible refine gk 69 rfl ?_); refine gB 69 (some 23) Try.func69 #[.agg #[.int .i64 ((rd_T116 l0 x5_1).f0), .int .i64 ((rd_T116 l0 x5_1).f1), .slice A103_2 ((rd_T116 l0 x5_1).f2).length c103_2], .int .i64 x1_1] (laws_szFunc.calls ((rd_T116 l0 x5_1).f0) ((rd_T116 l0 x5_1).f1) _ _ ((rd_T116 l0 x5_1).f2) x1_1 t104 _ (cc (Kd.C_below HR103_2.out HB.out)) HC103_2.out A6.out) ?_; intro w8 hb; replace HB := bs HB hb; clear hb))
  (try simp only [Act.put, sa, sz, ss])
  have H := HC7.out
  clear HC7
  refine qI H ?_ ?_ <;> clear H <;> intro c9b0 H
  ·(first | rw [c9b0] | (simp only [i64_w, i32_w]; rw [c9b0]) | skip)
   obtain rfl := oi H
   go_wp2
   go_ret
   exact ⟨er, bw HB⟩
  (first | rw [c9b0] | (simp only [i64_w, i32_w]; rw [c9b0]) | skip)
  have H' := am H
  clear H
  go_wp2
  go_roundg k1
  case measure => have := HK1.out; omega
  case rel => exact ⟨(t104), (wrap64 (x5_1 + 1)), dr, dr, H', ⟨by have := HK1.out; omega⟩, ⟨bw HB⟩⟩
 obtain rfl := oi H
 go_wp2
 go_ret
 exact ⟨er, bw HB⟩

def laws_szProgram.f (k : Nat) (l0_0 : List (S116)) (a1 : Int) : Option (Int) := (laws_szFuncS.f k l0_0 a1).bind fun t106 => (if t106 < 0 then (some (-1)) else (some t106))
theorem laws_szProgram.calls (k : Nat) (A0_0 : Option Addr) (c0_0 : Nat) (l0_0 : List (S116)) (a1 : Int) (r : Int) (w : World) (hr0_0 : Kd.C k116 w A0_0 l0_0.length l0_0) (hc0_0 : l0_0.length ≤ c0_0) (h : laws_szProgram.f k l0_0 a1 = some r) :
  Calls Try.prog 7 #[.agg #[.slice A0_0 l0_0.length c0_0], .int .i64 a1] w fun e w' => e = .returned (.int .i64 r) ∧ Below w.heap.size w w' := by
 have hu24 := Try.underlying24
 have HR0_0 := am hr0_0
 have HC0_0 := am hc0_0
 clear hr0_0 hc0_0
 have HB := am (Below.refl w.heap.size w)
 have H : ((laws_szFuncS.f k l0_0 a1).bind fun t106 => (if t106 < 0 then (some (-1)) else (some t106))) = some r := h
 clear h
 refine be H ?_; clear H; intro t106 A3 H
 have HC4 := am H
 clear H
 go_enter Try.func7, Try.ntmps7
 go_upto_if 10 with (first | ((with_reducible refine gd 2 rfl ?_); refine bX 2 #[.slice A0_0 l0_0.length c0_0] 24 HB ?_; clear HB; intro gb105 w5 hg hb BK105 GW105 HB; clear hb hg; have hcz6 := bK w5 BK105; have hfz6 := bF BK105) | ((with_reducible refine gk 30 rfl ?_); refine gB 30 (some 8) Try.func30 #[.slice A0_0 l0_0.length c0_0, .int .i64 a1] (laws_szFuncS.calls k _ _ l0_0 a1 t106 _ (cc (Kd.C_below HR0_0.out HB.out)) HC0_0.out A3.out) ?_; intro w7 hb; replace BK105 := bb BK105 hb; replace HB := bs HB hb; clear hb))
 (try simp only [Act.put, sa, sz, ss])
 have H := HC4.out
 clear HC4
 refine qI H ?_ ?_ <;> clear H <;> intro c8b0 H
 ·(first | rw [c8b0] | (simp only [i64_w, i32_w]; rw [c8b0]) | skip)
  obtain rfl := oi H
  go_wp2
  go_ret
  exact ⟨er, bw HB⟩
 (first | rw [c8b0] | (simp only [i64_w, i32_w]; rw [c8b0]) | skip)
 obtain rfl := oi H
 go_wp2
 go_ret
 exact ⟨er, bw HB⟩

def laws_toIns.f (a0_0 : Int) (a0_1 : Int) : Option (Int × Int) := some (a0_0, a0_1)
theorem laws_toIns.calls (a0_0 : Int) (a0_1 : Int) (r1 : Int) (r2 : Int) (w : World) (h : laws_toIns.f a0_0 a0_1 = some (r1, r2)) :
  Calls Try.prog 153 #[.agg #[.int .i64 a0_0, .int .i64 a0_1]] w fun e w' => e = .returned (.agg #[.int .i64 r1, .int .i64 r2]) ∧ Below w.heap.size w w' := by
 have hu196 := Try.underlying196
 have hu153 := Try.underlying153
 have HB := am (Below.refl w.heap.size w)
 have H : (some (a0_0, a0_1)) = some (r1, r2) := h
 clear h
 simp only [Option.some.injEq, Prod.mk.injEq] at H
 obtain ⟨rfl, rfl⟩ := H
 go_enter Try.func153, Try.ntmps153
 go_wp2_with (first | ((with_reducible refine gd 1 rfl ?_); refine bX 1 #[.int .i64 a0_0, .int .i64 a0_1] 196 HB ?_; clear HB; intro gb107 w2 hg hb BK107 GW107 HB; clear hb hg) | ((with_reducible refine gd 2 rfl ?_); refine bX 2 #[.int .i64 0, .int .i64 0] 153 HB ?_; clear HB; intro gb108 w3 hg hb BK108 GW108 HB; obtain ⟨NB107_108, NB108_107, BK107⟩ := b3 hg BK107 hb; clear hb hg) | ((with_reducible refine gd 3 rfl ?_); refine bX 3 #[.int .i64 0, .int .i64 0] 153 HB ?_; clear HB; intro gb109 w4 hg hb BK109 GW109 HB; obtain ⟨NB107_109, NB109_107, BK107⟩ := b3 hg BK107 hb; obtain ⟨NB108_109, NB109_108, BK108⟩ := b3 hg BK108 hb; clear hb hg; have hnb5 := NB107_108.out; have hnc5 := NB108_107.out; have hnb6 := NB107_109.out; have hnc6 := NB109_107.out; have hcz7 := bK w4 BK107; have hfz7 := bF BK107; have hnb8 := NB109_108.out; have hnc8 := NB108_109.out; have hcz9 := bK w4 BK109; have hfz9 := bF BK109; have hcz10 := bK w4 BK108; have hfz10 := bF BK108))
 refine bodyPost_ret (results_cell_row rfl _ _ gb108 153 #[.int .i64 a0_0, .int .i64 a0_1] (0, 0) _ rfl (bt BK108) Try.underlying153 rfl (by kernel_rfl)) rfl ?_
 exact ⟨er, bw HB⟩

def laws_toInsS.l0 : Nat → List (S196) → List (S153) → Int → Option ((List (S153)))
 | 0, _, _, _ => none
 | k + 1, x0, x3, x4 => if x4 < (x0.length : Int) then (if 0 ≤ x4 then ((laws_toIns.f ((rd_T196 x0 x4).f0) ((rd_T196 x0 x4).f1)).bind fun bt114 => (if x4 < (x3.length : Int) then (laws_toInsS.l0 k x0 (x3.set (x4 : Int).toNat (⟨bt114.1, bt114.2⟩ : S153)) (wrap64 (x4 + 1))) else (none))) else (none)) else (some x3)
def laws_toInsS.f (k : Nat) (l0 : List (S196)) : Option ((List (S153))) := if 0 ≤ (l0.length : Int) then (if ((l0.length : Int) : Int).toNat ≤ 17592186044416 then (laws_toInsS.l0 k l0 (List.replicate ((l0.length : Int) : Int).toNat z153) 0) else (none)) else (none)
theorem laws_toInsS.calls (k : Nat) (A0 : Option Addr) (c0 : Nat) (l0 : List (S196)) (r : List (S153)) (w : World) (hr0 : Kd.C k196 w A0 l0.length l0) (hc0 : l0.length ≤ c0) (h : laws_toInsS.f k l0 = some r) :
  Calls Try.prog 120 #[.slice A0 l0.length c0] w fun e w' => ∃ v0_ : Value, e = .returned (v0_) ∧ Kd.R k153 153 w' w.heap.size (fun _ => True) v0_ r ∧ Below w.heap.size w w' := by
 have hu196 := Try.underlying196
 have hu153 := Try.underlying153
 have HR0 := am hr0
 have HC0 := am hc0
 clear hr0 hc0
 have HB := am (Below.refl w.heap.size w)
 have H : (if 0 ≤ (l0.length : Int) then (if ((l0.length : Int) : Int).toNat ≤ 17592186044416 then (laws_toInsS.l0 k l0 (List.replicate ((l0.length : Int) : Int).toNat z153) 0) else (none)) else (none)) = some r := h
 clear h
 refine iN H ?_; clear H; intro c2 H
 have c2b0 := eq_true c2
 have c2b1 := decide_eq_true c2
 clear c2
 refine iN H ?_; clear H; intro c3 H
 have c3b0 := eq_true c3
 have c3b1 := decide_eq_true c3
 clear c3
 obtain ⟨y110, hy110⟩ : ∃ y_ : List (S153), y_ = (List.replicate ((l0.length : Int) : Int).toNat z153) := ⟨_, rfl⟩
 replace H : (laws_toInsS.l0 k l0 y110 0) = some r := cg hy110 H
 have Ny110 := am hy110
 clear hy110
 have H' := am H
 clear H
 go_enter Try.func120, Try.ntmps120
 go_wp2_with (first | ((with_reducible refine gate_dst (N := 7) rfl ?_); refine Kd.R_make k153 _ 153 rfl (N := 7) rfl 119 _ _ rfl (l0.length : Int) rfl rfl Try.underlying119 (.agg #[(.int .i64 0), (.int .i64 0)]) 16 info153 rfl (by decide) (by omega) z153 (ok := fun _ => True) (okp := fun _ => True) (k153_mkM _ _ _ z153 ) (fun _ hk => hk) trivial (of_decide_eq_true as1) (Nat.le_trans (Nat.mul_le_mul_right _ (of_decide_eq_true as1 : (l0.length : Int).toNat ≤ 17592186044416)) (by omega)) (Below.refl _ _) (Nat.le_refl _) ?_; intro v111 w4 ho5 hb hg_ hnew_; clear hg_ hnew_; (first | rw [← Ny110.out] at ho5 | (simp only [Int.reduceToNat] at ho5; rw [← Ny110.out] at ho5)); have HO112 := am (Kd.R_lower ho5 (below_size (bw HB))); replace HB := bs HB hb; clear hb ho5))
 go_loopg [4] k (fun kq v4 w' => ∃ (x3_1 : List (S153)) (x4_1 : Int), v4 = .int .i64 x4_1 ∧ Aside0 (laws_toInsS.l0 kq l0 x3_1 x4_1 = some r) ∧ Aside0 (kq ≤ k) ∧ Aside0 (Kd.R k153 153 w' w.heap.size (fun _ => True) v111 x3_1) ∧ Aside0 (Below w.heap.size w w'))
 case atStart => exact ⟨(y110), (0), dr, H', ⟨Nat.le_refl _⟩, ⟨kR HO112⟩, ⟨bw HB⟩⟩
 clear H'
 obtain ⟨x3_1, x4_1, rfl, HA, HK1, HO_3, HB⟩ := hrel
 rcases gk with _ | k1
 ·exact absurd HA.out (by simp [laws_toInsS.l0])
 have H := HA.out
 clear HA
 simp only [laws_toInsS.l0] at H
 refine qI H ?_ ?_ <;> clear H <;> intro c6b0 H
 ·refine iM H ?_; clear H; intro c7b0 H
  replace H := Option.bind_eq_some_iff.mp H
  obtain ⟨⟨t114, t115⟩, A80, H⟩ := H
  replace H : (if x4_1 < (x3_1.length : Int) then (laws_toInsS.l0 k1 l0 (x3_1.set (x4_1 : Int).toNat (⟨t114, t115⟩ : S153)) (wrap64 (x4_1 + 1))) else (none)) = some r := H
  have A8 := am A80
  clear A80
  refine iM H ?_; clear H; intro c9b0 H
  obtain ⟨y116, hy116⟩ : ∃ y_ : List (S153), y_ = (x3_1.set (x4_1 : Int).toNat (⟨t114, t115⟩ : S153)) := ⟨_, rfl⟩
  replace H : (laws_toInsS.l0 k1 l0 y116 (wrap64 (x4_1 + 1))) = some r := cg hy116 H
  have Ny116 := am hy116
  clear hy116
  have H' := am H
  clear H
  have p113 : 0 ≤ (x4_1 : Int) := dt
  have q113 : x4_1 < (l0.length : Int) := dt
  obtain ⟨ad113, e113, hx113_0, hx113_1⟩ := at_T196 HR0.out x4_1 p113 q113
  cases e113
  replace hx113_0 := cl HB hx113_0
  replace hx113_1 := cl HB hx113_1
  replace p113 := eq_true p113
  replace q113 := eq_true q113
  go_wp2_with (first | ((with_reducible refine gate_callee (f := 153) rfl ?_); refine goesL_ (some 20) rfl rfl Try.func153 (by kernel_rfl) rfl #[.agg #[.int .i64 ((rd_T196 l0 x4_1).f0), .int .i64 ((rd_T196 l0 x4_1).f1)]] rfl gl ?_; (with_reducible refine (laws_toIns.calls ((rd_T196 l0 x4_1).f0) ((rd_T196 l0 x4_1).f1) t114 t115 _ A8.out).mono ?_); rintro e w11 ⟨rfl, hb⟩; refine ⟨_, rfl, ?_⟩; replace HO_3 := am (Kd.R_below (kR HO_3) hb); replace HB := bs HB hb; clear hb; have p10 : 0 ≤ (x4_1 : Int) := dt; have q10 : (x4_1 : Int) < ((x3_1.length : Int) : Int) := dt; obtain ⟨go10, co10, eo10, gb10, gl10, cl10, HG10⟩ := Kd.R_form HO_3.out (by omega); (first | cases eo10 | (injection eo10 with ea_ en_ ec_; (first | subst ea_ | (injection ea_ with ea_; subst ea_)); subst ec_; clear en_)); have GB10 := am gb10; have GG10 := am HG10; clear gb10 gl10 HG10; obtain ⟨ce10, hcl10, hM10, hcc10, hfr10⟩ := Kd.R_elem HO_3.out z153 (x4_1 : Int) p10 q10; obtain rfl := k153_openM hM10; have hx10_0 : w11.cell? ⟨go10, (x4_1 : Int).toNat * 2, none⟩ = some (.int .i64 ((rd_T153 x3_1 x4_1).f0)) := hcc10 0 _ rfl; have hx10_1 : w11.cell? ⟨go10, (x4_1 : Int).toNat * 2 + 1, none⟩ = some (.int .i64 ((rd_T153 x3_1 x4_1).f1)) := hcc10 1 _ rfl; have hf10_0 : w11.frozen? ⟨go10, (x4_1 : Int).toNat * 2, none⟩ = false := hfr10 0; have hf10_1 : w11.frozen? ⟨go10, (x4_1 : Int).toNat * 2 + 1, none⟩ = false := hfr10 1; replace p10 := eq_true p10; replace q10 := eq_true q10; have HX12 := am (show Kd.R k153 153 w11 w.heap.size (fun _ => True) (.slice (some ⟨go10, 0, none⟩) x3_1.length co10) x3_1 from (kR HO_3)); obtain ⟨ce12, hcl12, hM12, hcc12, hfr12⟩ := Kd.R_elem HX12.out z153 (x4_1 : Int) (of_decide_eq_true as1) (by have h_ : (x4_1 : Int) < ((x3_1.length : Int) : Int) := dt; first | exact h_ | (have e_ := (Kd.R_reads' HO_3.out).1; omega) | simpa using h_); obtain rfl := k153_openM hM12; have HP12 := Kd.R_seg HX12.out (x4_1 : Int) (of_decide_eq_true as1) (by have h_ : (x4_1 : Int) < ((x3_1.length : Int) : Int) := dt; first | exact h_ | (have e_ := (Kd.R_reads' HO_3.out).1; omega) | simpa using h_) (seg := [.int .i64 t114, .int .i64 t115]) (j := 0) hcl12 hcc12 (show 2 ≤ 2 from by decide) (x' := (⟨t114, t115⟩ : S153)) (k153_mkM _ _ _ (⟨t114, t115⟩ : S153) ) (fun _ hk => hk); have hx12_0 := hcc12 0 _ rfl; (try simp only [show (k153).sz = 2 from rfl, Nat.mul_one, Nat.add_zero] at hx12_0); have hf12_0 := hfr12 0; (try simp only [show (k153).sz = 2 from rfl, Nat.mul_one, Nat.add_zero] at hf12_0); have hx12_1 := hcc12 1 _ rfl; (try simp only [show (k153).sz = 2 from rfl, Nat.mul_one, Nat.add_zero] at hx12_1); have hf12_1 := hfr12 1; (try simp only [show (k153).sz = 2 from rfl, Nat.mul_one, Nat.add_zero] at hf12_1)) | ((with_reducible refine gt 153 21 rfl ?_); refine sE 153 21 ((w11.setCell ⟨go10, (x4_1 : Int).toNat * 2, none⟩ (.int .i64 t114)).setCell ⟨go10, (x4_1 : Int).toNat * 2 + 1, none⟩ (.int .i64 t115)) ?_; intro w13 hw; have hg : w11.grownBy w13 (some go10) := (by rw [hw]; exact HP12.2); have hp_ : Kd.R k153 153 w13 w.heap.size (fun _ => True) (.slice (some ⟨go10, 0, none⟩) x3_1.length co10) y116 := (by rw [hw, Ny116.out]; exact HP12.1); clear HP12; replace HO_3 := am (hp_); replace HB := am ((by rw [hw]; exact below_set (below_set (HB.out) GB10.out) GB10.out : Below w.heap.size w w13)); clear hg hw hp_))
  go_roundg k1
  case measure => have := HK1.out; omega
  case rel => exact ⟨(y116), (wrap64 (x4_1 + 1)), dr, H', ⟨by have := HK1.out; omega⟩, ⟨kR HO_3⟩, ⟨bw HB⟩⟩
 obtain rfl := oi H
 go_wp2
 go_ret
 exact ⟨_, er, kR HO_3, bw HB⟩

def laws_toFunc.f (k : Nat) (a0_0 : Int) (a0_1 : Int) (l0_2 : List (S196)) : Option (Int × Int × (List (S153))) := (laws_toInsS.f k l0_2).bind fun t120 => (some (a0_0, a0_1, t120))
theorem laws_toFunc.calls (k : Nat) (a0_0 : Int) (a0_1 : Int) (A0_2 : Option Addr) (c0_2 : Nat) (l0_2 : List (S196)) (r1 : Int) (r2 : Int) (r3 : List (S153)) (w : World) (hr0_2 : Kd.C k196 w A0_2 l0_2.length l0_2) (hc0_2 : l0_2.length ≤ c0_2) (h : laws_toFunc.f k a0_0 a0_1 l0_2 = some (r1, r2, r3)) :
  Calls Try.prog 74 #[.agg #[.int .i64 a0_0, .int .i64 a0_1, .slice A0_2 l0_2.length c0_2]] w fun e w' => ∃ v2_ : Value, e = .returned (.agg #[.int .i64 r1, .int .i64 r2, v2_]) ∧ Kd.R k153 153 w' w.heap.size (fun _ => True) v2_ r3 ∧ Below w.heap.size w w' := by
 have hu116 := Try.underlying116
 have hu121 := Try.underlying121
 have HR0_2 := am hr0_2
 have HC0_2 := am hc0_2
 clear hr0_2 hc0_2
 have HB := am (Below.refl w.heap.size w)
 have H : ((laws_toInsS.f k l0_2).bind fun t120 => (some (a0_0, a0_1, t120))) = some (r1, r2, r3) := h
 clear h
 refine be H ?_; clear H; intro t120 A2 H
 simp only [Option.some.injEq, Prod.mk.injEq] at H
 obtain ⟨rfl, rfl, rfl⟩ := H
 go_enter Try.func74, Try.ntmps74
 go_wp2_with (first | ((with_reducible refine gd 1 rfl ?_); refine bX 1 #[.int .i64 a0_0, .int .i64 a0_1, .slice A0_2 l0_2.length c0_2] 116 HB ?_; clear HB; intro gb117 w3 hg hb BK117 GW117 HB; clear hb hg) | ((with_reducible refine gd 2 rfl ?_); refine bX 2 #[.int .i64 0, .int .i64 0, .slice none 0 0] 121 HB ?_; clear HB; intro gb118 w4 hg hb BK118 GW118 HB; obtain ⟨NB117_118, NB118_117, BK117⟩ := b3 hg BK117 hb; clear hb hg) | ((with_reducible refine gd 3 rfl ?_); refine bX 3 #[.int .i64 0, .int .i64 0, .slice none 0 0] 121 HB ?_; clear HB; intro gb119 w5 hg hb BK119 GW119 HB; obtain ⟨NB117_119, NB119_117, BK117⟩ := b3 hg BK117 hb; obtain ⟨NB118_119, NB119_118, BK118⟩ := b3 hg BK118 hb; clear hb hg; have hnb6 := NB117_118.out; have hnc6 := NB118_117.out; have hnb7 := NB117_119.out; have hnc7 := NB119_117.out; have hcz8 := bK w5 BK117; have hfz8 := bF BK117; have hnb9 := NB119_118.out; have hnc9 := NB118_119.out; have hcz10 := bK w5 BK119; have hfz10 := bF BK119) | ((with_reducible refine gk 120 rfl ?_); refine gC 120 (some 12) Try.func120 #[.slice A0_2 l0_2.length c0_2] ((laws_toInsS.calls k _ _ l0_2 t120 _ (Kd.C_below HR0_2.out (bw HB)) HC0_2.out A2.out).mono ?_); rintro e w11 ⟨v121, rfl, ho0, hb⟩; refine ⟨_, rfl, ?_⟩; have HO122 := am (Kd.R_lower ho0 (below_size (bw HB))); replace BK117 := bb2 BK117 hb; replace BK118 := bb2 BK118 hb; replace BK119 := bo #[.int .i64 a0_0, .int .i64 a0_1, .slice none 0 0] BK119 hb; replace HB := bs HB hb; clear hb; obtain ⟨Ao12, co12, eo12⟩ := Kd.R_slice HO122.out; subst eo12; have hcz13 := bK w11 BK119; have hfz13 := bF BK119; have hcz14 := bK w11 BK118; have hfz14 := bF BK118))
 refine bodyPost_ret (results_cell_row rfl _ _ gb118 121 #[.int .i64 a0_0, .int .i64 a0_1, .slice Ao12 t120.length co12] (0, 0) _ rfl (bt BK118) Try.underlying121 rfl (by kernel_rfl)) rfl ?_
 exact ⟨_, er, by (with_reducible repeat (first | apply Kd.R_alloc | apply Kd.R_drewN | apply Kd.R_drew)); exact Kd.R_mono (Kd.R_far (p := ⟨gb118, 2, none⟩) (Kd.R_far (p := ⟨gb118, 1, none⟩) (Kd.R_far (p := ⟨gb118, 0, none⟩) (Kd.R_far (p := ⟨gb119, 2, none⟩) (Kd.R_types (Kd.R_types HO122.out BK119.out (by decide)) BK118.out (by decide)) (fun _ hk => hk.1.2) (.slice Ao12 t120.length co12)) (fun _ hk => hk.2) (.int .i64 a0_0)) (fun _ hk => hk.2) (.int .i64 a0_1)) (fun _ hk => hk.2) (.slice Ao12 t120.length co12)) (fun _ hk => trivial), bw HB⟩

def laws_toFuncS.l0 : Nat → List (S116) → List (S121) → Int → Option ((List (S121)))
 | 0, _, _, _ => none
 | k + 1, x0, x3, x4 => if x4 < (x0.length : Int) then (if 0 ≤ x4 then ((laws_toFunc.f k ((rd_T116 x0 x4).f0) ((rd_T116 x0 x4).f1) ((rd_T116 x0 x4).f2)).bind fun bt127 => (if x4 < (x3.length : Int) then (laws_toFuncS.l0 k x0 (x3.set (x4 : Int).toNat (⟨bt127.1, bt127.2.1, bt127.2.2⟩ : S121)) (wrap64 (x4 + 1))) else (none))) else (none)) else (some x3)
def laws_toFuncS.f (k : Nat) (l0 : List (S116)) : Option ((List (S121))) := if 0 ≤ (l0.length : Int) then (if ((l0.length : Int) : Int).toNat ≤ 7036874417766 then (laws_toFuncS.l0 k l0 (List.replicate ((l0.length : Int) : Int).toNat z121) 0) else (none)) else (none)
theorem laws_toFuncS.calls (k : Nat) (A0 : Option Addr) (c0 : Nat) (l0 : List (S116)) (r : List (S121)) (w : World) (hr0 : Kd.C k116 w A0 l0.length l0) (hc0 : l0.length ≤ c0) (h : laws_toFuncS.f k l0 = some r) :
  Calls Try.prog 33 #[.slice A0 l0.length c0] w fun e w' => ∃ v0_ : Value, e = .returned (v0_) ∧ Kd.S k121 121 w' w.heap.size (fun _ => True) v0_ r ∧ Below w.heap.size w w' := by
 have hu116 := Try.underlying116
 have hu121 := Try.underlying121
 have HR0 := am hr0
 have HC0 := am hc0
 clear hr0 hc0
 have HB := am (Below.refl w.heap.size w)
 have H : (if 0 ≤ (l0.length : Int) then (if ((l0.length : Int) : Int).toNat ≤ 7036874417766 then (laws_toFuncS.l0 k l0 (List.replicate ((l0.length : Int) : Int).toNat z121) 0) else (none)) else (none)) = some r := h
 clear h
 refine iN H ?_; clear H; intro c2 H
 have c2b0 := eq_true c2
 have c2b1 := decide_eq_true c2
 clear c2
 refine iN H ?_; clear H; intro c3 H
 have c3b0 := eq_true c3
 have c3b1 := decide_eq_true c3
 clear c3
 obtain ⟨y123, hy123⟩ : ∃ y_ : List (S121), y_ = (List.replicate ((l0.length : Int) : Int).toNat z121) := ⟨_, rfl⟩
 replace H : (laws_toFuncS.l0 k l0 y123 0) = some r := cg hy123 H
 have Ny123 := am hy123
 clear hy123
 have H' := am H
 clear H
 go_enter Try.func33, Try.ntmps33
 go_wp2_with (first | ((with_reducible refine gate_dst (N := 7) rfl ?_); refine Kd.S_make k121 _ 121 rfl (N := 7) rfl 30 _ _ rfl (l0.length : Int) rfl rfl Try.underlying30 (.agg #[(.int .i64 0), (.int .i64 0), (.slice none 0 0)]) 40 info121 rfl (by decide) (by omega) z121 (ok := fun _ => True) (okp := fun _ => True) (k121_mkM _ _ _ z121 (Kd.R_nil _ _ _ _ _)) (fun _ hk => hk) trivial (of_decide_eq_true as1) (Nat.le_trans (Nat.mul_le_mul_right _ (of_decide_eq_true as1 : (l0.length : Int).toNat ≤ 7036874417766)) (by omega)) (Below.refl _ _) (Nat.le_refl _) ?_; intro v124 w4 ho5 hb hg_ hnew_; clear hg_ hnew_; (first | rw [← Ny123.out] at ho5 | (simp only [Int.reduceToNat] at ho5; rw [← Ny123.out] at ho5)); have HO125 := am (Kd.S_lower ho5 (below_size (bw HB))); replace HB := bs HB hb; clear hb ho5))
 go_loopg [4] k (fun kq v4 w' => ∃ (x3_1 : List (S121)) (x4_1 : Int), v4 = .int .i64 x4_1 ∧ Aside0 (laws_toFuncS.l0 kq l0 x3_1 x4_1 = some r) ∧ Aside0 (kq ≤ k) ∧ Aside0 (Kd.S k121 121 w' w.heap.size (fun _ => True) v124 x3_1) ∧ Aside0 (Below w.heap.size w w'))
 case atStart => exact ⟨(y123), (0), dr, H', ⟨Nat.le_refl _⟩, ⟨kS HO125⟩, ⟨bw HB⟩⟩
 clear H'
 obtain ⟨x3_1, x4_1, rfl, HA, HK1, HO_3, HB⟩ := hrel
 rcases gk with _ | k1
 ·exact absurd HA.out (by simp [laws_toFuncS.l0])
 have H := HA.out
 clear HA
 simp only [laws_toFuncS.l0] at H
 refine qI H ?_ ?_ <;> clear H <;> intro c6b0 H
 ·refine iM H ?_; clear H; intro c7b0 H
  replace H := Option.bind_eq_some_iff.mp H
  obtain ⟨⟨t127, t128, t129⟩, A80, H⟩ := H
  replace H : (if x4_1 < (x3_1.length : Int) then (laws_toFuncS.l0 k1 l0 (x3_1.set (x4_1 : Int).toNat (⟨t127, t128, t129⟩ : S121)) (wrap64 (x4_1 + 1))) else (none)) = some r := H
  have A8 := am A80
  clear A80
  refine iM H ?_; clear H; intro c9b0 H
  obtain ⟨y132, hy132⟩ : ∃ y_ : List (S121), y_ = (x3_1.set (x4_1 : Int).toNat (⟨t127, t128, t129⟩ : S121)) := ⟨_, rfl⟩
  replace H : (laws_toFuncS.l0 k1 l0 y132 (wrap64 (x4_1 + 1))) = some r := cg hy132 H
  have Ny132 := am hy132
  clear hy132
  have H' := am H
  clear H
  have p126 : 0 ≤ (x4_1 : Int) := dt
  have q126 : x4_1 < (l0.length : Int) := dt
  obtain ⟨ad126, A126_2, c126_2, e126, hx126_0, hx126_1, hx126_2, hl126_2, hi126_2⟩ := at_T116 HR0.out x4_1 p126 q126
  cases e126
  replace hx126_0 := cl HB hx126_0
  replace hx126_1 := cl HB hx126_1
  replace hx126_2 := cl HB hx126_2
  have HR126_2 := am hi126_2
  have HC126_2 := am hl126_2
  clear hi126_2 hl126_2
  replace p126 := eq_true p126
  replace q126 := eq_true q126
  go_wp2_with (first | ((with_reducible refine gk 74 rfl ?_); refine gC 74 (some 20) Try.func74 #[.agg #[.int .i64 ((rd_T116 l0 x4_1).f0), .int .i64 ((rd_T116 l0 x4_1).f1), .slice A126_2 ((rd_T116 l0 x4_1).f2).length c126_2]] ((laws_toFunc.calls k1 ((rd_T116 l0 x4_1).f0) ((rd_T116 l0 x4_1).f1) _ _ ((rd_T116 l0 x4_1).f2) t127 t128 t129 _ (cc (Kd.C_below HR126_2.out HB.out)) HC126_2.out A8.out).mono ?_); rintro e w11 ⟨v130, rfl, ho0, hb⟩; refine ⟨_, rfl, ?_⟩; replace HO_3 := am (Kd.S_elder' (kS HO_3) (Kd.R_base ho0) hb); have HO131 := am (Kd.R_lower ho0 (below_size (bw HB))); replace HB := bs HB hb; clear hb; have p10 : 0 ≤ (x4_1 : Int) := dt; have q10 : (x4_1 : Int) < ((x3_1.length : Int) : Int) := dt; obtain ⟨go10, co10, eo10, gb10, gl10, cl10, HG10⟩ := Kd.S_form HO_3.out (by omega); (first | cases eo10 | (injection eo10 with ea_ en_ ec_; (first | subst ea_ | (injection ea_ with ea_; subst ea_)); subst ec_; clear en_)); have GB10 := am gb10; have GG10 := am HG10; clear gb10 gl10 HG10; obtain ⟨_, ce10, hcl10, hM10, hcc10, hfr10, _, _⟩ := Kd.S_elem HO_3.out z121 (x4_1 : Int) p10 q10; obtain ⟨ve10_2, rfl, ge10_2⟩ := k121_openM hM10; have hx10_0 : w11.cell? ⟨go10, (x4_1 : Int).toNat * 3, none⟩ = some (.int .i64 ((rd_T121 x3_1 x4_1).f0)) := hcc10 0 _ rfl; have hx10_1 : w11.cell? ⟨go10, (x4_1 : Int).toNat * 3 + 1, none⟩ = some (.int .i64 ((rd_T121 x3_1 x4_1).f1)) := hcc10 1 _ rfl; have hx10_2 : w11.cell? ⟨go10, (x4_1 : Int).toNat * 3 + 2, none⟩ = some (ve10_2) := hcc10 2 _ rfl; have hf10_0 : w11.frozen? ⟨go10, (x4_1 : Int).toNat * 3, none⟩ = false := hfr10 0; have hf10_1 : w11.frozen? ⟨go10, (x4_1 : Int).toNat * 3 + 1, none⟩ = false := hfr10 1; have hf10_2 : w11.frozen? ⟨go10, (x4_1 : Int).toNat * 3 + 2, none⟩ = false := hfr10 2; replace p10 := eq_true p10; replace q10 := eq_true q10; obtain ⟨Ao14, co14, eo14⟩ := Kd.R_slice HO131.out; subst eo14; have n_ := am (Kd.S_mono (ok' := (fun k_ => some k_ ≠ (.slice Ao14 t129.length co14 : Value).ownBlock)) HO_3.out (fun k_ hk => hk.2)); clear HO_3; have HO_3 := n_; clear n_; have HX12 := am (show Kd.S k121 121 w11 w.heap.size (fun k_ => ((fun _ => True)) k_ ∧ ¬ ((fun k_ => some k_ = (.slice Ao14 t129.length co14 : Value).ownBlock)) k_) (.slice (some ⟨go10, 0, none⟩) x3_1.length co10) x3_1 from (by (with_reducible repeat (first | apply Kd.S_alloc | apply Kd.S_drewN | apply Kd.S_drew)); exact Kd.S_mono HO_3.out (fun k_ hk => ⟨trivial, fun e_ => hk e_⟩))); obtain ⟨oki12, ce12, hcl12, hM12, hcc12, hfr12, hoki12, hH12⟩ := Kd.S_elem HX12.out z121 (x4_1 : Int) (of_decide_eq_true as1) (by have h_ : (x4_1 : Int) < ((x3_1.length : Int) : Int) := dt; first | exact h_ | (have e_ := (Kd.S_reads' HO_3.out).1; omega) | simpa using h_); obtain ⟨ve12_2, rfl, ge12_2⟩ := k121_openM hM12; have HP12 := Kd.S_seg hH12 (of_decide_eq_true as1) (by have h_ : (x4_1 : Int) < ((x3_1.length : Int) : Int) := dt; first | exact h_ | (have e_ := (Kd.S_reads' HO_3.out).1; omega) | simpa using h_) (seg := [.int .i64 t127, .int .i64 t128, .slice Ao14 t129.length co14]) (j := 0) (show 3 ≤ 3 from by decide) (x' := (⟨t127, t128, t129⟩ : S121)) (k121_mkM _ _ _ (⟨t127, t128, t129⟩ : S121) (Kd.R_mono (Kd.R_tight rfl (Kd.R_mono (ok' := fun k_ => ((fun _ => True)) k_ ∧ k_ ≠ go10) (Kd.R_apart' (HO131.out) (Kd.S_typed HO_3.out) (by decide)) (fun k_ hk => ⟨trivial, fun e_ => (hk.2) (by rw [e_]; rfl)⟩))) (fun _ h_ => Or.inr (h_)))) (fun _ hk => hk) (fun k_ hk_ => ((Kd.R_mono (ok' := fun k_ => ((fun _ => True)) k_ ∧ k_ ≠ go10) (Kd.R_apart' (HO131.out) (Kd.S_typed HO_3.out) (by decide)) (fun k_ hk => ⟨trivial, fun e_ => (hk.2) (by rw [e_]; rfl)⟩))).1 k_ hk_.symm); have hx12_0 := hcc12 0 _ rfl; (try simp only [show (k121).sz = 3 from rfl, Nat.mul_one, Nat.add_zero] at hx12_0); have hf12_0 := hfr12 0; (try simp only [show (k121).sz = 3 from rfl, Nat.mul_one, Nat.add_zero] at hf12_0); have hx12_1 := hcc12 1 _ rfl; (try simp only [show (k121).sz = 3 from rfl, Nat.mul_one, Nat.add_zero] at hx12_1); have hf12_1 := hfr12 1; (try simp only [show (k121).sz = 3 from rfl, Nat.mul_one, Nat.add_zero] at hf12_1); have hx12_2 := hcc12 2 _ rfl; (try simp only [show (k121).sz = 3 from rfl, Nat.mul_one, Nat.add_zero] at hx12_2); have hf12_2 := hfr12 2; (try simp only [show (k121).sz = 3 from rfl, Nat.mul_one, Nat.add_zero] at hf12_2)) | ((with_reducible refine gt 121 21 rfl ?_); refine sE 121 21 (((w11.setCell ⟨go10, (x4_1 : Int).toNat * 3, none⟩ (.int .i64 t127)).setCell ⟨go10, (x4_1 : Int).toNat * 3 + 1, none⟩ (.int .i64 t128)).setCell ⟨go10, (x4_1 : Int).toNat * 3 + 2, none⟩ (.slice Ao14 t129.length co14)) ?_; intro w13 hw; have hg : w11.grownBy w13 (some go10) := (by rw [hw]; exact HP12.2); have hp_ : Kd.S k121 121 w13 w.heap.size (fun _ => True) (.slice (some ⟨go10, 0, none⟩) x3_1.length co10) y132 := (by rw [hw, Ny132.out]; exact HP12.1); clear HP12; replace HO_3 := am (hp_); replace HB := am ((by rw [hw]; exact below_set (below_set (below_set (HB.out) GB10.out) GB10.out) GB10.out : Below w.heap.size w w13)); clear HO131; clear hg hw hp_))
  go_roundg k1
  case measure => have := HK1.out; omega
  case rel => exact ⟨(y132), (wrap64 (x4_1 + 1)), dr, H', ⟨by have := HK1.out; omega⟩, ⟨kS HO_3⟩, ⟨bw HB⟩⟩
 obtain rfl := oi H
 go_wp2
 go_ret
 exact ⟨_, er, kS HO_3, bw HB⟩

def laws_toProgram.f (k : Nat) (l0_0 : List (S116)) : Option ((List (S121))) := (laws_toFuncS.f k l0_0).bind fun t136 => (some t136)
theorem laws_toProgram.calls (k : Nat) (A0_0 : Option Addr) (c0_0 : Nat) (l0_0 : List (S116)) (r : List (S121)) (w : World) (hr0_0 : Kd.C k116 w A0_0 l0_0.length l0_0) (hc0_0 : l0_0.length ≤ c0_0) (h : laws_toProgram.f k l0_0 = some r) :
  Calls Try.prog 10 #[.agg #[.slice A0_0 l0_0.length c0_0]] w fun e w' => ∃ v0_ : Value, e = .returned (.agg #[v0_]) ∧ Kd.S k121 121 w' w.heap.size (fun _ => True) v0_ r ∧ Below w.heap.size w w' := by
 have hu24 := Try.underlying24
 have hu32 := Try.underlying32
 have HR0_0 := am hr0_0
 have HC0_0 := am hc0_0
 clear hr0_0 hc0_0
 have HB := am (Below.refl w.heap.size w)
 have H : ((laws_toFuncS.f k l0_0).bind fun t136 => (some t136)) = some r := h
 clear h
 refine be H ?_; clear H; intro t136 A2 H
 obtain rfl := oi H
 go_enter Try.func10, Try.ntmps10
 go_wp2_with (first | ((with_reducible refine gd 1 rfl ?_); refine bX 1 #[.slice A0_0 l0_0.length c0_0] 24 HB ?_; clear HB; intro gb133 w3 hg hb BK133 GW133 HB; clear hb hg) | ((with_reducible refine gd 2 rfl ?_); refine bX 2 #[.slice none 0 0] 32 HB ?_; clear HB; intro gb134 w4 hg hb BK134 GW134 HB; obtain ⟨NB133_134, NB134_133, BK133⟩ := b3 hg BK133 hb; clear hb hg) | ((with_reducible refine gd 3 rfl ?_); refine bX 3 #[.slice none 0 0] 32 HB ?_; clear HB; intro gb135 w5 hg hb BK135 GW135 HB; obtain ⟨NB133_135, NB135_133, BK133⟩ := b3 hg BK133 hb; obtain ⟨NB134_135, NB135_134, BK134⟩ := b3 hg BK134 hb; clear hb hg; have hnb6 := NB133_134.out; have hnc6 := NB134_133.out; have hnb7 := NB133_135.out; have hnc7 := NB135_133.out; have hcz8 := bK w5 BK133; have hfz8 := bF BK133) | ((with_reducible refine gk 33 rfl ?_); refine gC 33 (some 6) Try.func33 #[.slice A0_0 l0_0.length c0_0] ((laws_toFuncS.calls k _ _ l0_0 t136 _ (cc (Kd.C_below HR0_0.out HB.out)) HC0_0.out A2.out).mono ?_); rintro e w9 ⟨v137, rfl, ho0, hb⟩; refine ⟨_, rfl, ?_⟩; have HO138 := am (Kd.S_lower ho0 (below_size (bw HB))); replace BK133 := bb BK133 hb; replace BK134 := bb BK134 hb; replace BK135 := bb BK135 hb; replace HB := bs HB hb; clear hb; obtain ⟨Ao10, co10, eo10⟩ := Kd.S_slice HO138.out; subst eo10; have hnb11 := NB135_134.out; have hnc11 := NB134_135.out; have hcz12 := bK w9 BK135; have hfz12 := bF BK135; have hcz13 := bK w9 BK134; have hfz13 := bF BK134))
 refine bodyPost_ret (results_cell_row rfl _ _ gb134 32 #[.slice Ao10 t136.length co10] (0, 0) _ rfl (bt BK134) Try.underlying32 rfl (by kernel_rfl)) rfl ?_
 exact ⟨_, er, by (with_reducible repeat (first | apply Kd.S_alloc | apply Kd.S_drewN | apply Kd.S_drew)); exact Kd.S_mono (Kd.S_far (p := ⟨gb134, 0, none⟩) (Kd.S_far (p := ⟨gb135, 0, none⟩) (Kd.S_types (Kd.S_types HO138.out BK135.out (by decide)) BK134.out (by decide)) (fun _ hk => hk.1.2) (.slice Ao10 t136.length co10)) (fun _ hk => hk.2) (.slice Ao10 t136.length co10)) (fun _ hk => trivial), bw HB⟩

def laws_eqIns.f (a0_0 : Int) (a0_1 : Int) (a1_0 : Int) (a1_1 : Int) : Option (Bool) := if a0_0 = a1_0 then (if a0_1 = a1_1 then (some true) else (some false)) else (some false)
theorem laws_eqIns.calls (a0_0 : Int) (a0_1 : Int) (a1_0 : Int) (a1_1 : Int) (r : Bool) (w : World) (h : laws_eqIns.f a0_0 a0_1 a1_0 a1_1 = some r) :
  Calls Try.prog 156 #[.agg #[.int .i64 a0_0, .int .i64 a0_1], .agg #[.int .i64 a1_0, .int .i64 a1_1]] w fun e w' => e = .returned (.bool r) ∧ Below w.heap.size w w' := by
 have hu153 := Try.underlying153
 have HB := am (Below.refl w.heap.size w)
 have H : (if a0_0 = a1_0 then (if a0_1 = a1_1 then (some true) else (some false)) else (some false)) = some r := h
 clear h
 have HC3 := am H
 clear H
 go_enter Try.func156, Try.ntmps156
 go_upto_if 9 with (first | ((with_reducible refine gd 2 rfl ?_); refine bX 2 #[.int .i64 a0_0, .int .i64 a0_1] 153 HB ?_; clear HB; intro gb139 w4 hg hb BK139 GW139 HB; clear hb hg) | ((with_reducible refine gd 3 rfl ?_); refine bX 3 #[.int .i64 a1_0, .int .i64 a1_1] 153 HB ?_; clear HB; intro gb140 w5 hg hb BK140 GW140 HB; obtain ⟨NB139_140, NB140_139, BK139⟩ := b3 hg BK139 hb; clear hb hg; have hnb6 := NB139_140.out; have hnc6 := NB140_139.out; have hcz7 := bK w5 BK139; have hfz7 := bF BK139; have hcz8 := bK w5 BK140; have hfz8 := bF BK140))
 (try simp only [Act.put, sa, sz, ss])
 have H := HC3.out
 clear HC3
 refine qE H ?_ ?_ <;> clear H
 ·intro c9b0 c9b1 H
  (first | rw [c9b0] | (simp only [i64_w, i32_w]; rw [c9b0]) | skip)
  refine qE H ?_ ?_ <;> clear H
  ·intro c10b0 c10b1 H
   obtain rfl := oi H
   have hnb11 := NB139_140.out
   have hnc11 := NB140_139.out
   have hcz12 := bK w5 BK139
   have hfz12 := bF BK139
   have hcz13 := bK w5 BK140
   have hfz13 := bF BK140
   go_wp2
   go_ret
   exact ⟨er, bw HB⟩
  intro c10 c10b0 c10b1 H
  obtain rfl := oi H
  have hnb14 := NB139_140.out
  have hnc14 := NB140_139.out
  have hcz15 := bK w5 BK139
  have hfz15 := bF BK139
  have hcz16 := bK w5 BK140
  have hfz16 := bF BK140
  go_wp2
  go_ret
  exact ⟨er, bw HB⟩
 intro c9 c9b0 c9b1 H
 (first | rw [c9b0] | (simp only [i64_w, i32_w]; rw [c9b0]) | skip)
 obtain rfl := oi H
 go_wp2
 go_ret
 exact ⟨er, bw HB⟩

end Go.Proofs.Ytkhpiicijkhpkaa.QFnExactAsmBytes
