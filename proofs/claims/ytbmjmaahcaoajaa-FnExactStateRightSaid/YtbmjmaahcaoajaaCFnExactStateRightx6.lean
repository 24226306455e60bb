import Derived.Test.YtbmjmaahcaoajaaCFnExactStateRightx0
import Derived.Test.YtbmjmaahcaoajaaCFnExactStateRightx5
namespace Go.Proofs.Ytbmjmaahcaoajaa.QFnExactStateRight
open Go.RowKit Go.Proofs.YtbmjmaahcaoajaaW
open PrintWords PrintLast PrintMore PrintShort
attribute [local go_sem] max2_int min2_int max_two min_two max_three min_three max_four min_four   -- for this text's walks alone
set_option linter.unusedVariables false
set_option maxHeartbeats 8000000
set_option maxRecDepth 100000
set_option linter.unusedSimpArgs false

def laws_szState.f (k : Nat) (l0_0 : List (S213)) (l0_1 : List (List Int)) (l0_2 : List Int) (a0_3 : Int) (a0_4 : Bool) (a0_5 : Int) (a0_6 : Int) (a1 : Int) : Option (Int) := (laws_szFrameS.f k l0_0 a1).bind fun t178 => (if t178 < 0 then (some (-1)) else ((laws_szInt64SS.f k l0_1 t178).bind fun t179 => (if t179 < 0 then (some (-1)) else ((laws_szInt64S.f l0_2 t179).bind fun t180 => (if t180 < 0 then (some (-1)) else (some t180))))))
theorem laws_szState.mono : ∀ a0 a1 a2 a3 a4 a5 a6 a7 k, LeO (laws_szState.f k a0 a1 a2 a3 a4 a5 a6 a7) (laws_szState.f (k + 1) a0 a1 a2 a3 a4 a5 a6 a7) := by
 intro a0 a1 a2 a3 a4 a5 a6 a7 k
 unfold laws_szState.f
 with_reducible repeat' first | exact laws_szFrameS.mono .. | exact laws_szInt64SS.mono .. | exact LeO.refl _ | exact LeO.none _ | refine LeO.ite ?_ ?_ | refine LeO.bind ?_ (fun _ => ?_)
theorem laws_szState.calls (k : Nat) (A0_0 : Option Addr) (c0_0 : Nat) (l0_0 : List (S213)) (A0_1 : Option Addr) (c0_1 : Nat) (l0_1 : List (List Int)) (A0_2 : Option Addr) (c0_2 : Nat) (l0_2 : List Int) (a0_3 : Int) (a0_4 : Bool) (a0_5 : Int) (a0_6 : Int) (a1 : Int) (r : Int) (w : World) (hr0_0 : Kd.C k213 w A0_0 l0_0.length l0_0) (hc0_0 : l0_0.length ≤ c0_0) (hr0_1 : Kd.C (Kd.slice 2 (Kd.int .i64)) w A0_1 l0_1.length l0_1) (hc0_1 : l0_1.length ≤ c0_1) (hr0_2 : Kd.C (Kd.int .i64) w A0_2 l0_2.length l0_2) (hc0_2 : l0_2.length ≤ c0_2) (h : laws_szState.f k l0_0 l0_1 l0_2 a0_3 a0_4 a0_5 a0_6 a1 = some r) :
  Calls Try.prog 52 #[.agg #[.slice A0_0 l0_0.length c0_0, .slice A0_1 l0_1.length c0_1, .slice A0_2 l0_2.length c0_2, .int .i64 a0_3, .bool a0_4, .int .i64 a0_5, .int .i64 a0_6], .int .i64 a1] w fun e w' => e = .returned (.int .i64 r) ∧ Below w.heap.size w w' := by
 have hu76 := Try.underlying76
 have HR0_0 := am hr0_0
 have HC0_0 := am hc0_0
 clear hr0_0 hc0_0
 have HR0_1 := am hr0_1
 have HC0_1 := am hc0_1
 clear hr0_1 hc0_1
 have HR0_2 := am hr0_2
 have HC0_2 := am hc0_2
 clear hr0_2 hc0_2
 have HB := am (Below.refl w.heap.size w)
 have H : ((laws_szFrameS.f k l0_0 a1).bind fun t178 => (if t178 < 0 then (some (-1)) else ((laws_szInt64SS.f k l0_1 t178).bind fun t179 => (if t179 < 0 then (some (-1)) else ((laws_szInt64S.f l0_2 t179).bind fun t180 => (if t180 < 0 then (some (-1)) else (some t180))))))) = some r := h
 clear h
 refine be H ?_; clear H; intro t178 A3 H
 have HC4 := am H
 clear H
 go_enter Try.func52, Try.ntmps52
 go_upto_if 10 with (first | ((with_reducible refine gd 2 rfl ?_); refine bX 2 #[.slice A0_0 l0_0.length c0_0, .slice A0_1 l0_1.length c0_1, .slice A0_2 l0_2.length c0_2, .int .i64 a0_3, .bool a0_4, .int .i64 a0_5, .int .i64 a0_6] 76 HB ?_; clear HB; intro gb177 w5 hg hb BK177 GW177 HB; clear hb hg; have hcz6_0 := bk w5 BK177 0; have hcz6_1 := bk w5 BK177 1; have hcz6_2 := bk w5 BK177 2; have hcz6_3 := bk w5 BK177 3; have hcz6_4 := bk w5 BK177 4; have hcz6_5 := bk w5 BK177 5; have hcz6_6 := bk w5 BK177 6; have hfz6_0 := bf BK177 0; have hfz6_1 := bf BK177 1; have hfz6_2 := bf BK177 2; have hfz6_3 := bf BK177 3; have hfz6_4 := bf BK177 4; have hfz6_5 := bf BK177 5; have hfz6_6 := bf BK177 6) | ((with_reducible refine gk 110 rfl ?_); refine gB 110 (some 8) Try.func110 #[.slice A0_0 l0_0.length c0_0, .int .i64 a1] (laws_szFrameS.calls k _ _ l0_0 a1 t178 _ (cc (Kd.C_below HR0_0.out HB.out)) HC0_0.out A3.out) ?_; intro w7 hb; replace BK177 := bb BK177 hb; replace HB := bs HB hb; clear hb))
 (try simp only [Act.put, sa, sz, ss])
 have H := HC4.out
 clear HC4
 refine qI H ?_ ?_ <;> clear H <;> intro c8b0 H
 ·(first | rw [c8b0] | (simp only [i64_w, i32_w]; rw [c8b0]) | skip)
  obtain rfl := Option.some.inj H
  go_wp2
  go_ret
  exact ⟨er, bw HB⟩
 (first | rw [c8b0] | (simp only [i64_w, i32_w]; rw [c8b0]) | skip)
 refine be H ?_; clear H; intro t179 A9 H
 have HC10 := am H
 clear H
 have hcz11_0 := bk w7 BK177 0
 have hcz11_1 := bk w7 BK177 1
 have hcz11_2 := bk w7 BK177 2
 have hcz11_3 := bk w7 BK177 3
 have hcz11_4 := bk w7 BK177 4
 have hcz11_5 := bk w7 BK177 5
 have hcz11_6 := bk w7 BK177 6
 have hfz11_0 := bf BK177 0
 have hfz11_1 := bf BK177 1
 have hfz11_2 := bf BK177 2
 have hfz11_3 := bf BK177 3
 have hfz11_4 := bf BK177 4
 have hfz11_5 := bf BK177 5
 have hfz11_6 := bf BK177 6
 go_upto_if 16 with (first | ((with_reducible refine gk 99 rfl ?_); refine gD 99 (some 14) Try.func99 #[.slice A0_1 l0_1.length c0_1, .int .i64 t178] (laws_szInt64SS.calls k _ _ l0_1 t178 t179 _ (cc (Kd.C_below HR0_1.out HB.out)) HC0_1.out A9.out) ?_; intro nd))
 (try simp only [Act.put, sa, sz, ss])
 (try simp only [World.drewN_drewN])
 generalize hq_ : World.drewN w7 _ = w12
 replace BK177 : Aside0 (w12.heap[gb177]? = some (.cells #[.slice A0_0 l0_0.length c0_0, .slice A0_1 l0_1.length c0_1, .slice A0_2 l0_2.length c0_2, .int .i64 a0_3, .bool a0_4, .int .i64 a0_5, .int .i64 a0_6] 76 (0, 0))) := ⟨by rw [← hq_]; exact (bp BK177)⟩
 replace HB : Aside0 (Below w.heap.size w w12) := ⟨by rw [← hq_]; exact (bw HB)⟩
 clear hq_
 have H := HC10.out
 clear HC10
 refine qI H ?_ ?_ <;> clear H <;> intro c13b0 H
 ·(first | rw [c13b0] | (simp only [i64_w, i32_w]; rw [c13b0]) | skip)
  obtain rfl := Option.some.inj H
  go_wp2
  go_ret
  exact ⟨er, bw HB⟩
 (first | rw [c13b0] | (simp only [i64_w, i32_w]; rw [c13b0]) | skip)
 refine be H ?_; clear H; intro t180 A14 H
 have HC15 := am H
 clear H
 have hcz16_0 := bk w12 BK177 0
 have hcz16_1 := bk w12 BK177 1
 have hcz16_2 := bk w12 BK177 2
 have hcz16_3 := bk w12 BK177 3
 have hcz16_4 := bk w12 BK177 4
 have hcz16_5 := bk w12 BK177 5
 have hcz16_6 := bk w12 BK177 6
 have hfz16_0 := bf BK177 0
 have hfz16_1 := bf BK177 1
 have hfz16_2 := bf BK177 2
 have hfz16_3 := bf BK177 3
 have hfz16_4 := bf BK177 4
 have hfz16_5 := bf BK177 5
 have hfz16_6 := bf BK177 6
 go_upto_if 22 with (first | ((with_reducible refine gk 100 rfl ?_); refine gD 100 (some 20) Try.func100 #[.slice A0_2 l0_2.length c0_2, .int .i64 t179] (laws_szInt64S.calls _ _ l0_2 t179 t180 _ (cc (Kd.C_below HR0_2.out HB.out)) HC0_2.out A14.out) ?_; intro nd))
 (try simp only [Act.put, sa, sz, ss])
 (try simp only [World.drewN_drewN])
 generalize hq_ : World.drewN w12 _ = w17
 replace BK177 : Aside0 (w17.heap[gb177]? = some (.cells #[.slice A0_0 l0_0.length c0_0, .slice A0_1 l0_1.length c0_1, .slice A0_2 l0_2.length c0_2, .int .i64 a0_3, .bool a0_4, .int .i64 a0_5, .int .i64 a0_6] 76 (0, 0))) := ⟨by rw [← hq_]; exact (bp BK177)⟩
 replace HB : Aside0 (Below w.heap.size w w17) := ⟨by rw [← hq_]; exact (bw HB)⟩
 clear hq_
 have H := HC15.out
 clear HC15
 refine qI H ?_ ?_ <;> clear H <;> intro c18b0 H
 ·(first | rw [c18b0] | (simp only [i64_w, i32_w]; rw [c18b0]) | skip)
  obtain rfl := Option.some.inj H
  go_wp2
  go_ret
  exact ⟨er, bw HB⟩
 (first | rw [c18b0] | (simp only [i64_w, i32_w]; rw [c18b0]) | skip)
 obtain rfl := Option.some.inj H
 go_wp2
 go_ret
 exact ⟨er, bw HB⟩

def spec_l04Least.l0 : Nat → List Bool → Int → Option (Int)
 | 0, _, _ => none
 | k + 1, x0, x3 => if x3 < (x0.length : Int) then (if 0 ≤ x3 then (if rdOf false x0 x3 = true then (some x3) else (spec_l04Least.l0 k x0 (wrap64 (x3 + 1)))) else (none)) else (some (-1))
def spec_l04Least.f (k : Nat) (l0 : List Bool) : Option (Int) := spec_l04Least.l0 k l0 0
theorem spec_l04Least.mono_l : ∀ k, (∀ y0 y1, LeO (spec_l04Least.l0 k y0 y1) (spec_l04Least.l0 (k + 1) y0 y1))
 | 0 => fun _ _ r h => by simp [spec_l04Least.l0] at h
 | k + 1 => by
  have ih0 := spec_l04Least.mono_l k
  ·intro y0 y1
   unfold spec_l04Least.l0
   with_reducible repeat' first | exact ih0 .. | exact LeO.refl _ | exact LeO.none _ | refine LeO.ite ?_ ?_ | refine LeO.bind ?_ (fun _ => ?_)
theorem spec_l04Least.mono : ∀ a0 k, LeO (spec_l04Least.f k a0) (spec_l04Least.f (k + 1) a0) := by
 intro a0 k
 have ih0 := spec_l04Least.mono_l k
 unfold spec_l04Least.f
 with_reducible repeat' first | exact ih0 .. | exact LeO.refl _ | exact LeO.none _ | refine LeO.ite ?_ ?_ | refine LeO.bind ?_ (fun _ => ?_)
theorem spec_l04Least.calls (k : Nat) (A0 : Option Addr) (c0 : Nat) (l0 : List Bool) (r : Int) (w : World) (hr0 : Kd.C Kd.bool w A0 l0.length l0) (hc0 : l0.length ≤ c0) (h : spec_l04Least.f k l0 = some r) :
  Calls Try.prog 117 #[.slice A0 l0.length c0] w fun e w' => e = .returned (.int .i64 r) ∧ Drawn0 w w' := by
 have HR0 := am hr0
 have HC0 := am hc0
 clear hr0 hc0
 have H : (spec_l04Least.l0 k l0 0) = some r := h
 clear h
 have H' := am H
 clear H
 go_enter Try.func117, Try.ntmps117
 go_wp2
 go_loopg [3] k (fun kq v3 w' => ∃ (x3_1 : Int), v3 = .int .i64 x3_1 ∧ Aside0 (spec_l04Least.l0 kq l0 x3_1 = some r) ∧ Aside0 (kq ≤ k) ∧ Drawn0 w w')
 case atStart => exact ⟨(0), dr, H', ⟨Nat.le_refl _⟩, by repeat (first | exact Drawn0.refl _ | apply Drawn0.step)⟩
 clear H'
 try clear c1
 obtain ⟨x3_1, rfl, HA, HK1, ⟨m1, rfl⟩⟩ := hrel
 rcases gk with _ | k1
 ·exact absurd HA.out (by simp [spec_l04Least.l0])
 have H := HA.out
 clear HA
 simp only [spec_l04Least.l0] at H
 refine qI H ?_ ?_ <;> clear H <;> intro c2b0 H
 ·refine iM H ?_; clear H; intro c3b0 H
  obtain ⟨bq4, hbq4⟩ : ∃ b_ : Bool, b_ = (rdOf false l0 x3_1) := ⟨_, rfl⟩
  replace H : (if bq4 = true then (some x3_1) else (spec_l04Least.l0 k1 l0 (wrap64 (x3_1 + 1)))) = some r := by rw [← hbq4] at H; exact H
  have Nbq4 := am hbq4
  clear hbq4
  refine qT H ?_ ?_ <;> clear H <;> intro c5 H <;> subst c5
  ·obtain rfl := Option.some.inj H
   have p181 : 0 ≤ (x3_1 : Int) := of_decide_eq_true as1
   have q181 : x3_1 < (l0.length : Int) := of_decide_eq_true as1
   obtain ⟨ad181, e181, hx181_0⟩ := Kd.at_bool HR0.out x3_1 p181 q181
   (try rw [← Nbq4.out] at hx181_0)
   cases e181
   replace p181 := eq_true p181
   replace q181 := eq_true q181
   go_wp2
   go_ret
   exact ⟨by first | rfl | (simp; done) | (simp [*]; done), by repeat (first | exact Drawn0.refl _ | apply Drawn0.step)⟩
  have H' := am H
  clear H
  have p181 : 0 ≤ (x3_1 : Int) := of_decide_eq_true as1
  have q181 : x3_1 < (l0.length : Int) := of_decide_eq_true as1
  obtain ⟨ad181, e181, hx181_0⟩ := Kd.at_bool HR0.out x3_1 p181 q181
  (try rw [← Nbq4.out] at hx181_0)
  cases e181
  replace p181 := eq_true p181
  replace q181 := eq_true q181
  go_wp2
  go_roundg k1
  case measure => have := HK1.out; omega
  case rel => exact ⟨(wrap64 (x3_1 + 1)), dr, H', ⟨by have := HK1.out; omega⟩, by repeat (first | exact Drawn0.refl _ | apply Drawn0.step)⟩
 obtain rfl := Option.some.inj H
 go_wp2
 go_ret
 exact ⟨by first | rfl | (simp; done) | (simp [*]; done), by repeat (first | exact Drawn0.refl _ | apply Drawn0.step)⟩

def spec_l03Binary.f (a0 : Int) : Option (Bool) := if a0 ≥ 10 then (some (decide (a0 ≤ 23))) else (some false)
theorem spec_l03Binary.calls (a0 : Int) (r : Bool) (w : World) (h : spec_l03Binary.f a0 = some r) :
  Calls Try.prog 168 #[.int .i64 a0] w fun e w' => e = .returned (.bool r) ∧ Drawn0 w w' := by
 have H : (if a0 ≥ 10 then (some (decide (a0 ≤ 23))) else (some false)) = some r := h
 clear h
 refine qL H ?_ ?_ <;> clear H <;> intro c2b0 H
 ·obtain rfl := Option.some.inj H
  go_enter Try.func168, Try.ntmps168
  go_wp2
  go_ret
  exact ⟨by first | rfl | (simp; done) | (simp [*]; done), by repeat (first | exact Drawn0.refl _ | apply Drawn0.step)⟩
 obtain rfl := Option.some.inj H
 go_enter Try.func168, Try.ntmps168
 go_wp2
 go_ret
 exact ⟨by first | rfl | (simp; done) | (simp [*]; done), by repeat (first | exact Drawn0.refl _ | apply Drawn0.step)⟩

def spec_l03Unary.f (a0 : Int) : Option (Bool) := if a0 ≥ 24 then (some (decide (a0 ≤ 29))) else (some false)
theorem spec_l03Unary.calls (a0 : Int) (r : Bool) (w : World) (h : spec_l03Unary.f a0 = some r) :
  Calls Try.prog 169 #[.int .i64 a0] w fun e w' => e = .returned (.bool r) ∧ Drawn0 w w' := by
 have H : (if a0 ≥ 24 then (some (decide (a0 ≤ 29))) else (some false)) = some r := h
 clear h
 refine qL H ?_ ?_ <;> clear H <;> intro c2b0 H
 ·obtain rfl := Option.some.inj H
  go_enter Try.func169, Try.ntmps169
  go_wp2
  go_ret
  exact ⟨by first | rfl | (simp; done) | (simp [*]; done), by repeat (first | exact Drawn0.refl _ | apply Drawn0.step)⟩
 obtain rfl := Option.some.inj H
 go_enter Try.func169, Try.ntmps169
 go_wp2
 go_ret
 exact ⟨by first | rfl | (simp; done) | (simp [*]; done), by repeat (first | exact Drawn0.refl _ | apply Drawn0.step)⟩

mutual
def spec_Takes.j0 : Nat → Bool → List (S100) → Int → Int → Option (Int)
 | 0, _, _, _, _ => none
 | k + 1, x5, x183000, x184000, x184001 => if x5 = true then (some 2) else (if x184000 = 36 then (some 3) else (if x184000 = 32 then (if x184001 < 0 then (some 0) else (if x184001 ≥ (x183000.length : Int) then (some 0) else (if 0 ≤ x184001 then (if x184001 < (x183000.length : Int) then (some ((rd_T100 x183000 x184001).f0)) else (none)) else (none)))) else ((spec_l03Unary.f x184000).bind fun t186 => (if t186 = true then (some 1) else (if x184000 = 3 then (spec_Takes.j1 k (x184000 == 3)) else (if x184000 = 4 then (spec_Takes.j1 k (x184000 == 4)) else (if x184000 = 5 then (spec_Takes.j1 k (x184000 == 5)) else (if x184000 = 31 then (spec_Takes.j1 k (x184000 == 31)) else (if x184000 = 33 then (spec_Takes.j1 k (x184000 == 33)) else (if x184000 = 34 then (spec_Takes.j1 k (x184000 == 34)) else (if x184000 = 37 then (spec_Takes.j1 k (x184000 == 37)) else (spec_Takes.j1 k (x184000 == 38)))))))))))))
def spec_Takes.j1 : Nat → Bool → Option (Int)
 | 0, _ => none
 | k + 1, x46 => if x46 = true then (some 1) else (some 0)
end
def spec_Takes.f (k : Nat) (l0_0 : List (S100)) (a1_0 : Int) (a1_1 : Int) : Option (Int) := (spec_l03Binary.f a1_0).bind fun t184 => (if t184 = true then (spec_Takes.j0 k true l0_0 a1_0 a1_1) else (spec_Takes.j0 k (a1_0 == 35) l0_0 a1_0 a1_1))
theorem spec_Takes.mono_l : ∀ k, (∀ y0 y1 y2 y3, LeO (spec_Takes.j0 k y0 y1 y2 y3) (spec_Takes.j0 (k + 1) y0 y1 y2 y3)) ∧ (∀ y0, LeO (spec_Takes.j1 k y0) (spec_Takes.j1 (k + 1) y0))
 | 0 => ⟨fun _ _ _ _ r h => by simp [spec_Takes.j0] at h, fun _ r h => by simp [spec_Takes.j1] at h⟩
 | k + 1 => by
  obtain ⟨ih0, ih1⟩ := spec_Takes.mono_l k
  refine ⟨?_, ?_⟩
  ·intro y0 y1 y2 y3
   unfold spec_Takes.j0
   with_reducible repeat' first | exact ih0 .. | exact ih1 .. | exact LeO.refl _ | exact LeO.none _ | refine LeO.ite ?_ ?_ | refine LeO.bind ?_ (fun _ => ?_)
  ·intro y0
   unfold spec_Takes.j1
   with_reducible repeat' first | exact ih0 .. | exact ih1 .. | exact LeO.refl _ | exact LeO.none _ | refine LeO.ite ?_ ?_ | refine LeO.bind ?_ (fun _ => ?_)
theorem spec_Takes.mono : ∀ a0 a1 a2 k, LeO (spec_Takes.f k a0 a1 a2) (spec_Takes.f (k + 1) a0 a1 a2) := by
 intro a0 a1 a2 k
 obtain ⟨ih0, ih1⟩ := spec_Takes.mono_l k
 unfold spec_Takes.f
 with_reducible repeat' first | exact ih0 .. | exact ih1 .. | exact LeO.refl _ | exact LeO.none _ | refine LeO.ite ?_ ?_ | refine LeO.bind ?_ (fun _ => ?_)
theorem spec_Takes.calls (k : Nat) (A0_0 : Option Addr) (c0_0 : Nat) (l0_0 : List (S100)) (a1_0 : Int) (a1_1 : Int) (r : Int) (w : World) (hr0_0 : Kd.C k100 w A0_0 l0_0.length l0_0) (hc0_0 : l0_0.length ≤ c0_0) (h : spec_Takes.f k l0_0 a1_0 a1_1 = some r) :
  Calls Try.prog 118 #[.agg #[.slice A0_0 l0_0.length c0_0], .agg #[.int .i64 a1_0, .int .i64 a1_1]] w fun e w' => e = .returned (.int .i64 r) ∧ Below w.heap.size w w' := by
 have hu30 := Try.underlying30
 have hu102 := Try.underlying102
 have HR0_0 := am hr0_0
 have HC0_0 := am hc0_0
 clear hr0_0 hc0_0
 have HB := am (Below.refl w.heap.size w)
 have H : ((spec_l03Binary.f a1_0).bind fun t184 => (if t184 = true then (spec_Takes.j0 k true l0_0 a1_0 a1_1) else (spec_Takes.j0 k (a1_0 == 35) l0_0 a1_0 a1_1))) = some r := h
 clear h
 have HC3 := am H
 clear H
 go_enter Try.func118, Try.ntmps118
 go_upto_region 1 with (first | ((with_reducible refine gate_dst (N := 2) rfl ?_); (try (refine gate_guard (by rfl) ?_; dsimp only)); refine box_event ?hg (N := 2) ?hd (cs := #[.slice A0_0 l0_0.length c0_0]) (t := 30) ?hr ?_; (case hd => rfl); (case hg => rfl); (case hr => exact gs); intro gb182 hg w4 hbox hb; have BK182 := am (hbox); have GW182 := gw hg HB; replace HB := bs HB hb; clear hb hbox hg) | ((with_reducible refine gate_dst (N := 3) rfl ?_); (try (refine gate_guard (by rfl) ?_; dsimp only)); refine box_event ?hg (N := 3) ?hd (cs := #[.int .i64 a1_0, .int .i64 a1_1]) (t := 102) ?hr ?_; (case hd => rfl); (case hg => rfl); (case hr => exact gs); intro gb183 hg w5 hbox hb; have BK183 := am (hbox); have GW183 := gw hg HB; replace HB := bs HB hb; obtain ⟨NB182_183, NB183_182, BK182⟩ := b3 hg BK182 hb; clear hb hbox hg))
 (try simp only [Act.put, sa, sz, ss])
 go_cut [5] (fun v5 wc => ∃ (kq : Nat) (x5_2 : Bool), v5 = .bool x5_2 ∧ Aside0 (spec_Takes.j0 kq x5_2 l0_0 a1_0 a1_1 = some r) ∧ Aside0 (kq ≤ k) ∧ Aside0 (wc.heap[gb182]? = some (.cells #[(.slice A0_0 l0_0.length c0_0)] 30 (0, 0))) ∧ Aside0 (wc.heap[gb183]? = some (.cells #[.int .i64 a1_0, .int .i64 a1_1] 102 (0, 0))) ∧ Aside0 (Below w.heap.size w wc))
 case first =>
  have H := HC3.out
  clear HC3
  refine be H ?_; clear H; intro t184 A6 H
  refine qT H ?_ ?_ <;> clear H <;> intro c7 H <;> subst c7
  ·have H' := am H
   clear H
   have hnb8 := NB183_182.out
   have hnc8 := NB182_183.out
   have hcz9 := bK w5 BK183
   have hfz9 := bF BK183
   go_wp2_with (first | ((with_reducible refine gate_callee (f := 168) rfl ?_); refine goesL_ (some 8) rfl rfl Try.func168 (by kernel_rfl) rfl #[.int .i64 a1_0] rfl gl ?_; (with_reducible refine (spec_l03Binary.calls a1_0 true _ A6.out).mono ?_); rintro e w' ⟨rfl, ⟨nd, rfl⟩⟩; refine ⟨_, rfl, ?_⟩))
   go_meet
   case rel => exact ⟨_, (true), dr, H', ⟨lk0⟩, ⟨bp BK182⟩, ⟨bp BK183⟩, ⟨bw HB⟩⟩
  have H' := am H
  clear H
  have hnb10 := NB183_182.out
  have hnc10 := NB182_183.out
  have hcz11 := bK w5 BK183
  have hfz11 := bF BK183
  go_wp2_with (first | ((with_reducible refine gate_callee (f := 168) rfl ?_); refine goesL_ (some 8) rfl rfl Try.func168 (by kernel_rfl) rfl #[.int .i64 a1_0] rfl gl ?_; (with_reducible refine (spec_l03Binary.calls a1_0 false _ A6.out).mono ?_); rintro e w' ⟨rfl, ⟨nd, rfl⟩⟩; refine ⟨_, rfl, ?_⟩))
  go_meet
  case rel => exact ⟨_, ((a1_0 == 35)), dr, H', ⟨lk0⟩, ⟨bp BK182⟩, ⟨bp BK183⟩, ⟨bw HB⟩⟩
 clear HC3
 (try clear c1); (try clear p2); (try clear c7); (try clear c8); (try clear c10); (try clear c11); (try clear hcz11); (try clear hcz9); (try clear hfz11); (try clear hfz9)
 obtain ⟨kq, x5_2, rfl, HA, HJ2, BK182, BK183, HB⟩ := hcut
 rcases kq with _ | kj2
 ·exact absurd HA.out (by simp [spec_Takes.j0])
 have H := HA.out
 clear HA
 simp only [spec_Takes.j0] at H
 refine qT H ?_ ?_ <;> clear H <;> intro c12 H <;> subst c12
 ·obtain rfl := Option.some.inj H
  go_wp2
  go_ret
  exact ⟨er, bw HB⟩
 refine qE H ?_ ?_ <;> clear H
 ·intro c13b0 c13b1 H
  obtain rfl := Option.some.inj H
  have hnb14 := NB183_182.out
  have hnc14 := NB182_183.out
  have hcz15 := bK wc BK183
  have hfz15 := bF BK183
  go_wp2
  go_ret
  exact ⟨er, bw HB⟩
 intro c13 c13b0 c13b1 H
 refine qE H ?_ ?_ <;> clear H
 ·intro c16b0 c16b1 H
  refine qI H ?_ ?_ <;> clear H <;> intro c17b0 H
  ·obtain rfl := Option.some.inj H
   have hnb18 := NB183_182.out
   have hnc18 := NB182_183.out
   have hcz19 := bK wc BK183
   have hfz19 := bF BK183
   go_wp2
   go_ret
   exact ⟨er, bw HB⟩
  refine qL H ?_ ?_ <;> clear H <;> intro c20b0 H
  ·obtain rfl := Option.some.inj H
   have hnb21 := NB183_182.out
   have hnc21 := NB182_183.out
   have hcz22 := bK wc BK183
   have hfz22 := bF BK183
   have hcz23 := bK wc BK182
   have hfz23 := bF BK182
   go_wp2
   go_ret
   exact ⟨er, bw HB⟩
  refine iM H ?_; clear H; intro c24b0 H
  refine iM H ?_; clear H; intro c25b0 H
  obtain rfl := Option.some.inj H
  have hnb26 := NB183_182.out
  have hnc26 := NB182_183.out
  have hcz27 := bK wc BK183
  have hfz27 := bF BK183
  have hcz28 := bK wc BK182
  have hfz28 := bF BK182
  have p185 : 0 ≤ (a1_1 : Int) := of_decide_eq_true as1
  have q185 : a1_1 < (l0_0.length : Int) := of_decide_eq_true as1
  obtain ⟨ad185, A185_2, c185_2, e185, hx185_0, hx185_1, hx185_2, hl185_2, hi185_2⟩ := at_T100 HR0_0.out a1_1 p185 q185
  cases e185
  replace hx185_0 := cl HB hx185_0
  replace hx185_1 := cl HB hx185_1
  replace hx185_2 := cl HB hx185_2
  have HR185_2 := am hi185_2
  have HC185_2 := am hl185_2
  clear hi185_2 hl185_2
  replace p185 := eq_true p185
  replace q185 := eq_true q185
  go_wp2
  go_ret
  exact ⟨er, bw HB⟩
 intro c16 c16b0 c16b1 H
 refine be H ?_; clear H; intro t186 A29 H
 have HC30 := am H
 clear H
 have hnb31 := NB183_182.out
 have hnc31 := NB182_183.out
 have hcz32 := bK wc BK183
 have hfz32 := bF BK183
 go_upto_if 40 with (first | ((with_reducible refine gate_callee (f := 169) rfl ?_); refine goesL_ (some 43) rfl rfl Try.func169 (by kernel_rfl) rfl #[.int .i64 a1_0] rfl gl ?_; (with_reducible refine (spec_l03Unary.calls a1_0 t186 _ A29.out).mono ?_); rintro e w' ⟨rfl, ⟨nd, rfl⟩⟩; refine ⟨_, rfl, ?_⟩))
 (try simp only [Act.put, sa, sz, ss])
 (try simp only [World.drewN_drewN])
 generalize hq_ : World.drewN wc _ = w33
 replace BK182 : Aside0 (w33.heap[gb182]? = some (.cells #[.slice A0_0 l0_0.length c0_0] 30 (0, 0))) := ⟨by rw [← hq_]; exact (bp BK182)⟩
 replace BK183 : Aside0 (w33.heap[gb183]? = some (.cells #[.int .i64 a1_0, .int .i64 a1_1] 102 (0, 0))) := ⟨by rw [← hq_]; exact (bp BK183)⟩
 replace HB : Aside0 (Below w.heap.size w w33) := ⟨by rw [← hq_]; exact (bw HB)⟩
 clear hq_
 have H := HC30.out
 clear HC30
 refine qT H ?_ ?_ <;> clear H <;> intro c34 H <;> subst c34
 ·obtain rfl := Option.some.inj H
  go_wp2
  go_ret
  exact ⟨er, bw HB⟩
 have HC35 := am H
 clear H
 have hnb36 := NB183_182.out
 have hnc36 := NB182_183.out
 have hcz37 := bK w33 BK183
 have hfz37 := bF BK183
 go_upto_if 46 with (fail)
 go_cut [46] (fun v46 wc => ∃ (kq : Nat) (x46_34 : Bool), v46 = .bool x46_34 ∧ Aside0 (spec_Takes.j1 kq x46_34 = some r) ∧ Aside0 (kq ≤ kj2) ∧ Aside0 (wc.heap[gb182]? = some (.cells #[(.slice A0_0 l0_0.length c0_0)] 30 (0, 0))) ∧ Aside0 (wc.heap[gb183]? = some (.cells #[.int .i64 a1_0, .int .i64 a1_1] 102 (0, 0))) ∧ Aside0 (Below w.heap.size w wc))
 case first =>
  have H := HC35.out
  clear HC35
  refine qE H ?_ ?_ <;> clear H
  ·intro c38b0 c38b1 H
   (first | rw [c38b0] | (simp only [i64_w, i32_w]; rw [c38b0]) | skip)
   have H' := am H
   clear H
   go_wp2
   go_meet
   case rel => exact ⟨_, ((a1_0 == 3)), dr, H', ⟨lk1 HJ2⟩, ⟨bp BK182⟩, ⟨bp BK183⟩, ⟨bw HB⟩⟩
  intro c38 c38b0 c38b1 H
  (first | rw [c38b0] | (simp only [i64_w, i32_w]; rw [c38b0]) | skip)
  refine qE H ?_ ?_ <;> clear H
  ·intro c39b0 c39b1 H
   have H' := am H
   clear H
   go_wp2
   go_meet
   case rel => exact ⟨_, ((a1_0 == 4)), dr, H', ⟨lk1 HJ2⟩, ⟨bp BK182⟩, ⟨bp BK183⟩, ⟨bw HB⟩⟩
  intro c39 c39b0 c39b1 H
  refine qE H ?_ ?_ <;> clear H
  ·intro c40b0 c40b1 H
   have H' := am H
   clear H
   go_wp2
   go_meet
   case rel => exact ⟨_, ((a1_0 == 5)), dr, H', ⟨lk1 HJ2⟩, ⟨bp BK182⟩, ⟨bp BK183⟩, ⟨bw HB⟩⟩
  intro c40 c40b0 c40b1 H
  refine qE H ?_ ?_ <;> clear H
  ·intro c41b0 c41b1 H
   have H' := am H
   clear H
   go_wp2
   go_meet
   case rel => exact ⟨_, ((a1_0 == 31)), dr, H', ⟨lk1 HJ2⟩, ⟨bp BK182⟩, ⟨bp BK183⟩, ⟨bw HB⟩⟩
  intro c41 c41b0 c41b1 H
  refine qE H ?_ ?_ <;> clear H
  ·intro c42b0 c42b1 H
   have H' := am H
   clear H
   go_wp2
   go_meet
   case rel => exact ⟨_, ((a1_0 == 33)), dr, H', ⟨lk1 HJ2⟩, ⟨bp BK182⟩, ⟨bp BK183⟩, ⟨bw HB⟩⟩
  intro c42 c42b0 c42b1 H
  refine qE H ?_ ?_ <;> clear H
  ·intro c43b0 c43b1 H
   have H' := am H
   clear H
   go_wp2
   go_meet
   case rel => exact ⟨_, ((a1_0 == 34)), dr, H', ⟨lk1 HJ2⟩, ⟨bp BK182⟩, ⟨bp BK183⟩, ⟨bw HB⟩⟩
  intro c43 c43b0 c43b1 H
  refine qE H ?_ ?_ <;> clear H
  ·intro c44b0 c44b1 H
   have H' := am H
   clear H
   go_wp2
   go_meet
   case rel => exact ⟨_, ((a1_0 == 37)), dr, H', ⟨lk1 HJ2⟩, ⟨bp BK182⟩, ⟨bp BK183⟩, ⟨bw HB⟩⟩
  intro c44 c44b0 c44b1 H
  have H' := am H
  clear H
  go_wp2
  go_meet
  case rel => exact ⟨_, ((a1_0 == 38)), dr, H', ⟨lk1 HJ2⟩, ⟨bp BK182⟩, ⟨bp BK183⟩, ⟨bw HB⟩⟩
 clear HC35
 (try clear p1); (try clear q1); (try clear hx1); (try clear c2); (try clear c3); (try clear c4); (try clear c12); (try clear c13); (try clear c13b0); (try clear c13b1); (try clear c14); (try clear c16); (try clear c16b0); (try clear c16b1); (try clear c17); (try clear c17b0); (try clear c18); (try clear p18); (try clear q18); (try clear hx18); (try clear c20); (try clear c20b0); (try clear c21); (try clear c24); (try clear c24b0); (try clear c25); (try clear c25b0); (try clear c26); (try clear c31); (try clear c34); (try clear c36); (try clear c38); (try clear c38b0); (try clear c38b1); (try clear c39); (try clear c39b0); (try clear c39b1); (try clear c40); (try clear c40b0); (try clear c40b1); (try clear c41); (try clear c41b0); (try clear c41b1); (try clear c42); (try clear c42b0); (try clear c42b1); (try clear c43); (try clear c43b0); (try clear c43b1); (try clear c44); (try clear c44b0); (try clear c44b1); (try clear hcz15); (try clear hcz19); (try clear hcz22); (try clear hcz23); (try clear hcz27); (try clear hcz28); (try clear hcz32); (try clear hcz37); (try clear hfz15); (try clear hfz19); (try clear hfz22); (try clear hfz23); (try clear hfz27); (try clear hfz28); (try clear hfz32); (try clear hfz37); (try clear hx185_0); (try clear hx185_1); (try clear hx185_2); (try clear p185); (try clear q185)
 obtain ⟨kq, x46_34, rfl, HA, HJ34, BK182, BK183, HB⟩ := hcut
 rcases kq with _ | kj34
 ·exact absurd HA.out (by simp [spec_Takes.j1])
 have H := HA.out
 clear HA
 simp only [spec_Takes.j1] at H
 refine qT H ?_ ?_ <;> clear H <;> intro c45 H <;> subst c45
 ·obtain rfl := Option.some.inj H
  go_wp2
  go_ret
  exact ⟨er, bw HB⟩
 obtain rfl := Option.some.inj H
 go_wp2
 go_ret
 exact ⟨er, bw HB⟩

end Go.Proofs.Ytbmjmaahcaoajaa.QFnExactStateRight
