import Derived.Test.YtbmjmaahcaoajaaCFnExactFileBytesx0
import Derived.Test.YtbmjmaahcaoajaaCFnExactFileBytesx2
namespace Go.Proofs.Ytbmjmaahcaoajaa.QFnExactFileBytes
open Go.RowKit Go.Proofs.YtbmjmaahcaoajaaW
open PrintWords PrintLast PrintMore PrintShort
attribute [local go_sem] max2_int min2_int max_two min_two max_three min_three max_four min_four   -- for this text's walks alone
set_option linter.unusedVariables false
set_option maxHeartbeats 8000000
set_option maxRecDepth 100000
set_option linter.unusedSimpArgs false

def laws_eqProgram.f (k : Nat) (l0_0 : List (S100)) (l1_0 : List (S100)) : Option (Bool) := (laws_eqFuncS.f k l0_0 l1_0).bind fun t152 => (if t152 = true then (some true) else (some false))
theorem laws_eqProgram.mono : ∀ a0 a1 k, LeO (laws_eqProgram.f k a0 a1) (laws_eqProgram.f (k + 1) a0 a1) := by
 intro a0 a1 k
 unfold laws_eqProgram.f
 repeat' first
   | (with_reducible exact laws_eqFuncS.mono _ _ _)
   | (with_reducible exact LeO.refl _)
   | (with_reducible exact LeO.none _)
   | (with_reducible refine LeO.ite ?_ ?_)
   | (with_reducible refine LeO.bind ?_ (fun _ => ?_))
theorem laws_eqProgram.calls (k : Nat) (A0_0 : Option Addr) (c0_0 : Nat) (l0_0 : List (S100)) (A1_0 : Option Addr) (c1_0 : Nat) (l1_0 : List (S100)) (r : Bool) (w : World) (hr0_0 : Kd.C k100 w A0_0 l0_0.length l0_0) (hc0_0 : l0_0.length ≤ c0_0) (hr1_0 : Kd.C k100 w A1_0 l1_0.length l1_0) (hc1_0 : l1_0.length ≤ c1_0) (h : laws_eqProgram.f k l0_0 l1_0 = some r) :
  Calls Try.prog 19 #[.agg #[.slice A0_0 l0_0.length c0_0], .agg #[.slice A1_0 l1_0.length c1_0]] w fun e w' => e = .returned (.bool r) ∧ Below w.heap.size w w' := by
 have hu30 := Try.underlying30
 have HR0_0 := am hr0_0
 have HC0_0 := am hc0_0
 clear hr0_0 hc0_0
 have HR1_0 := am hr1_0
 have HC1_0 := am hc1_0
 clear hr1_0 hc1_0
 have HB := am (Below.refl w.heap.size w)
 have H : ((laws_eqFuncS.f k l0_0 l1_0).bind fun t152 => (if t152 = true then (some true) else (some false))) = some r := h
 clear h
 replace H := Option.bind_eq_some_iff.mp H
 obtain ⟨t152, A30, H⟩ := H
 replace H : (if t152 = true then (some true) else (some false)) = some r := H
 have A3 := am A30
 clear A30
 by_cases c4 : t152 = true
 ·subst c4
  have H1 : (some true) = some r := by rw [if_pos rfl] at H; exact H
  clear H
  have H := H1
  clear H1
  obtain rfl := Option.some.inj H
  go_enter Try.func19, Try.ntmps19
  go_wp2_with (first | ((with_reducible refine gate_dst (N := 2) rfl ?_); refine box_event ?hg (N := 2) ?hd (cs := #[.slice A0_0 l0_0.length c0_0]) (t := 30) ?hr ?_; (case hd => rfl); (case hg => rfl); (case hr => exact gs); intro gb150 hg w5 hbox hb; have BK150 := am (hbox); have GW150 := am ((by rw [hg]; exact (below_size (bw HB)) : w.heap.size ≤ gb150)); have GE150 := am ((by rw [hg]; exact (below_size (bw HB)) : w.heap.size ≤ gb150)); replace HB := am (below_step (bw HB) hb); clear hb hbox hg) | ((with_reducible refine gate_dst (N := 3) rfl ?_); refine box_event ?hg (N := 3) ?hd (cs := #[.slice A1_0 l1_0.length c1_0]) (t := 30) ?hr ?_; (case hd => rfl); (case hg => rfl); (case hr => exact gs); intro gb151 hg w6 hbox hb; have BK151 := am (hbox); have GW151 := am ((by rw [hg]; exact (below_size (bw HB)) : w.heap.size ≤ gb151)); have GE151 := am ((by rw [hg]; exact (below_size (bw HB)) : w.heap.size ≤ gb151)); replace HB := am (below_step (bw HB) hb); have NB150_151 := am ((by rw [hg]; exact Nat.ne_of_lt (blk_lt (g := gb150) (o := .cells #[.slice A0_0 l0_0.length c0_0] 30 (0, 0)) (bp BK150)) : gb150 ≠ gb151)); have NB151_150 := am ((by rw [hg]; exact Nat.ne_of_gt (blk_lt (g := gb150) (o := .cells #[.slice A0_0 l0_0.length c0_0] 30 (0, 0)) (bp BK150)) : gb151 ≠ gb150)); replace BK150 := am (blk_below (g := gb150) (o := .cells #[.slice A0_0 l0_0.length c0_0] 30 (0, 0)) (bp BK150) hb); clear hb hbox hg; have hnb7 := NB150_151.out; have hnc7 := NB151_150.out; have hcz8_0 : w6.cell? ⟨gb150, 0, none⟩ = some (.slice A0_0 l0_0.length c0_0) := bc BK150 0; have hfz8_0 := bf BK150 0; have hcz9_0 : w6.cell? ⟨gb151, 0, none⟩ = some (.slice A1_0 l1_0.length c1_0) := bc BK151 0; have hfz9_0 := bf BK151 0) | ((with_reducible refine gate_callee (f := 61) rfl ?_); refine goesL_ (some 9) rfl rfl Try.func61 (by kernel_rfl) rfl #[.slice A0_0 l0_0.length c0_0, .slice A1_0 l1_0.length c1_0] rfl gl ?_; (with_reducible refine (laws_eqFuncS.calls k _ _ l0_0 _ _ l1_0 true _ ?side1 ?side2 ?side3 ?side4 A3.out).mono ?_); (case side1 => exact cc (Kd.C_below HR0_0.out HB.out)); (case side2 => exact HC0_0.out); (case side3 => exact cc (Kd.C_below HR1_0.out HB.out)); (case side4 => exact HC1_0.out); rintro e w10 ⟨rfl, hb⟩; refine ⟨_, rfl, ?_⟩; replace BK150 := am (blk_below (g := gb150) (o := .cells #[.slice A0_0 l0_0.length c0_0] 30 (0, 0)) (bp BK150) hb); replace BK151 := am (blk_below (g := gb151) (o := .cells #[.slice A1_0 l1_0.length c1_0] 30 (0, 0)) (bp BK151) hb); replace HB := am (below_step (bw HB) hb); (try clear hb); (try clear hb2); (try clear hk); (try clear hi)))
  go_ret
  exact ⟨er, bw HB⟩
 ·replace c4 := Bool.eq_false_iff.mpr c4
  subst c4
  have H1 : (some false) = some r := by rw [if_neg (show ¬ (false = true) by decide)] at H; exact H
  clear H
  have H := H1
  clear H1
  obtain rfl := Option.some.inj H
  go_enter Try.func19, Try.ntmps19
  go_wp2_with (first | ((with_reducible refine gate_dst (N := 2) rfl ?_); refine box_event ?hg (N := 2) ?hd (cs := #[.slice A0_0 l0_0.length c0_0]) (t := 30) ?hr ?_; (case hd => rfl); (case hg => rfl); (case hr => exact gs); intro gb150 hg w11 hbox hb; have BK150 := am (hbox); have GW150 := am ((by rw [hg]; exact (below_size (bw HB)) : w.heap.size ≤ gb150)); have GE150 := am ((by rw [hg]; exact (below_size (bw HB)) : w.heap.size ≤ gb150)); replace HB := am (below_step (bw HB) hb); clear hb hbox hg) | ((with_reducible refine gate_dst (N := 3) rfl ?_); refine box_event ?hg (N := 3) ?hd (cs := #[.slice A1_0 l1_0.length c1_0]) (t := 30) ?hr ?_; (case hd => rfl); (case hg => rfl); (case hr => exact gs); intro gb151 hg w12 hbox hb; have BK151 := am (hbox); have GW151 := am ((by rw [hg]; exact (below_size (bw HB)) : w.heap.size ≤ gb151)); have GE151 := am ((by rw [hg]; exact (below_size (bw HB)) : w.heap.size ≤ gb151)); replace HB := am (below_step (bw HB) hb); have NB150_151 := am ((by rw [hg]; exact Nat.ne_of_lt (blk_lt (g := gb150) (o := .cells #[.slice A0_0 l0_0.length c0_0] 30 (0, 0)) (bp BK150)) : gb150 ≠ gb151)); have NB151_150 := am ((by rw [hg]; exact Nat.ne_of_gt (blk_lt (g := gb150) (o := .cells #[.slice A0_0 l0_0.length c0_0] 30 (0, 0)) (bp BK150)) : gb151 ≠ gb150)); replace BK150 := am (blk_below (g := gb150) (o := .cells #[.slice A0_0 l0_0.length c0_0] 30 (0, 0)) (bp BK150) hb); clear hb hbox hg; have hnb13 := NB150_151.out; have hnc13 := NB151_150.out; have hcz14_0 : w12.cell? ⟨gb150, 0, none⟩ = some (.slice A0_0 l0_0.length c0_0) := bc BK150 0; have hfz14_0 := bf BK150 0; have hcz15_0 : w12.cell? ⟨gb151, 0, none⟩ = some (.slice A1_0 l1_0.length c1_0) := bc BK151 0; have hfz15_0 := bf BK151 0) | ((with_reducible refine gate_callee (f := 61) rfl ?_); refine goesL_ (some 9) rfl rfl Try.func61 (by kernel_rfl) rfl #[.slice A0_0 l0_0.length c0_0, .slice A1_0 l1_0.length c1_0] rfl gl ?_; (with_reducible refine (laws_eqFuncS.calls k _ _ l0_0 _ _ l1_0 false _ ?side1 ?side2 ?side3 ?side4 A3.out).mono ?_); (case side1 => exact cc (Kd.C_below HR0_0.out HB.out)); (case side2 => exact HC0_0.out); (case side3 => exact cc (Kd.C_below HR1_0.out HB.out)); (case side4 => exact HC1_0.out); rintro e w16 ⟨rfl, hb⟩; refine ⟨_, rfl, ?_⟩; replace BK150 := am (blk_below (g := gb150) (o := .cells #[.slice A0_0 l0_0.length c0_0] 30 (0, 0)) (bp BK150) hb); replace BK151 := am (blk_below (g := gb151) (o := .cells #[.slice A1_0 l1_0.length c1_0] 30 (0, 0)) (bp BK151) hb); replace HB := am (below_step (bw HB) hb); (try clear hb); (try clear hb2); (try clear hk); (try clear hi)))
  go_ret
  exact ⟨er, bw HB⟩

def spec_l04Least.l0 : Nat → List Bool → Int → Option (Int)
 | 0, _, _ => none
 | k + 1, x0, x3 => if x3 < (x0.length : Int) then (if 0 ≤ x3 then (if rdOf false x0 x3 = true then (some x3) else (spec_l04Least.l0 k x0 (wrap64 (x3 + 1)))) else (none)) else (some (-1))
def spec_l04Least.f (k : Nat) (l0 : List Bool) : Option (Int) := spec_l04Least.l0 k l0 0
theorem spec_l04Least.mono_l : ∀ k, (∀ y0 y1, LeO (spec_l04Least.l0 k y0 y1) (spec_l04Least.l0 (k + 1) y0 y1))
 | 0 => fun _ _ r h => by simp [spec_l04Least.l0] at h
 | k + 1 => by
  have ih0 := spec_l04Least.mono_l k
  ·intro y0 y1
   unfold spec_l04Least.l0
   repeat' first
   | (with_reducible exact ih0 _ _)
   | (with_reducible exact LeO.refl _)
   | (with_reducible exact LeO.none _)
   | (with_reducible refine LeO.ite ?_ ?_)
   | (with_reducible refine LeO.bind ?_ (fun _ => ?_))
theorem spec_l04Least.mono : ∀ a0 k, LeO (spec_l04Least.f k a0) (spec_l04Least.f (k + 1) a0) := by
 intro a0 k
 have ih0 := spec_l04Least.mono_l k
 unfold spec_l04Least.f
 repeat' first
   | (with_reducible exact ih0 _ _)
   | (with_reducible exact LeO.refl _)
   | (with_reducible exact LeO.none _)
   | (with_reducible refine LeO.ite ?_ ?_)
   | (with_reducible refine LeO.bind ?_ (fun _ => ?_))
theorem spec_l04Least.calls (k : Nat) (A0 : Option Addr) (c0 : Nat) (l0 : List Bool) (r : Int) (w : World) (hr0 : Kd.C Kd.bool w A0 l0.length l0) (hc0 : l0.length ≤ c0) (h : spec_l04Least.f k l0 = some r) :
  Calls Try.prog 117 #[.slice A0 l0.length c0] w fun e w' => e = .returned (.int .i64 r) ∧ Drawn0 w w' := by
 have HR0 := am hr0
 have HC0 := am hc0
 clear hr0 hc0
 have H : (spec_l04Least.l0 k l0 0) = some r := h
 clear h
 have H' := am H
 clear H
 go_enter Try.func117, Try.ntmps117
 go_wp2
 go_loopg [3] k (fun kq v3 w' => ∃ (x3_1 : Int), v3 = .int .i64 x3_1 ∧ Aside0 (spec_l04Least.l0 kq l0 x3_1 = some r) ∧ Aside0 (kq ≤ k) ∧ Drawn0 w w')
 case atStart => exact ⟨(0), dr, H', ⟨Nat.le_refl _⟩, by repeat (first | exact Drawn0.refl _ | apply Drawn0.step)⟩
 case round =>
  clear H'
  try clear c1
  obtain ⟨x3_1, rfl, HA, HK1, ⟨m1, rfl⟩⟩ := hrel
  cases gk with
  | zero => exact absurd HA.out (by simp [spec_l04Least.l0])
  | succ k1 =>
   have H := HA.out
   clear HA
   simp only [spec_l04Least.l0] at H
   by_cases c2 : x3_1 < (l0.length : Int)
   ·rw [if_pos c2] at H
    have c2b0 := decide_eq_true c2
    clear c2
    by_cases c3 : 0 ≤ x3_1
    ·rw [if_pos c3] at H
     have c3b0 := decide_eq_true c3
     clear c3
     obtain ⟨bq4, hbq4⟩ : ∃ b_ : Bool, b_ = (rdOf false l0 x3_1) := ⟨_, rfl⟩
     replace H : (if bq4 = true then (some x3_1) else (spec_l04Least.l0 k1 l0 (wrap64 (x3_1 + 1)))) = some r := by rw [← hbq4] at H; exact H
     have Nbq4 := am hbq4
     clear hbq4
     by_cases c5 : bq4 = true
     ·subst c5
      have H1 : (some x3_1) = some r := by rw [if_pos rfl] at H; exact H
      clear H
      have H := H1
      clear H1
      obtain rfl := Option.some.inj H
      have p153 : 0 ≤ (x3_1 : Int) := of_decide_eq_true as1
      have q153 : x3_1 < (l0.length : Int) := of_decide_eq_true as1
      obtain ⟨ad153, e153, hx153_0⟩ := Kd.at_bool HR0.out x3_1 p153 q153
      (try rw [← Nbq4.out] at hx153_0)
      cases e153
      replace p153 := eq_true p153
      replace q153 := eq_true q153
      go_wp2
      go_ret
      exact ⟨by first | rfl | (simp; done) | (simp [*]; done), by repeat (first | exact Drawn0.refl _ | apply Drawn0.step)⟩
     ·replace c5 := Bool.eq_false_iff.mpr c5
      subst c5
      have H1 : (spec_l04Least.l0 k1 l0 (wrap64 (x3_1 + 1))) = some r := by rw [if_neg (show ¬ (false = true) by decide)] at H; exact H
      clear H
      have H := H1
      clear H1
      have H' := am H
      clear H
      have p153 : 0 ≤ (x3_1 : Int) := of_decide_eq_true as1
      have q153 : x3_1 < (l0.length : Int) := of_decide_eq_true as1
      obtain ⟨ad153, e153, hx153_0⟩ := Kd.at_bool HR0.out x3_1 p153 q153
      (try rw [← Nbq4.out] at hx153_0)
      cases e153
      replace p153 := eq_true p153
      replace q153 := eq_true q153
      go_wp2
      go_roundg k1
      case measure => have := HK1.out; omega
      case rel => exact ⟨(wrap64 (x3_1 + 1)), dr, H', ⟨by have := HK1.out; omega⟩, by repeat (first | exact Drawn0.refl _ | apply Drawn0.step)⟩
    ·rw [if_neg c3] at H
     exact absurd H (by simp)
   ·rw [if_neg c2] at H
    have c2b0 := decide_eq_false c2
    clear c2
    obtain rfl := Option.some.inj H
    go_wp2
    go_ret
    exact ⟨by first | rfl | (simp; done) | (simp [*]; done), by repeat (first | exact Drawn0.refl _ | apply Drawn0.step)⟩

def spec_l03Binary.f (a0 : Int) : Option (Bool) := if a0 ≥ 10 then (some (decide (a0 ≤ 23))) else (some false)
theorem spec_l03Binary.calls (a0 : Int) (r : Bool) (w : World) (h : spec_l03Binary.f a0 = some r) :
  Calls Try.prog 168 #[.int .i64 a0] w fun e w' => e = .returned (.bool r) ∧ Drawn0 w w' := by
 have H : (if a0 ≥ 10 then (some (decide (a0 ≤ 23))) else (some false)) = some r := h
 clear h
 by_cases c2 : a0 ≥ 10
 ·rw [if_pos c2] at H
  have c2b0 : decide (10 ≤ a0) = true := decide_eq_true c2
  clear c2
  obtain rfl := Option.some.inj H
  go_enter Try.func168, Try.ntmps168
  go_wp2
  go_ret
  exact ⟨by first | rfl | (simp; done) | (simp [*]; done), by repeat (first | exact Drawn0.refl _ | apply Drawn0.step)⟩
 ·rw [if_neg c2] at H
  have c2b0 : decide (10 ≤ a0) = false := decide_eq_false c2
  clear c2
  obtain rfl := Option.some.inj H
  go_enter Try.func168, Try.ntmps168
  go_wp2
  go_ret
  exact ⟨by first | rfl | (simp; done) | (simp [*]; done), by repeat (first | exact Drawn0.refl _ | apply Drawn0.step)⟩

def spec_l03Unary.f (a0 : Int) : Option (Bool) := if a0 ≥ 24 then (some (decide (a0 ≤ 29))) else (some false)
theorem spec_l03Unary.calls (a0 : Int) (r : Bool) (w : World) (h : spec_l03Unary.f a0 = some r) :
  Calls Try.prog 169 #[.int .i64 a0] w fun e w' => e = .returned (.bool r) ∧ Drawn0 w w' := by
 have H : (if a0 ≥ 24 then (some (decide (a0 ≤ 29))) else (some false)) = some r := h
 clear h
 by_cases c2 : a0 ≥ 24
 ·rw [if_pos c2] at H
  have c2b0 : decide (24 ≤ a0) = true := decide_eq_true c2
  clear c2
  obtain rfl := Option.some.inj H
  go_enter Try.func169, Try.ntmps169
  go_wp2
  go_ret
  exact ⟨by first | rfl | (simp; done) | (simp [*]; done), by repeat (first | exact Drawn0.refl _ | apply Drawn0.step)⟩
 ·rw [if_neg c2] at H
  have c2b0 : decide (24 ≤ a0) = false := decide_eq_false c2
  clear c2
  obtain rfl := Option.some.inj H
  go_enter Try.func169, Try.ntmps169
  go_wp2
  go_ret
  exact ⟨by first | rfl | (simp; done) | (simp [*]; done), by repeat (first | exact Drawn0.refl _ | apply Drawn0.step)⟩

mutual
def spec_Takes.j0 : Nat → Bool → List (S100) → Int → Int → Option (Int)
 | 0, _, _, _, _ => none
 | k + 1, x5, x155000, x156000, x156001 => if x5 = true then (some 2) else (if x156000 = 36 then (some 3) else (if x156000 = 32 then (if x156001 < 0 then (some 0) else (if x156001 ≥ (x155000.length : Int) then (some 0) else (if 0 ≤ x156001 then (if x156001 < (x155000.length : Int) then (some ((rd_T100 x155000 x156001).f0)) else (none)) else (none)))) else ((spec_l03Unary.f x156000).bind fun t158 => (if t158 = true then (some 1) else (if x156000 = 3 then (spec_Takes.j1 k (x156000 == 3)) else (if x156000 = 4 then (spec_Takes.j1 k (x156000 == 4)) else (if x156000 = 5 then (spec_Takes.j1 k (x156000 == 5)) else (if x156000 = 31 then (spec_Takes.j1 k (x156000 == 31)) else (if x156000 = 33 then (spec_Takes.j1 k (x156000 == 33)) else (if x156000 = 34 then (spec_Takes.j1 k (x156000 == 34)) else (if x156000 = 37 then (spec_Takes.j1 k (x156000 == 37)) else (spec_Takes.j1 k (x156000 == 38)))))))))))))
def spec_Takes.j1 : Nat → Bool → Option (Int)
 | 0, _ => none
 | k + 1, x46 => if x46 = true then (some 1) else (some 0)
end
def spec_Takes.f (k : Nat) (l0_0 : List (S100)) (a1_0 : Int) (a1_1 : Int) : Option (Int) := (spec_l03Binary.f a1_0).bind fun t156 => (if t156 = true then (spec_Takes.j0 k true l0_0 a1_0 a1_1) else (spec_Takes.j0 k (a1_0 == 35) l0_0 a1_0 a1_1))
theorem spec_Takes.mono_l : ∀ k, (∀ y0 y1 y2 y3, LeO (spec_Takes.j0 k y0 y1 y2 y3) (spec_Takes.j0 (k + 1) y0 y1 y2 y3)) ∧ (∀ y0, LeO (spec_Takes.j1 k y0) (spec_Takes.j1 (k + 1) y0))
 | 0 => ⟨fun _ _ _ _ r h => by simp [spec_Takes.j0] at h, fun _ r h => by simp [spec_Takes.j1] at h⟩
 | k + 1 => by
  obtain ⟨ih0, ih1⟩ := spec_Takes.mono_l k
  refine ⟨?_, ?_⟩
  ·intro y0 y1 y2 y3
   unfold spec_Takes.j0
   repeat' first
   | (with_reducible exact ih0 _ _ _ _)
   | (with_reducible exact ih1 _)
   | (with_reducible exact LeO.refl _)
   | (with_reducible exact LeO.none _)
   | (with_reducible refine LeO.ite ?_ ?_)
   | (with_reducible refine LeO.bind ?_ (fun _ => ?_))
  ·intro y0
   unfold spec_Takes.j1
   repeat' first
   | (with_reducible exact ih0 _ _ _ _)
   | (with_reducible exact ih1 _)
   | (with_reducible exact LeO.refl _)
   | (with_reducible exact LeO.none _)
   | (with_reducible refine LeO.ite ?_ ?_)
   | (with_reducible refine LeO.bind ?_ (fun _ => ?_))
theorem spec_Takes.mono : ∀ a0 a1 a2 k, LeO (spec_Takes.f k a0 a1 a2) (spec_Takes.f (k + 1) a0 a1 a2) := by
 intro a0 a1 a2 k
 obtain ⟨ih0, ih1⟩ := spec_Takes.mono_l k
 unfold spec_Takes.f
 repeat' first
   | (with_reducible exact ih0 _ _ _ _)
   | (with_reducible exact ih1 _)
   | (with_reducible exact LeO.refl _)
   | (with_reducible exact LeO.none _)
   | (with_reducible refine LeO.ite ?_ ?_)
   | (with_reducible refine LeO.bind ?_ (fun _ => ?_))
theorem spec_Takes.calls (k : Nat) (A0_0 : Option Addr) (c0_0 : Nat) (l0_0 : List (S100)) (a1_0 : Int) (a1_1 : Int) (r : Int) (w : World) (hr0_0 : Kd.C k100 w A0_0 l0_0.length l0_0) (hc0_0 : l0_0.length ≤ c0_0) (h : spec_Takes.f k l0_0 a1_0 a1_1 = some r) :
  Calls Try.prog 118 #[.agg #[.slice A0_0 l0_0.length c0_0], .agg #[.int .i64 a1_0, .int .i64 a1_1]] w fun e w' => e = .returned (.int .i64 r) ∧ Below w.heap.size w w' := by
 have hu30 := Try.underlying30
 have hu102 := Try.underlying102
 have HR0_0 := am hr0_0
 have HC0_0 := am hc0_0
 clear hr0_0 hc0_0
 have HB := am (Below.refl w.heap.size w)
 have H : ((spec_l03Binary.f a1_0).bind fun t156 => (if t156 = true then (spec_Takes.j0 k true l0_0 a1_0 a1_1) else (spec_Takes.j0 k (a1_0 == 35) l0_0 a1_0 a1_1))) = some r := h
 clear h
 have HC3 := am H
 clear H
 go_enter Try.func118, Try.ntmps118
 go_upto_region 1 with (first | ((with_reducible refine gate_dst (N := 2) rfl ?_); (try (refine gate_guard (by rfl) ?_; dsimp only)); refine box_event ?hg (N := 2) ?hd (cs := #[.slice A0_0 l0_0.length c0_0]) (t := 30) ?hr ?_; (case hd => rfl); (case hg => rfl); (case hr => exact gs); intro gb154 hg w4 hbox hb; have BK154 := am (hbox); have GW154 := am ((by rw [hg]; exact (below_size (bw HB)) : w.heap.size ≤ gb154)); have GE154 := am ((by rw [hg]; exact (below_size (bw HB)) : w.heap.size ≤ gb154)); replace HB := am (below_step (bw HB) hb); clear hb hbox hg) | ((with_reducible refine gate_dst (N := 3) rfl ?_); (try (refine gate_guard (by rfl) ?_; dsimp only)); refine box_event ?hg (N := 3) ?hd (cs := #[.int .i64 a1_0, .int .i64 a1_1]) (t := 102) ?hr ?_; (case hd => rfl); (case hg => rfl); (case hr => exact gs); intro gb155 hg w5 hbox hb; have BK155 := am (hbox); have GW155 := am ((by rw [hg]; exact (below_size (bw HB)) : w.heap.size ≤ gb155)); have GE155 := am ((by rw [hg]; exact (below_size (bw HB)) : w.heap.size ≤ gb155)); replace HB := am (below_step (bw HB) hb); have NB154_155 := am ((by rw [hg]; exact Nat.ne_of_lt (blk_lt (g := gb154) (o := .cells #[.slice A0_0 l0_0.length c0_0] 30 (0, 0)) (bp BK154)) : gb154 ≠ gb155)); have NB155_154 := am ((by rw [hg]; exact Nat.ne_of_gt (blk_lt (g := gb154) (o := .cells #[.slice A0_0 l0_0.length c0_0] 30 (0, 0)) (bp BK154)) : gb155 ≠ gb154)); replace BK154 := am (blk_below (g := gb154) (o := .cells #[.slice A0_0 l0_0.length c0_0] 30 (0, 0)) (bp BK154) hb); clear hb hbox hg))
 (try simp only [Act.put, sa, sz, ss])
 go_cut [5] (fun v5 wc => ∃ (kq : Nat) (x5_2 : Bool), v5 = .bool x5_2 ∧ Aside0 (spec_Takes.j0 kq x5_2 l0_0 a1_0 a1_1 = some r) ∧ Aside0 (kq ≤ k) ∧ Aside0 (wc.heap[gb154]? = some (.cells #[(.slice A0_0 l0_0.length c0_0)] 30 (0, 0))) ∧ Aside0 (wc.heap[gb155]? = some (.cells #[.int .i64 a1_0, .int .i64 a1_1] 102 (0, 0))) ∧ Aside0 (Below w.heap.size w wc))
 case first =>
  have H := HC3.out
  clear HC3
  replace H := Option.bind_eq_some_iff.mp H
  obtain ⟨t156, A60, H⟩ := H
  replace H : (if t156 = true then (spec_Takes.j0 k true l0_0 a1_0 a1_1) else (spec_Takes.j0 k (a1_0 == 35) l0_0 a1_0 a1_1)) = some r := H
  have A6 := am A60
  clear A60
  by_cases c7 : t156 = true
  ·subst c7
   have H1 : (spec_Takes.j0 k true l0_0 a1_0 a1_1) = some r := by rw [if_pos rfl] at H; exact H
   clear H
   have H := H1
   clear H1
   have H' := am H
   clear H
   have hnb8 := NB155_154.out
   have hnc8 := NB154_155.out
   have hcz9_0 : w5.cell? ⟨gb155, 0, none⟩ = some (.int .i64 a1_0) := bc BK155 0
   have hcz9_1 : w5.cell? ⟨gb155, 1, none⟩ = some (.int .i64 a1_1) := bc BK155 1
   have hfz9_0 := bf BK155 0
   have hfz9_1 := bf BK155 1
   go_wp2_with (first | ((with_reducible refine gate_callee (f := 168) rfl ?_); refine goesL_ (some 8) rfl rfl Try.func168 (by kernel_rfl) rfl #[.int .i64 a1_0] rfl gl ?_; (with_reducible refine (spec_l03Binary.calls a1_0 true _ A6.out).mono ?_); rintro e w' ⟨rfl, ⟨nd, rfl⟩⟩; refine ⟨_, rfl, ?_⟩))
   go_meet
   case rel => exact ⟨_, (true), dr, H', ⟨by first | omega | exact Nat.le_refl _⟩, ⟨bp BK154⟩, ⟨bp BK155⟩, ⟨bw HB⟩⟩
  ·replace c7 := Bool.eq_false_iff.mpr c7
   subst c7
   have H1 : (spec_Takes.j0 k (a1_0 == 35) l0_0 a1_0 a1_1) = some r := by rw [if_neg (show ¬ (false = true) by decide)] at H; exact H
   clear H
   have H := H1
   clear H1
   have H' := am H
   clear H
   have hnb10 := NB155_154.out
   have hnc10 := NB154_155.out
   have hcz11_0 : w5.cell? ⟨gb155, 0, none⟩ = some (.int .i64 a1_0) := bc BK155 0
   have hcz11_1 : w5.cell? ⟨gb155, 1, none⟩ = some (.int .i64 a1_1) := bc BK155 1
   have hfz11_0 := bf BK155 0
   have hfz11_1 := bf BK155 1
   go_wp2_with (first | ((with_reducible refine gate_callee (f := 168) rfl ?_); refine goesL_ (some 8) rfl rfl Try.func168 (by kernel_rfl) rfl #[.int .i64 a1_0] rfl gl ?_; (with_reducible refine (spec_l03Binary.calls a1_0 false _ A6.out).mono ?_); rintro e w' ⟨rfl, ⟨nd, rfl⟩⟩; refine ⟨_, rfl, ?_⟩))
   go_meet
   case rel => exact ⟨_, ((a1_0 == 35)), dr, H', ⟨by first | omega | exact Nat.le_refl _⟩, ⟨bp BK154⟩, ⟨bp BK155⟩, ⟨bw HB⟩⟩
 case rest =>
  clear HC3
  (try clear c1); (try clear p2); (try clear c7); (try clear c8); (try clear c10); (try clear c11); (try clear hcz11_0); (try clear hcz11_1); (try clear hcz9_0); (try clear hcz9_1); (try clear hfz11_0); (try clear hfz11_1); (try clear hfz9_0); (try clear hfz9_1)
  obtain ⟨kq, x5_2, rfl, HA, HJ2, BK154, BK155, HB⟩ := hcut
  cases kq with
  | zero => exact absurd HA.out (by simp [spec_Takes.j0])
  | succ kj2 =>
   have H := HA.out
   clear HA
   simp only [spec_Takes.j0] at H
   by_cases c12 : x5_2 = true
   ·subst c12
    have H1 : (some 2) = some r := by rw [if_pos rfl] at H; exact H
    clear H
    have H := H1
    clear H1
    obtain rfl := Option.some.inj H
    go_wp2
    go_ret
    exact ⟨er, bw HB⟩
   ·replace c12 := Bool.eq_false_iff.mpr c12
    subst c12
    have H1 : (if a1_0 = 36 then (some 3) else (if a1_0 = 32 then (if a1_1 < 0 then (some 0) else (if a1_1 ≥ (l0_0.length : Int) then (some 0) else (if 0 ≤ a1_1 then (if a1_1 < (l0_0.length : Int) then (some ((rd_T100 l0_0 a1_1).f0)) else (none)) else (none)))) else ((spec_l03Unary.f a1_0).bind fun t158 => (if t158 = true then (some 1) else (if a1_0 = 3 then (spec_Takes.j1 kj2 (a1_0 == 3)) else (if a1_0 = 4 then (spec_Takes.j1 kj2 (a1_0 == 4)) else (if a1_0 = 5 then (spec_Takes.j1 kj2 (a1_0 == 5)) else (if a1_0 = 31 then (spec_Takes.j1 kj2 (a1_0 == 31)) else (if a1_0 = 33 then (spec_Takes.j1 kj2 (a1_0 == 33)) else (if a1_0 = 34 then (spec_Takes.j1 kj2 (a1_0 == 34)) else (if a1_0 = 37 then (spec_Takes.j1 kj2 (a1_0 == 37)) else (spec_Takes.j1 kj2 (a1_0 == 38))))))))))))) = some r := by rw [if_neg (show ¬ (false = true) by decide)] at H; exact H
    clear H
    have H := H1
    clear H1
    by_cases c13 : a1_0 = 36
    ·rw [if_pos c13] at H
     have c13b0 : (a1_0 == 36) = true := beq_iff_eq.mpr c13
     have c13b1 : (a1_0 != 36) = false := bne_eq_false_iff_eq.mpr c13
     clear c13
     obtain rfl := Option.some.inj H
     have hnb14 := NB155_154.out
     have hnc14 := NB154_155.out
     have hcz15_0 : wc.cell? ⟨gb155, 0, none⟩ = some (.int .i64 a1_0) := bc BK155 0
     have hcz15_1 : wc.cell? ⟨gb155, 1, none⟩ = some (.int .i64 a1_1) := bc BK155 1
     have hfz15_0 := bf BK155 0
     have hfz15_1 := bf BK155 1
     go_wp2
     go_ret
     exact ⟨er, bw HB⟩
    ·rw [if_neg c13] at H
     have c13b0 : (a1_0 == 36) = false := beq_eq_false_iff_ne.mpr c13
     have c13b1 : (a1_0 != 36) = true := bne_iff_ne.mpr c13
     by_cases c16 : a1_0 = 32
     ·rw [if_pos c16] at H
      have c16b0 : (a1_0 == 32) = true := beq_iff_eq.mpr c16
      have c16b1 : (a1_0 != 32) = false := bne_eq_false_iff_eq.mpr c16
      clear c16
      by_cases c17 : a1_1 < 0
      ·rw [if_pos c17] at H
       have c17b0 := decide_eq_true c17
       clear c17
       obtain rfl := Option.some.inj H
       have hnb18 := NB155_154.out
       have hnc18 := NB154_155.out
       have hcz19_0 : wc.cell? ⟨gb155, 0, none⟩ = some (.int .i64 a1_0) := bc BK155 0
       have hcz19_1 : wc.cell? ⟨gb155, 1, none⟩ = some (.int .i64 a1_1) := bc BK155 1
       have hfz19_0 := bf BK155 0
       have hfz19_1 := bf BK155 1
       go_wp2
       go_ret
       exact ⟨er, bw HB⟩
      ·rw [if_neg c17] at H
       have c17b0 := decide_eq_false c17
       clear c17
       by_cases c20 : a1_1 ≥ (l0_0.length : Int)
       ·rw [if_pos c20] at H
        have c20b0 : decide ((l0_0.length : Int) ≤ a1_1) = true := decide_eq_true c20
        clear c20
        obtain rfl := Option.some.inj H
        have hnb21 := NB155_154.out
        have hnc21 := NB154_155.out
        have hcz22_0 : wc.cell? ⟨gb155, 0, none⟩ = some (.int .i64 a1_0) := bc BK155 0
        have hcz22_1 : wc.cell? ⟨gb155, 1, none⟩ = some (.int .i64 a1_1) := bc BK155 1
        have hfz22_0 := bf BK155 0
        have hfz22_1 := bf BK155 1
        have hcz23_0 : wc.cell? ⟨gb154, 0, none⟩ = some (.slice A0_0 l0_0.length c0_0) := bc BK154 0
        have hfz23_0 := bf BK154 0
        go_wp2
        go_ret
        exact ⟨er, bw HB⟩
       ·rw [if_neg c20] at H
        have c20b0 : decide ((l0_0.length : Int) ≤ a1_1) = false := decide_eq_false c20
        clear c20
        by_cases c24 : 0 ≤ a1_1
        ·rw [if_pos c24] at H
         have c24b0 := decide_eq_true c24
         clear c24
         by_cases c25 : a1_1 < (l0_0.length : Int)
         ·rw [if_pos c25] at H
          have c25b0 := decide_eq_true c25
          clear c25
          obtain rfl := Option.some.inj H
          have hnb26 := NB155_154.out
          have hnc26 := NB154_155.out
          have hcz27_0 : wc.cell? ⟨gb155, 0, none⟩ = some (.int .i64 a1_0) := bc BK155 0
          have hcz27_1 : wc.cell? ⟨gb155, 1, none⟩ = some (.int .i64 a1_1) := bc BK155 1
          have hfz27_0 := bf BK155 0
          have hfz27_1 := bf BK155 1
          have hcz28_0 : wc.cell? ⟨gb154, 0, none⟩ = some (.slice A0_0 l0_0.length c0_0) := bc BK154 0
          have hfz28_0 := bf BK154 0
          have p157 : 0 ≤ (a1_1 : Int) := of_decide_eq_true as1
          have q157 : a1_1 < (l0_0.length : Int) := of_decide_eq_true as1
          obtain ⟨ad157, A157_2, c157_2, e157, hx157_0, hx157_1, hx157_2, hl157_2, hi157_2⟩ := at_T100 HR0_0.out a1_1 p157 q157
          cases e157
          replace hx157_0 := (HB.out.cell (World.block_lt_of_cell? w _ hx157_0)).trans hx157_0
          replace hx157_1 := (HB.out.cell (World.block_lt_of_cell? w _ hx157_1)).trans hx157_1
          replace hx157_2 := (HB.out.cell (World.block_lt_of_cell? w _ hx157_2)).trans hx157_2
          have HR157_2 := am hi157_2
          have HC157_2 := am hl157_2
          clear hi157_2 hl157_2
          replace p157 := eq_true p157
          replace q157 := eq_true q157
          go_wp2
          go_ret
          exact ⟨er, bw HB⟩
         ·rw [if_neg c25] at H
          exact absurd H (by simp)
        ·rw [if_neg c24] at H
         exact absurd H (by simp)
     ·rw [if_neg c16] at H
      have c16b0 : (a1_0 == 32) = false := beq_eq_false_iff_ne.mpr c16
      have c16b1 : (a1_0 != 32) = true := bne_iff_ne.mpr c16
      replace H := Option.bind_eq_some_iff.mp H
      obtain ⟨t158, A290, H⟩ := H
      replace H : (if t158 = true then (some 1) else (if a1_0 = 3 then (spec_Takes.j1 kj2 (a1_0 == 3)) else (if a1_0 = 4 then (spec_Takes.j1 kj2 (a1_0 == 4)) else (if a1_0 = 5 then (spec_Takes.j1 kj2 (a1_0 == 5)) else (if a1_0 = 31 then (spec_Takes.j1 kj2 (a1_0 == 31)) else (if a1_0 = 33 then (spec_Takes.j1 kj2 (a1_0 == 33)) else (if a1_0 = 34 then (spec_Takes.j1 kj2 (a1_0 == 34)) else (if a1_0 = 37 then (spec_Takes.j1 kj2 (a1_0 == 37)) else (spec_Takes.j1 kj2 (a1_0 == 38)))))))))) = some r := H
      have A29 := am A290
      clear A290
      by_cases c30 : t158 = true
      ·subst c30
       have H1 : (some 1) = some r := by rw [if_pos rfl] at H; exact H
       clear H
       have H := H1
       clear H1
       obtain rfl := Option.some.inj H
       have hnb31 := NB155_154.out
       have hnc31 := NB154_155.out
       have hcz32_0 : wc.cell? ⟨gb155, 0, none⟩ = some (.int .i64 a1_0) := bc BK155 0
       have hcz32_1 : wc.cell? ⟨gb155, 1, none⟩ = some (.int .i64 a1_1) := bc BK155 1
       have hfz32_0 := bf BK155 0
       have hfz32_1 := bf BK155 1
       go_wp2_with (first | ((with_reducible refine gate_callee (f := 169) rfl ?_); refine goesL_ (some 43) rfl rfl Try.func169 (by kernel_rfl) rfl #[.int .i64 a1_0] rfl gl ?_; (with_reducible refine (spec_l03Unary.calls a1_0 true _ A29.out).mono ?_); rintro e w' ⟨rfl, ⟨nd, rfl⟩⟩; refine ⟨_, rfl, ?_⟩))
       go_ret
       exact ⟨er, bw HB⟩
      ·replace c30 := Bool.eq_false_iff.mpr c30
       subst c30
       have H1 : (if a1_0 = 3 then (spec_Takes.j1 kj2 (a1_0 == 3)) else (if a1_0 = 4 then (spec_Takes.j1 kj2 (a1_0 == 4)) else (if a1_0 = 5 then (spec_Takes.j1 kj2 (a1_0 == 5)) else (if a1_0 = 31 then (spec_Takes.j1 kj2 (a1_0 == 31)) else (if a1_0 = 33 then (spec_Takes.j1 kj2 (a1_0 == 33)) else (if a1_0 = 34 then (spec_Takes.j1 kj2 (a1_0 == 34)) else (if a1_0 = 37 then (spec_Takes.j1 kj2 (a1_0 == 37)) else (spec_Takes.j1 kj2 (a1_0 == 38))))))))) = some r := by rw [if_neg (show ¬ (false = true) by decide)] at H; exact H
       clear H
       have H := H1
       clear H1
       have HC33 := am H
       clear H
       have hnb34 := NB155_154.out
       have hnc34 := NB154_155.out
       have hcz35_0 : wc.cell? ⟨gb155, 0, none⟩ = some (.int .i64 a1_0) := bc BK155 0
       have hcz35_1 : wc.cell? ⟨gb155, 1, none⟩ = some (.int .i64 a1_1) := bc BK155 1
       have hfz35_0 := bf BK155 0
       have hfz35_1 := bf BK155 1
       go_upto_if 46 with (first | ((with_reducible refine gate_callee (f := 169) rfl ?_); refine goesL_ (some 43) rfl rfl Try.func169 (by kernel_rfl) rfl #[.int .i64 a1_0] rfl gl ?_; (with_reducible refine (spec_l03Unary.calls a1_0 false _ A29.out).mono ?_); rintro e w' ⟨rfl, ⟨nd, rfl⟩⟩; refine ⟨_, rfl, ?_⟩))
       (try simp only [Act.put, sa, sz, ss])
       go_cut [46] (fun v46 wc => ∃ (kq : Nat) (x46_32 : Bool), v46 = .bool x46_32 ∧ Aside0 (spec_Takes.j1 kq x46_32 = some r) ∧ Aside0 (kq ≤ kj2) ∧ Aside0 (wc.heap[gb154]? = some (.cells #[(.slice A0_0 l0_0.length c0_0)] 30 (0, 0))) ∧ Aside0 (wc.heap[gb155]? = some (.cells #[.int .i64 a1_0, .int .i64 a1_1] 102 (0, 0))) ∧ Aside0 (Below w.heap.size w wc))
       case first =>
        have H := HC33.out
        clear HC33
        by_cases c36 : a1_0 = 3
        ·rw [if_pos c36] at H
         have c36b0 : (a1_0 == 3) = true := beq_iff_eq.mpr c36
         have c36b1 : (a1_0 != 3) = false := bne_eq_false_iff_eq.mpr c36
         clear c36
         (first | rw [c36b0] | (simp only [i64_w, i32_w]; rw [c36b0]) | skip)
         have H' := am H
         clear H
         go_wp2
         go_meet
         case rel => exact ⟨_, ((a1_0 == 3)), dr, H', ⟨by have := HJ2.out; first | omega | exact Nat.le_refl _⟩, ⟨bp BK154⟩, ⟨bp BK155⟩, ⟨bw HB⟩⟩
        ·rw [if_neg c36] at H
         have c36b0 : (a1_0 == 3) = false := beq_eq_false_iff_ne.mpr c36
         have c36b1 : (a1_0 != 3) = true := bne_iff_ne.mpr c36
         (first | rw [c36b0] | (simp only [i64_w, i32_w]; rw [c36b0]) | skip)
         by_cases c37 : a1_0 = 4
         ·rw [if_pos c37] at H
          have c37b0 : (a1_0 == 4) = true := beq_iff_eq.mpr c37
          have c37b1 : (a1_0 != 4) = false := bne_eq_false_iff_eq.mpr c37
          clear c37
          have H' := am H
          clear H
          go_wp2
          go_meet
          case rel => exact ⟨_, ((a1_0 == 4)), dr, H', ⟨by have := HJ2.out; first | omega | exact Nat.le_refl _⟩, ⟨bp BK154⟩, ⟨bp BK155⟩, ⟨bw HB⟩⟩
         ·rw [if_neg c37] at H
          have c37b0 : (a1_0 == 4) = false := beq_eq_false_iff_ne.mpr c37
          have c37b1 : (a1_0 != 4) = true := bne_iff_ne.mpr c37
          by_cases c38 : a1_0 = 5
          ·rw [if_pos c38] at H
           have c38b0 : (a1_0 == 5) = true := beq_iff_eq.mpr c38
           have c38b1 : (a1_0 != 5) = false := bne_eq_false_iff_eq.mpr c38
           clear c38
           have H' := am H
           clear H
           go_wp2
           go_meet
           case rel => exact ⟨_, ((a1_0 == 5)), dr, H', ⟨by have := HJ2.out; first | omega | exact Nat.le_refl _⟩, ⟨bp BK154⟩, ⟨bp BK155⟩, ⟨bw HB⟩⟩
          ·rw [if_neg c38] at H
           have c38b0 : (a1_0 == 5) = false := beq_eq_false_iff_ne.mpr c38
           have c38b1 : (a1_0 != 5) = true := bne_iff_ne.mpr c38
           by_cases c39 : a1_0 = 31
           ·rw [if_pos c39] at H
            have c39b0 : (a1_0 == 31) = true := beq_iff_eq.mpr c39
            have c39b1 : (a1_0 != 31) = false := bne_eq_false_iff_eq.mpr c39
            clear c39
            have H' := am H
            clear H
            go_wp2
            go_meet
            case rel => exact ⟨_, ((a1_0 == 31)), dr, H', ⟨by have := HJ2.out; first | omega | exact Nat.le_refl _⟩, ⟨bp BK154⟩, ⟨bp BK155⟩, ⟨bw HB⟩⟩
           ·rw [if_neg c39] at H
            have c39b0 : (a1_0 == 31) = false := beq_eq_false_iff_ne.mpr c39
            have c39b1 : (a1_0 != 31) = true := bne_iff_ne.mpr c39
            by_cases c40 : a1_0 = 33
            ·rw [if_pos c40] at H
             have c40b0 : (a1_0 == 33) = true := beq_iff_eq.mpr c40
             have c40b1 : (a1_0 != 33) = false := bne_eq_false_iff_eq.mpr c40
             clear c40
             have H' := am H
             clear H
             go_wp2
             go_meet
             case rel => exact ⟨_, ((a1_0 == 33)), dr, H', ⟨by have := HJ2.out; first | omega | exact Nat.le_refl _⟩, ⟨bp BK154⟩, ⟨bp BK155⟩, ⟨bw HB⟩⟩
            ·rw [if_neg c40] at H
             have c40b0 : (a1_0 == 33) = false := beq_eq_false_iff_ne.mpr c40
             have c40b1 : (a1_0 != 33) = true := bne_iff_ne.mpr c40
             by_cases c41 : a1_0 = 34
             ·rw [if_pos c41] at H
              have c41b0 : (a1_0 == 34) = true := beq_iff_eq.mpr c41
              have c41b1 : (a1_0 != 34) = false := bne_eq_false_iff_eq.mpr c41
              clear c41
              have H' := am H
              clear H
              go_wp2
              go_meet
              case rel => exact ⟨_, ((a1_0 == 34)), dr, H', ⟨by have := HJ2.out; first | omega | exact Nat.le_refl _⟩, ⟨bp BK154⟩, ⟨bp BK155⟩, ⟨bw HB⟩⟩
             ·rw [if_neg c41] at H
              have c41b0 : (a1_0 == 34) = false := beq_eq_false_iff_ne.mpr c41
              have c41b1 : (a1_0 != 34) = true := bne_iff_ne.mpr c41
              by_cases c42 : a1_0 = 37
              ·rw [if_pos c42] at H
               have c42b0 : (a1_0 == 37) = true := beq_iff_eq.mpr c42
               have c42b1 : (a1_0 != 37) = false := bne_eq_false_iff_eq.mpr c42
               clear c42
               have H' := am H
               clear H
               go_wp2
               go_meet
               case rel => exact ⟨_, ((a1_0 == 37)), dr, H', ⟨by have := HJ2.out; first | omega | exact Nat.le_refl _⟩, ⟨bp BK154⟩, ⟨bp BK155⟩, ⟨bw HB⟩⟩
              ·rw [if_neg c42] at H
               have c42b0 : (a1_0 == 37) = false := beq_eq_false_iff_ne.mpr c42
               have c42b1 : (a1_0 != 37) = true := bne_iff_ne.mpr c42
               have H' := am H
               clear H
               go_wp2
               go_meet
               case rel => exact ⟨_, ((a1_0 == 38)), dr, H', ⟨by have := HJ2.out; first | omega | exact Nat.le_refl _⟩, ⟨bp BK154⟩, ⟨bp BK155⟩, ⟨bw HB⟩⟩
       case rest =>
        clear HC33
        (try clear c1); (try clear p1); (try clear q1); (try clear hx1); (try clear c2); (try clear p2); (try clear c3); (try clear c4); (try clear c7); (try clear c8); (try clear c10); (try clear c11); (try clear c12); (try clear c13); (try clear c13b0); (try clear c13b1); (try clear c14); (try clear c15); (try clear p15); (try clear q15); (try clear hx15); (try clear c16); (try clear c16b0); (try clear c16b1); (try clear c17); (try clear c17b0); (try clear c18); (try clear c20); (try clear c20b0); (try clear c21); (try clear c24); (try clear c24b0); (try clear c25); (try clear c25b0); (try clear c26); (try clear c30); (try clear c31); (try clear c34); (try clear c36); (try clear c36b0); (try clear c36b1); (try clear c37); (try clear c37b0); (try clear c37b1); (try clear c38); (try clear c38b0); (try clear c38b1); (try clear c39); (try clear c39b0); (try clear c39b1); (try clear c40); (try clear c40b0); (try clear c40b1); (try clear c41); (try clear c41b0); (try clear c41b1); (try clear c42); (try clear c42b0); (try clear c42b1); (try clear hcz11_0); (try clear hcz11_1); (try clear hcz15_0); (try clear hcz15_1); (try clear hcz19_0); (try clear hcz19_1); (try clear hcz22_0); (try clear hcz22_1); (try clear hcz23_0); (try clear hcz27_0); (try clear hcz27_1); (try clear hcz28_0); (try clear hcz32_0); (try clear hcz32_1); (try clear hcz35_0); (try clear hcz35_1); (try clear hcz9_0); (try clear hcz9_1); (try clear hfz11_0); (try clear hfz11_1); (try clear hfz15_0); (try clear hfz15_1); (try clear hfz19_0); (try clear hfz19_1); (try clear hfz22_0); (try clear hfz22_1); (try clear hfz23_0); (try clear hfz27_0); (try clear hfz27_1); (try clear hfz28_0); (try clear hfz32_0); (try clear hfz32_1); (try clear hfz35_0); (try clear hfz35_1); (try clear hfz9_0); (try clear hfz9_1); (try clear hx157_0); (try clear hx157_1); (try clear hx157_2); (try clear p157); (try clear p2); (try clear q157)
        obtain ⟨kq, x46_32, rfl, HA, HJ32, BK154, BK155, HB⟩ := hcut
        cases kq with
        | zero => exact absurd HA.out (by simp [spec_Takes.j1])
        | succ kj32 =>
         have H := HA.out
         clear HA
         simp only [spec_Takes.j1] at H
         by_cases c43 : x46_32 = true
         ·subst c43
          have H1 : (some 1) = some r := by rw [if_pos rfl] at H; exact H
          clear H
          have H := H1
          clear H1
          obtain rfl := Option.some.inj H
          go_wp2
          go_ret
          exact ⟨er, bw HB⟩
         ·replace c43 := Bool.eq_false_iff.mpr c43
          subst c43
          have H1 : (some 0) = some r := by rw [if_neg (show ¬ (false = true) by decide)] at H; exact H
          clear H
          have H := H1
          clear H1
          obtain rfl := Option.some.inj H
          go_wp2
          go_ret
          exact ⟨er, bw HB⟩

end Go.Proofs.Ytbmjmaahcaoajaa.QFnExactFileBytes
