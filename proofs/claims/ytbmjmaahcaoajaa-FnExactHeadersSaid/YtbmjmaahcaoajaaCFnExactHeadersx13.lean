import Derived.Test.YtbmjmaahcaoajaaCFnExactHeadersx0
import Derived.Test.YtbmjmaahcaoajaaCFnExactHeadersx12
namespace Go.Proofs.Ytbmjmaahcaoajaa.QFnExactHeaders
open Go.RowKit Go.Proofs.YtbmjmaahcaoajaaW
open PrintWords PrintLast PrintMore PrintShort PrintIsh
attribute [local go_sem] max2_int min2_int max_two min_two max_three min_three max_four min_four   -- for this text's walks alone
set_option linter.unusedVariables false
set_option maxHeartbeats 8000000
set_option maxRecDepth 100000
set_option linter.unusedSimpArgs false

mutual
def impl_prog_headers.l0 : Nat → Int → List Int → Int → Int → List (S100) → List (List Int) → Option (List Int)
 | 0, _, _, _, _, _, _ => none
 | k + 1, x1, x5, x12, x13, x1000, x1001 => if x13 < x12 then ((impl_prog_code.f x1000 x1001 x1).bind fun t378 => (impl_prog_headers.l1 k x1 x5 x13 x12 x13 t378 (t378.length : Int) 0 x1000 x1001)) else (some x5)
def impl_prog_headers.l1 : Nat → Int → List Int → Int → Int → Int → List (S102) → Int → Int → List (S100) → List (List Int) → Option (List Int)
 | 0, _, _, _, _, _, _, _, _, _, _ => none
 | k + 1, x1, x5, x6, x12, x13, x18, x19, x20, x1000, x1001 => if x20 < x19 then (if 0 ≤ x20 then (if x20 < (x18.length : Int) then (if 0 ≤ x1 then (if x1 < (x1001.length : Int) then (if x20 < ((rd_L9 x1001 x1).length : Int) then (if (rd (rd_L9 x1001 x1) x20) ≥ 0 then (if ((rd_T102 x18 x20).f0) = 30 then (if ((rd_T102 x18 x20).f1) = x6 then (impl_prog_headers.j2 k x1 x5 x6 x12 x13 x18 x19 x20 (decide (x20 ≥ x6)) x1000 x1001) else (impl_prog_headers.j2 k x1 x5 x6 x12 x13 x18 x19 x20 false x1000 x1001)) else (if ((rd_T102 x18 x20).f0) = 31 then (if ((rd_T102 x18 x20).f1) = x6 then (impl_prog_headers.j2 k x1 x5 x6 x12 x13 x18 x19 x20 (decide (x20 ≥ x6)) x1000 x1001) else (impl_prog_headers.j2 k x1 x5 x6 x12 x13 x18 x19 x20 false x1000 x1001)) else (impl_prog_headers.j2 k x1 x5 x6 x12 x13 x18 x19 x20 false x1000 x1001))) else (impl_prog_headers.j2 k x1 x5 x6 x12 x13 x18 x19 x20 false x1000 x1001)) else (none)) else (none)) else (none)) else (none)) else (none)) else (impl_prog_headers.l0 k x1 x5 x12 (wrap64 (x13 + 1)) x1000 x1001)
def impl_prog_headers.j2 : Nat → Int → List Int → Int → Int → Int → List (S102) → Int → Int → Bool → List (S100) → List (List Int) → Option (List Int)
 | 0, _, _, _, _, _, _, _, _, _, _, _ => none
 | k + 1, x1, x5, x6, x12, x13, x18, x19, x20, x56, x1000, x1001 => if x56 = true then (if x5.length < 17592186044416 then (impl_prog_headers.l0 k x1 (x5 ++ [x6]) x12 (wrap64 (x13 + 1)) x1000 x1001) else (none)) else (impl_prog_headers.l1 k x1 x5 x6 x12 x13 x18 x19 (wrap64 (x20 + 1)) x1000 x1001)
end
def impl_prog_headers.f (k : Nat) (l0_0 : List (S100)) (l0_1 : List (List Int)) (a1 : Int) : Option (List Int) := (impl_prog_code.f l0_0 l0_1 a1).bind fun t375 => (impl_prog_headers.l0 k a1 ([] : List Int) (t375.length : Int) 0 l0_0 l0_1)
theorem impl_prog_headers.mono_l : ∀ k, (∀ y0 y1 y2 y3 y4 y5, LeO (impl_prog_headers.l0 k y0 y1 y2 y3 y4 y5) (impl_prog_headers.l0 (k + 1) y0 y1 y2 y3 y4 y5)) ∧ (∀ y0 y1 y2 y3 y4 y5 y6 y7 y8 y9, LeO (impl_prog_headers.l1 k y0 y1 y2 y3 y4 y5 y6 y7 y8 y9) (impl_prog_headers.l1 (k + 1) y0 y1 y2 y3 y4 y5 y6 y7 y8 y9)) ∧ (∀ y0 y1 y2 y3 y4 y5 y6 y7 y8 y9 y10, LeO (impl_prog_headers.j2 k y0 y1 y2 y3 y4 y5 y6 y7 y8 y9 y10) (impl_prog_headers.j2 (k + 1) y0 y1 y2 y3 y4 y5 y6 y7 y8 y9 y10))
 | 0 => ⟨fun _ _ _ _ _ _ r h => by simp [impl_prog_headers.l0] at h, fun _ _ _ _ _ _ _ _ _ _ r h => by simp [impl_prog_headers.l1] at h, fun _ _ _ _ _ _ _ _ _ _ _ r h => by simp [impl_prog_headers.j2] at h⟩
 | k + 1 => by
  obtain ⟨ih0, ih1, ih2⟩ := impl_prog_headers.mono_l k
  refine ⟨?_, ?_, ?_⟩
  ·intro y0 y1 y2 y3 y4 y5
   unfold impl_prog_headers.l0
   repeat' first
   | (with_reducible exact ih0 _ _ _ _ _ _)
   | (with_reducible exact ih1 _ _ _ _ _ _ _ _ _ _)
   | (with_reducible exact ih2 _ _ _ _ _ _ _ _ _ _ _)
   | (with_reducible exact LeO.refl _)
   | (with_reducible exact LeO.none _)
   | (with_reducible refine LeO.ite ?_ ?_)
   | (with_reducible refine LeO.bind ?_ (fun _ => ?_))
  ·intro y0 y1 y2 y3 y4 y5 y6 y7 y8 y9
   unfold impl_prog_headers.l1
   repeat' first
   | (with_reducible exact ih0 _ _ _ _ _ _)
   | (with_reducible exact ih1 _ _ _ _ _ _ _ _ _ _)
   | (with_reducible exact ih2 _ _ _ _ _ _ _ _ _ _ _)
   | (with_reducible exact LeO.refl _)
   | (with_reducible exact LeO.none _)
   | (with_reducible refine LeO.ite ?_ ?_)
   | (with_reducible refine LeO.bind ?_ (fun _ => ?_))
  ·intro y0 y1 y2 y3 y4 y5 y6 y7 y8 y9 y10
   unfold impl_prog_headers.j2
   repeat' first
   | (with_reducible exact ih0 _ _ _ _ _ _)
   | (with_reducible exact ih1 _ _ _ _ _ _ _ _ _ _)
   | (with_reducible exact ih2 _ _ _ _ _ _ _ _ _ _ _)
   | (with_reducible exact LeO.refl _)
   | (with_reducible exact LeO.none _)
   | (with_reducible refine LeO.ite ?_ ?_)
   | (with_reducible refine LeO.bind ?_ (fun _ => ?_))
theorem impl_prog_headers.mono : ∀ a0 a1 a2 k, LeO (impl_prog_headers.f k a0 a1 a2) (impl_prog_headers.f (k + 1) a0 a1 a2) := by
 intro a0 a1 a2 k
 obtain ⟨ih0, ih1, ih2⟩ := impl_prog_headers.mono_l k
 unfold impl_prog_headers.f
 repeat' first
   | (with_reducible exact ih0 _ _ _ _ _ _)
   | (with_reducible exact ih1 _ _ _ _ _ _ _ _ _ _)
   | (with_reducible exact ih2 _ _ _ _ _ _ _ _ _ _ _)
   | (with_reducible exact LeO.refl _)
   | (with_reducible exact LeO.none _)
   | (with_reducible refine LeO.ite ?_ ?_)
   | (with_reducible refine LeO.bind ?_ (fun _ => ?_))
theorem impl_prog_headers.calls (k : Nat) (g0_ : Nat) (A0_0 : Option Addr) (c0_0 : Nat) (l0_0 : List (S100)) (A0_1 : Option Addr) (c0_1 : Nat) (l0_1 : List (List Int)) (a1 : Int) (r : List Int) (w : World) (hp0 : w.heap[g0_]? = some (.cells #[.slice A0_0 l0_0.length c0_0, .slice A0_1 l0_1.length c0_1] 92 (0, 0))) (hr0_0 : Kd.C k100 w A0_0 l0_0.length l0_0) (hc0_0 : l0_0.length ≤ c0_0) (hr0_1 : Kd.C (Kd.slice 2 (Kd.int .i64)) w A0_1 l0_1.length l0_1) (hc0_1 : l0_1.length ≤ c0_1) (h : impl_prog_headers.f k l0_0 l0_1 a1 = some r) :
  Calls Try.prog 69 #[.pointer (some ⟨g0_, 0, none⟩), .int .i64 a1] w fun e w' => ∃ v0_ : Value, e = .returned (v0_) ∧ Kd.R (Kd.int .i64) 2 w' w.heap.size (fun _ => True) v0_ r ∧ Below w.heap.size w w' := by
 have hu102 := Try.underlying102
 have HP0_ := am hp0
 clear hp0
 have HR0_0 := am hr0_0
 have HC0_0 := am hc0_0
 clear hr0_0 hc0_0
 have HR0_1 := am hr0_1
 have HC0_1 := am hc0_1
 clear hr0_1 hc0_1
 have HB := am (Below.refl w.heap.size w)
 have H : ((impl_prog_code.f l0_0 l0_1 a1).bind fun t375 => (impl_prog_headers.l0 k a1 ([] : List Int) (t375.length : Int) 0 l0_0 l0_1)) = some r := h
 clear h
 replace H := Option.bind_eq_some_iff.mp H
 obtain ⟨t375, A30, H⟩ := H
 replace H : (impl_prog_headers.l0 k a1 ([] : List Int) (t375.length : Int) 0 l0_0 l0_1) = some r := H
 have A3 := am A30
 clear A30
 have H' := am H
 clear H
 go_enter Try.func69, Try.ntmps69
 go_wp2_with (first | ((with_reducible refine gate_callee (f := 127) rfl ?_); refine goesL_ (some 11) rfl rfl Try.func127 (by kernel_rfl) rfl #[.pointer (some ⟨g0_, 0, none⟩), .int .i64 a1] rfl gl ?_; (refine (impl_prog_code.calls g0_ (fun k_ => k_ < w.heap.size) A0_0 c0_0 l0_0 A0_1 c0_1 l0_1 a1 t375 _ ?side1 ?side2 ?side3 ?side4 A3.out).mono ?_); (case side1 => exact (bp HP0_)); (case side2 => exact Kd.V_mk HC0_0.out (Kd.F_below (Kd.C_F k100_heap HR0_0.out) (bw HB))); (case side3 => repeat (first | exact HR0_1.out | (with_reducible refine Kd.C_alloc ?_ _) | (with_reducible refine Kd.C_drewN ?_ _) | (with_reducible refine Kd.C_drew ?_))); (case side4 => exact HC0_1.out); rintro e w4 ⟨v376, rfl, ho0, hb⟩; refine ⟨_, rfl, ?_⟩; have HO377 := am (Kd.V_lower (Kd.V_mono (ok' := fun k_ => True) ho0 (fun k_ hk_ => trivial)) (below_size (bw HB))); replace HP0_ := am (blk_below (g := g0_) (o := .cells #[.slice A0_0 l0_0.length c0_0, .slice A0_1 l0_1.length c0_1] 92 (0, 0)) (bp HP0_) hb); replace HB := am (below_step (bw HB) hb); (try clear hb); (try clear hb2); (try clear hk); (try clear hi); (try clear ho0); obtain ⟨Ao5, co5, eo5⟩ := Kd.V_slice HO377.out; subst eo5))
 go_loopg [5, 13] k (fun kq v5 v13 w' => ∃ (x5_1 : List Int) (x13_1 : Int), v13 = .int .i64 x13_1 ∧ Aside0 (impl_prog_headers.l0 kq a1 x5_1 (t375.length : Int) x13_1 l0_0 l0_1 = some r) ∧ Aside0 (kq ≤ k) ∧ Aside0 (Kd.R (Kd.int .i64) 2 w' w.heap.size (fun _ => True) v5 x5_1) ∧ Aside0 (w'.heap[g0_]? = some (.cells #[(.slice A0_0 l0_0.length c0_0), (.slice A0_1 l0_1.length c0_1)] 92 (0, 0))) ∧ Aside0 (Below w.heap.size w w'))
 case atStart => exact ⟨(([] : List Int)), (0), dr, H', ⟨Nat.le_refl _⟩, ⟨by first | exact Kd.R_nil _ _ _ _ _ | exact Kd.N_nil _ _ _ _ _ | exact Kd.V_nil _ _ _ _ _ | exact Kd.Q_nil _ _ _ _ _ | exact Kd.S_nil _ _ _ _ _⟩, ⟨bp HP0_⟩, ⟨bw HB⟩⟩
 case round =>
  clear H'
  (try clear c1); (try clear p2)
  obtain ⟨x5_1, x13_1, rfl, HA, HK1, HO_5, HP0_, HB⟩ := hrel
  cases gk with
  | zero => exact absurd HA.out (by simp [impl_prog_headers.l0])
  | succ k1 =>
   have H := HA.out
   clear HA
   simp only [impl_prog_headers.l0] at H
   by_cases c6 : x13_1 < (t375.length : Int)
   ·rw [if_pos c6] at H
    have c6b0 := decide_eq_true c6
    clear c6
    replace H := Option.bind_eq_some_iff.mp H
    obtain ⟨t378, A70, H⟩ := H
    replace H : (impl_prog_headers.l1 k1 a1 x5_1 x13_1 (t375.length : Int) x13_1 t378 (t378.length : Int) 0 l0_0 l0_1) = some r := H
    have A7 := am A70
    clear A70
    have H' := am H
    clear H
    go_wp2_with (first | ((with_reducible refine gate_callee (f := 127) rfl ?_); refine goesL_ (some 18) rfl rfl Try.func127 (by kernel_rfl) rfl #[.pointer (some ⟨g0_, 0, none⟩), .int .i64 a1] rfl gl ?_; (refine (impl_prog_code.calls g0_ (fun k_ => k_ < w.heap.size) A0_0 c0_0 l0_0 A0_1 c0_1 l0_1 a1 t378 _ ?side1 ?side2 ?side3 ?side4 A7.out).mono ?_); (case side1 => exact (bp HP0_)); (case side2 => exact Kd.V_mk HC0_0.out (Kd.F_below (Kd.C_F k100_heap HR0_0.out) (bw HB))); (case side3 => exact cc (Kd.C_below HR0_1.out HB.out)); (case side4 => exact HC0_1.out); rintro e w8 ⟨v379, rfl, ho0, hb⟩; refine ⟨_, rfl, ?_⟩; have HO380 := am (Kd.V_lower (Kd.V_mono (ok' := fun k_ => some k_ ≠ (u5 : Value).ownBlock) ho0 (fun k_ hk_ => Or.elim hk_ (fun hs_ => fun e_ => Nat.not_le.2 hs_ (Kd.R_base HO_5.out k_ e_.symm)) (fun hn_ => (Kd.fresh' (Kd.R_lt (kR HO_5)) k_ hn_)))) (below_size (bw HB))); replace HO_5 := am (Kd.R_below (kR HO_5) hb); replace HP0_ := am (blk_below (g := g0_) (o := .cells #[.slice A0_0 l0_0.length c0_0, .slice A0_1 l0_1.length c0_1] 92 (0, 0)) (bp HP0_) hb); replace HB := am (below_step (bw HB) hb); (try clear hb); (try clear hb2); (try clear hk); (try clear hi); (try clear ho0); obtain ⟨Ao9, co9, eo9⟩ := Kd.V_slice HO380.out; subst eo9))
    go_loopg [5, 20] k1 (fun kq v5 v20 w' => ∃ (x5_2 : List Int) (x20_2 : Int), v20 = .int .i64 x20_2 ∧ Aside0 (impl_prog_headers.l1 kq a1 x5_2 x13_1 (t375.length : Int) x13_1 t378 (t378.length : Int) x20_2 l0_0 l0_1 = some r) ∧ Aside0 (kq ≤ k1) ∧ Aside0 (Kd.R (Kd.int .i64) 2 w' w.heap.size (fun _ => True) v5 x5_2) ∧ Aside0 (Kd.V k102 102 w' w.heap.size (fun k_ => some k_ ≠ (v5 : Value).ownBlock) (.slice Ao9 t378.length co9) t378) ∧ Aside0 (w'.heap[g0_]? = some (.cells #[(.slice A0_0 l0_0.length c0_0), (.slice A0_1 l0_1.length c0_1)] 92 (0, 0))) ∧ Aside0 (Below w.heap.size w w'))
    case atStart => exact ⟨(x5_1), (0), dr, H', ⟨Nat.le_refl _⟩, ⟨kR HO_5⟩, ⟨kV HO380⟩, ⟨bp HP0_⟩, ⟨bw HB⟩⟩
    case round =>
     clear H'
     (try clear c1); (try clear p2); (try clear c6); (try clear c6b0); (try clear p2)
     obtain ⟨x5_2, x20_2, rfl, HA, HK2, HO_5, HO_18, HP0_, HB⟩ := hrel
     cases gk with
     | zero => exact absurd HA.out (by simp [impl_prog_headers.l1])
     | succ k2 =>
      have H := HA.out
      clear HA
      simp only [impl_prog_headers.l1] at H
      by_cases c10 : x20_2 < (t378.length : Int)
      ·rw [if_pos c10] at H
       have c10b0 := decide_eq_true c10
       clear c10
       by_cases c11 : 0 ≤ x20_2
       ·rw [if_pos c11] at H
        have c11b0 := decide_eq_true c11
        clear c11
        by_cases c12 : x20_2 < (t378.length : Int)
        ·rw [if_pos c12] at H
         have c12b0 := decide_eq_true c12
         clear c12
         have HC13 := am H
         clear H
         have p381 : 0 ≤ (x20_2 : Int) := of_decide_eq_true as1
         have q381 : x20_2 < (t378.length : Int) := of_decide_eq_true as1
         obtain ⟨ad381, e381, hx381_0, hx381_1⟩ := at_T102 (Kd.V_reads' HO_18.out).2.2 x20_2 p381 q381
         cases e381
         replace p381 := eq_true p381
         replace q381 := eq_true q381
         go_upto_region 8 with (first | ((with_reducible refine gate_dst (N := 8) rfl ?_); refine box_event ?hg (N := 8) ?hd (cs := #[.int .i64 0, .int .i64 0]) (t := 102) ?hr ?_; (case hd => rfl); (case hg => rfl); (case hr => exact gs); intro gb382 hg w14 hbox hb; replace HO_5 := am (Kd.R_below (kR HO_5) hb); replace HO_18 := am (Kd.V_below (Kd.V_elderB (kV HO_18) gb382 (Nat.le_of_eq hg.symm)) hb); have BK382 := am (hbox); have GW382 := am ((by rw [hg]; exact (below_size (bw HB)) : w.heap.size ≤ gb382)); have GE382 := am ((by rw [hg]; exact (below_size (bw HB)) : w.heap.size ≤ gb382)); replace HB := am (below_step (bw HB) hb); have NB0_382 := am ((by rw [hg]; exact Nat.ne_of_lt (blk_lt (g := g0_) (o := .cells #[.slice A0_0 l0_0.length c0_0, .slice A0_1 l0_1.length c0_1] 92 (0, 0)) (bp HP0_)) : g0_ ≠ gb382)); have NB382_0 := am ((by rw [hg]; exact Nat.ne_of_gt (blk_lt (g := g0_) (o := .cells #[.slice A0_0 l0_0.length c0_0, .slice A0_1 l0_1.length c0_1] 92 (0, 0)) (bp HP0_)) : gb382 ≠ g0_)); replace HP0_ := am (blk_below (g := g0_) (o := .cells #[.slice A0_0 l0_0.length c0_0, .slice A0_1 l0_1.length c0_1] 92 (0, 0)) (bp HP0_) hb); clear hb hbox hg; have hnb15 := NB382_0.out; have hnc15 := NB0_382.out; have hcz16_0 : w14.cell? ⟨gb382, 0, none⟩ = some (.int .i64 0) := bc BK382 0; have hcz16_1 : w14.cell? ⟨gb382, 1, none⟩ = some (.int .i64 0) := bc BK382 1; have hfz16_0 := bf BK382 0; have hfz16_1 := bf BK382 1))
         (try simp only [Act.put, sa, sz, ss])
         go_cut [56] (fun v56 wc => ∃ (kq : Nat) (x56_12 : Bool), v56 = .bool x56_12 ∧ Aside0 (impl_prog_headers.j2 kq a1 x5_2 x13_1 (t375.length : Int) x13_1 t378 (t378.length : Int) x20_2 x56_12 l0_0 l0_1 = some r) ∧ Aside0 (kq ≤ k2) ∧ Aside0 (Kd.R (Kd.int .i64) 2 wc w.heap.size (fun _ => True) u5 x5_2) ∧ Aside0 (Kd.V k102 102 wc w.heap.size (fun k_ => some k_ ≠ (u5 : Value).ownBlock ∧ k_ ≠ gb382) (.slice (some ad381) t378.length co9) t378) ∧ Aside0 (wc.heap[g0_]? = some (.cells #[(.slice A0_0 l0_0.length c0_0), (.slice A0_1 l0_1.length c0_1)] 92 (0, 0))) ∧ Aside0 (wc.heap[gb382]? = some (.cells #[.int .i64 ((rd_T102 t378 x20_2).f0), .int .i64 ((rd_T102 t378 x20_2).f1)] 102 (0, 0))) ∧ Aside0 (Below w.heap.size w wc))
         case first =>
          have H := HC13.out
          clear HC13
          by_cases c17 : 0 ≤ a1
          ·rw [if_pos c17] at H
           have c17b0 := decide_eq_true c17
           clear c17
           (first | rw [c17b0] | (simp only [i64_w, i32_w]; rw [c17b0]) | skip)
           by_cases c18 : a1 < (l0_1.length : Int)
           ·rw [if_pos c18] at H
            have c18b0 := decide_eq_true c18
            clear c18
            by_cases c19 : x20_2 < ((rd_L9 l0_1 a1).length : Int)
            ·rw [if_pos c19] at H
             have c19b0 := decide_eq_true c19
             clear c19
             by_cases c20 : (rd (rd_L9 l0_1 a1) x20_2) ≥ 0
             ·rw [if_pos c20] at H
              have c20b0 : decide (0 ≤ (rd (rd_L9 l0_1 a1) x20_2)) = true := decide_eq_true c20
              clear c20
              by_cases c21 : ((rd_T102 t378 x20_2).f0) = 30
              ·rw [if_pos c21] at H
               have c21b0 : (((rd_T102 t378 x20_2).f0) == 30) = true := beq_iff_eq.mpr c21
               have c21b1 : (((rd_T102 t378 x20_2).f0) != 30) = false := bne_eq_false_iff_eq.mpr c21
               clear c21
               by_cases c22 : ((rd_T102 t378 x20_2).f1) = x13_1
               ·rw [if_pos c22] at H
                have c22b0 : (((rd_T102 t378 x20_2).f1) == x13_1) = true := beq_iff_eq.mpr c22
                have c22b1 : (((rd_T102 t378 x20_2).f1) != x13_1) = false := bne_eq_false_iff_eq.mpr c22
                clear c22
                have H' := am H
                clear H
                have hnb23 := NB0_382.out
                have hnc23 := NB382_0.out
                have hcz24_0 : w14.cell? ⟨g0_, 0, none⟩ = some (.slice A0_0 l0_0.length c0_0) := bc HP0_ 0
                have hcz24_1 : w14.cell? ⟨g0_, 1, none⟩ = some (.slice A0_1 l0_1.length c0_1) := bc HP0_ 1
                have hfz24_0 := bf HP0_ 0
                have hfz24_1 := bf HP0_ 1
                have p383 : 0 ≤ (a1 : Int) := of_decide_eq_true as1
                have q383 : a1 < (l0_1.length : Int) := of_decide_eq_true as1
                obtain ⟨ad383, A383_0, c383_0, e383, hx383_0, hl383_0, hi383_0⟩ := at_L9 HR0_1.out a1 p383 q383
                cases e383
                have hn383_0 : ad383.block ≠ gb382 := Nat.ne_of_lt (Nat.lt_of_lt_of_le (by have := World.block_lt_of_cell? _ _ hx383_0; first | rwa [add_block] at this | exact this) GW382.out)
                have hn383_1 : ad383.block ≠ gb382 := Nat.ne_of_lt (Nat.lt_of_lt_of_le (by have := World.block_lt_of_cell? _ _ hx383_0; first | rwa [add_block] at this | exact this) GW382.out)
                replace hx383_0 := (HB.out.cell (World.block_lt_of_cell? w _ hx383_0)).trans hx383_0
                have HR383_0 := am hi383_0
                have HC383_0 := am hl383_0
                clear hi383_0 hl383_0
                replace hx383_0 := (cell_far (p := ⟨gb382, 0, none⟩) (by first | (rw [add_block]; exact hn383_0) | (show (Addr.add _ _).block ≠ _; rw [add_block]; exact hn383_0) | exact hn383_0) (.int .i64 ((rd_T102 t378 x20_2).f0))).trans hx383_0
                replace hx383_0 := (cell_far (p := ⟨gb382, 1, none⟩) (by first | (rw [add_block]; exact hn383_1) | (show (Addr.add _ _).block ≠ _; rw [add_block]; exact hn383_1) | exact hn383_1) (.int .i64 ((rd_T102 t378 x20_2).f1))).trans hx383_0
                clear hn383_0
                clear hn383_1
                replace p383 := eq_true p383
                replace q383 := eq_true q383
                have p384 : 0 ≤ (x20_2 : Int) := of_decide_eq_true as1
                have q384 : x20_2 < ((rd_L9 l0_1 a1).length : Int) := of_decide_eq_true as1
                obtain ⟨ad384, e384, hx384_0⟩ := Kd.at_int HR383_0.out x20_2 p384 q384
                cases e384
                have hn384_0 : ad384.block ≠ gb382 := Nat.ne_of_lt (Nat.lt_of_lt_of_le (by have := World.block_lt_of_cell? _ _ hx384_0; first | rwa [add_block] at this | exact this) GW382.out)
                have hn384_1 : ad384.block ≠ gb382 := Nat.ne_of_lt (Nat.lt_of_lt_of_le (by have := World.block_lt_of_cell? _ _ hx384_0; first | rwa [add_block] at this | exact this) GW382.out)
                replace hx384_0 := (HB.out.cell (World.block_lt_of_cell? w _ hx384_0)).trans hx384_0
                replace hx384_0 := (cell_far (p := ⟨gb382, 0, none⟩) (by first | (rw [add_block]; exact hn384_0) | (show (Addr.add _ _).block ≠ _; rw [add_block]; exact hn384_0) | exact hn384_0) (.int .i64 ((rd_T102 t378 x20_2).f0))).trans hx384_0
                replace hx384_0 := (cell_far (p := ⟨gb382, 1, none⟩) (by first | (rw [add_block]; exact hn384_1) | (show (Addr.add _ _).block ≠ _; rw [add_block]; exact hn384_1) | exact hn384_1) (.int .i64 ((rd_T102 t378 x20_2).f1))).trans hx384_0
                clear hn384_0
                clear hn384_1
                replace p384 := eq_true p384
                replace q384 := eq_true q384
                have hcz25_0 : w14.cell? ⟨gb382, 0, none⟩ = some (.int .i64 0) := bc BK382 0
                have hcz25_1 : w14.cell? ⟨gb382, 1, none⟩ = some (.int .i64 0) := bc BK382 1
                have hfz25_0 := bf BK382 0
                have hfz25_1 := bf BK382 1
                go_wp2
                go_meet
                case rel => exact ⟨_, (decide (x20_2 ≥ x13_1)), dr, H', ⟨by have := HK1.out; have := HK2.out; first | omega | exact Nat.le_refl _⟩, ⟨by (with_reducible repeat (first | apply Kd.R_alloc | apply Kd.R_drewN | apply Kd.R_drew)); exact Kd.R_mono (Kd.R_far (p := ⟨gb382, 1, none⟩) (Kd.R_far (p := ⟨gb382, 0, none⟩) (Kd.R_types HO_5.out BK382.out (by decide)) (fun _ hk => hk.2) (.int .i64 ((rd_T102 t378 x20_2).f0))) (fun _ hk => hk.2) (.int .i64 ((rd_T102 t378 x20_2).f1))) (fun _ hk => trivial)⟩, ⟨by (with_reducible repeat (first | apply Kd.V_alloc | apply Kd.V_drewN | apply Kd.V_drew)); exact Kd.V_mono (Kd.V_far (p := ⟨gb382, 1, none⟩) (Kd.V_far (p := ⟨gb382, 0, none⟩) (Kd.V_mono HO_18.out (fun k_ hk => (⟨hk, hk.2⟩ : _ ∧ k_ ≠ gb382))) (fun _ hk => hk.2) (.int .i64 ((rd_T102 t378 x20_2).f0))) (fun _ hk => hk.2) (.int .i64 ((rd_T102 t378 x20_2).f1))) (fun _ hk => ⟨hk.1.1, hk.1.2⟩)⟩, ⟨by (with_reducible repeat (first | apply dN | apply dW | apply dA)); refine blk_far ?_ NB0_382.out _; (with_reducible repeat (first | apply dN | apply dW | apply dA)); refine blk_far ?_ NB0_382.out _; exact bp HP0_⟩, ⟨by (with_reducible repeat (first | apply dN | apply dW | apply dA)); refine blk_put (cs := #[.int .i64 ((rd_T102 t378 x20_2).f0), .int .i64 0]) ?_ 1 _ rfl; (with_reducible repeat (first | apply dN | apply dW | apply dA)); refine blk_put (cs := #[.int .i64 0, .int .i64 0]) ?_ 0 _ rfl; exact bp BK382⟩, ⟨bw HB⟩⟩
               ·rw [if_neg c22] at H
                have c22b0 : (((rd_T102 t378 x20_2).f1) == x13_1) = false := beq_eq_false_iff_ne.mpr c22
                have c22b1 : (((rd_T102 t378 x20_2).f1) != x13_1) = true := bne_iff_ne.mpr c22
                have H' := am H
                clear H
                have hnb26 := NB0_382.out
                have hnc26 := NB382_0.out
                have hcz27_0 : w14.cell? ⟨g0_, 0, none⟩ = some (.slice A0_0 l0_0.length c0_0) := bc HP0_ 0
                have hcz27_1 : w14.cell? ⟨g0_, 1, none⟩ = some (.slice A0_1 l0_1.length c0_1) := bc HP0_ 1
                have hfz27_0 := bf HP0_ 0
                have hfz27_1 := bf HP0_ 1
                have p383 : 0 ≤ (a1 : Int) := of_decide_eq_true as1
                have q383 : a1 < (l0_1.length : Int) := of_decide_eq_true as1
                obtain ⟨ad383, A383_0, c383_0, e383, hx383_0, hl383_0, hi383_0⟩ := at_L9 HR0_1.out a1 p383 q383
                cases e383
                have hn383_0 : ad383.block ≠ gb382 := Nat.ne_of_lt (Nat.lt_of_lt_of_le (by have := World.block_lt_of_cell? _ _ hx383_0; first | rwa [add_block] at this | exact this) GW382.out)
                have hn383_1 : ad383.block ≠ gb382 := Nat.ne_of_lt (Nat.lt_of_lt_of_le (by have := World.block_lt_of_cell? _ _ hx383_0; first | rwa [add_block] at this | exact this) GW382.out)
                replace hx383_0 := (HB.out.cell (World.block_lt_of_cell? w _ hx383_0)).trans hx383_0
                have HR383_0 := am hi383_0
                have HC383_0 := am hl383_0
                clear hi383_0 hl383_0
                replace hx383_0 := (cell_far (p := ⟨gb382, 0, none⟩) (by first | (rw [add_block]; exact hn383_0) | (show (Addr.add _ _).block ≠ _; rw [add_block]; exact hn383_0) | exact hn383_0) (.int .i64 ((rd_T102 t378 x20_2).f0))).trans hx383_0
                replace hx383_0 := (cell_far (p := ⟨gb382, 1, none⟩) (by first | (rw [add_block]; exact hn383_1) | (show (Addr.add _ _).block ≠ _; rw [add_block]; exact hn383_1) | exact hn383_1) (.int .i64 ((rd_T102 t378 x20_2).f1))).trans hx383_0
                clear hn383_0
                clear hn383_1
                replace p383 := eq_true p383
                replace q383 := eq_true q383
                have p384 : 0 ≤ (x20_2 : Int) := of_decide_eq_true as1
                have q384 : x20_2 < ((rd_L9 l0_1 a1).length : Int) := of_decide_eq_true as1
                obtain ⟨ad384, e384, hx384_0⟩ := Kd.at_int HR383_0.out x20_2 p384 q384
                cases e384
                have hn384_0 : ad384.block ≠ gb382 := Nat.ne_of_lt (Nat.lt_of_lt_of_le (by have := World.block_lt_of_cell? _ _ hx384_0; first | rwa [add_block] at this | exact this) GW382.out)
                have hn384_1 : ad384.block ≠ gb382 := Nat.ne_of_lt (Nat.lt_of_lt_of_le (by have := World.block_lt_of_cell? _ _ hx384_0; first | rwa [add_block] at this | exact this) GW382.out)
                replace hx384_0 := (HB.out.cell (World.block_lt_of_cell? w _ hx384_0)).trans hx384_0
                replace hx384_0 := (cell_far (p := ⟨gb382, 0, none⟩) (by first | (rw [add_block]; exact hn384_0) | (show (Addr.add _ _).block ≠ _; rw [add_block]; exact hn384_0) | exact hn384_0) (.int .i64 ((rd_T102 t378 x20_2).f0))).trans hx384_0
                replace hx384_0 := (cell_far (p := ⟨gb382, 1, none⟩) (by first | (rw [add_block]; exact hn384_1) | (show (Addr.add _ _).block ≠ _; rw [add_block]; exact hn384_1) | exact hn384_1) (.int .i64 ((rd_T102 t378 x20_2).f1))).trans hx384_0
                clear hn384_0
                clear hn384_1
                replace p384 := eq_true p384
                replace q384 := eq_true q384
                have hcz28_0 : w14.cell? ⟨gb382, 0, none⟩ = some (.int .i64 0) := bc BK382 0
                have hcz28_1 : w14.cell? ⟨gb382, 1, none⟩ = some (.int .i64 0) := bc BK382 1
                have hfz28_0 := bf BK382 0
                have hfz28_1 := bf BK382 1
                go_wp2
                go_meet
                case rel => exact ⟨_, (false), dr, H', ⟨by have := HK1.out; have := HK2.out; first | omega | exact Nat.le_refl _⟩, ⟨by (with_reducible repeat (first | apply Kd.R_alloc | apply Kd.R_drewN | apply Kd.R_drew)); exact Kd.R_mono (Kd.R_far (p := ⟨gb382, 1, none⟩) (Kd.R_far (p := ⟨gb382, 0, none⟩) (Kd.R_types HO_5.out BK382.out (by decide)) (fun _ hk => hk.2) (.int .i64 ((rd_T102 t378 x20_2).f0))) (fun _ hk => hk.2) (.int .i64 ((rd_T102 t378 x20_2).f1))) (fun _ hk => trivial)⟩, ⟨by (with_reducible repeat (first | apply Kd.V_alloc | apply Kd.V_drewN | apply Kd.V_drew)); exact Kd.V_mono (Kd.V_far (p := ⟨gb382, 1, none⟩) (Kd.V_far (p := ⟨gb382, 0, none⟩) (Kd.V_mono HO_18.out (fun k_ hk => (⟨hk, hk.2⟩ : _ ∧ k_ ≠ gb382))) (fun _ hk => hk.2) (.int .i64 ((rd_T102 t378 x20_2).f0))) (fun _ hk => hk.2) (.int .i64 ((rd_T102 t378 x20_2).f1))) (fun _ hk => ⟨hk.1.1, hk.1.2⟩)⟩, ⟨by (with_reducible repeat (first | apply dN | apply dW | apply dA)); refine blk_far ?_ NB0_382.out _; (with_reducible repeat (first | apply dN | apply dW | apply dA)); refine blk_far ?_ NB0_382.out _; exact bp HP0_⟩, ⟨by (with_reducible repeat (first | apply dN | apply dW | apply dA)); refine blk_put (cs := #[.int .i64 ((rd_T102 t378 x20_2).f0), .int .i64 0]) ?_ 1 _ rfl; (with_reducible repeat (first | apply dN | apply dW | apply dA)); refine blk_put (cs := #[.int .i64 0, .int .i64 0]) ?_ 0 _ rfl; exact bp BK382⟩, ⟨bw HB⟩⟩
              ·rw [if_neg c21] at H
               have c21b0 : (((rd_T102 t378 x20_2).f0) == 30) = false := beq_eq_false_iff_ne.mpr c21
               have c21b1 : (((rd_T102 t378 x20_2).f0) != 30) = true := bne_iff_ne.mpr c21
               by_cases c29 : ((rd_T102 t378 x20_2).f0) = 31
               ·rw [if_pos c29] at H
                have c29b0 : (((rd_T102 t378 x20_2).f0) == 31) = true := beq_iff_eq.mpr c29
                have c29b1 : (((rd_T102 t378 x20_2).f0) != 31) = false := bne_eq_false_iff_eq.mpr c29
                clear c29
                by_cases c30 : ((rd_T102 t378 x20_2).f1) = x13_1
                ·rw [if_pos c30] at H
                 have c30b0 : (((rd_T102 t378 x20_2).f1) == x13_1) = true := beq_iff_eq.mpr c30
                 have c30b1 : (((rd_T102 t378 x20_2).f1) != x13_1) = false := bne_eq_false_iff_eq.mpr c30
                 clear c30
                 have H' := am H
                 clear H
                 have hnb31 := NB0_382.out
                 have hnc31 := NB382_0.out
                 have hcz32_0 : w14.cell? ⟨g0_, 0, none⟩ = some (.slice A0_0 l0_0.length c0_0) := bc HP0_ 0
                 have hcz32_1 : w14.cell? ⟨g0_, 1, none⟩ = some (.slice A0_1 l0_1.length c0_1) := bc HP0_ 1
                 have hfz32_0 := bf HP0_ 0
                 have hfz32_1 := bf HP0_ 1
                 have p383 : 0 ≤ (a1 : Int) := of_decide_eq_true as1
                 have q383 : a1 < (l0_1.length : Int) := of_decide_eq_true as1
                 obtain ⟨ad383, A383_0, c383_0, e383, hx383_0, hl383_0, hi383_0⟩ := at_L9 HR0_1.out a1 p383 q383
                 cases e383
                 have hn383_0 : ad383.block ≠ gb382 := Nat.ne_of_lt (Nat.lt_of_lt_of_le (by have := World.block_lt_of_cell? _ _ hx383_0; first | rwa [add_block] at this | exact this) GW382.out)
                 have hn383_1 : ad383.block ≠ gb382 := Nat.ne_of_lt (Nat.lt_of_lt_of_le (by have := World.block_lt_of_cell? _ _ hx383_0; first | rwa [add_block] at this | exact this) GW382.out)
                 replace hx383_0 := (HB.out.cell (World.block_lt_of_cell? w _ hx383_0)).trans hx383_0
                 have HR383_0 := am hi383_0
                 have HC383_0 := am hl383_0
                 clear hi383_0 hl383_0
                 replace hx383_0 := (cell_far (p := ⟨gb382, 0, none⟩) (by first | (rw [add_block]; exact hn383_0) | (show (Addr.add _ _).block ≠ _; rw [add_block]; exact hn383_0) | exact hn383_0) (.int .i64 ((rd_T102 t378 x20_2).f0))).trans hx383_0
                 replace hx383_0 := (cell_far (p := ⟨gb382, 1, none⟩) (by first | (rw [add_block]; exact hn383_1) | (show (Addr.add _ _).block ≠ _; rw [add_block]; exact hn383_1) | exact hn383_1) (.int .i64 ((rd_T102 t378 x20_2).f1))).trans hx383_0
                 clear hn383_0
                 clear hn383_1
                 replace p383 := eq_true p383
                 replace q383 := eq_true q383
                 have p384 : 0 ≤ (x20_2 : Int) := of_decide_eq_true as1
                 have q384 : x20_2 < ((rd_L9 l0_1 a1).length : Int) := of_decide_eq_true as1
                 obtain ⟨ad384, e384, hx384_0⟩ := Kd.at_int HR383_0.out x20_2 p384 q384
                 cases e384
                 have hn384_0 : ad384.block ≠ gb382 := Nat.ne_of_lt (Nat.lt_of_lt_of_le (by have := World.block_lt_of_cell? _ _ hx384_0; first | rwa [add_block] at this | exact this) GW382.out)
                 have hn384_1 : ad384.block ≠ gb382 := Nat.ne_of_lt (Nat.lt_of_lt_of_le (by have := World.block_lt_of_cell? _ _ hx384_0; first | rwa [add_block] at this | exact this) GW382.out)
                 replace hx384_0 := (HB.out.cell (World.block_lt_of_cell? w _ hx384_0)).trans hx384_0
                 replace hx384_0 := (cell_far (p := ⟨gb382, 0, none⟩) (by first | (rw [add_block]; exact hn384_0) | (show (Addr.add _ _).block ≠ _; rw [add_block]; exact hn384_0) | exact hn384_0) (.int .i64 ((rd_T102 t378 x20_2).f0))).trans hx384_0
                 replace hx384_0 := (cell_far (p := ⟨gb382, 1, none⟩) (by first | (rw [add_block]; exact hn384_1) | (show (Addr.add _ _).block ≠ _; rw [add_block]; exact hn384_1) | exact hn384_1) (.int .i64 ((rd_T102 t378 x20_2).f1))).trans hx384_0
                 clear hn384_0
                 clear hn384_1
                 replace p384 := eq_true p384
                 replace q384 := eq_true q384
                 have hcz33_0 : w14.cell? ⟨gb382, 0, none⟩ = some (.int .i64 0) := bc BK382 0
                 have hcz33_1 : w14.cell? ⟨gb382, 1, none⟩ = some (.int .i64 0) := bc BK382 1
                 have hfz33_0 := bf BK382 0
                 have hfz33_1 := bf BK382 1
                 go_wp2
                 go_meet
                 case rel => exact ⟨_, (decide (x20_2 ≥ x13_1)), dr, H', ⟨by have := HK1.out; have := HK2.out; first | omega | exact Nat.le_refl _⟩, ⟨by (with_reducible repeat (first | apply Kd.R_alloc | apply Kd.R_drewN | apply Kd.R_drew)); exact Kd.R_mono (Kd.R_far (p := ⟨gb382, 1, none⟩) (Kd.R_far (p := ⟨gb382, 0, none⟩) (Kd.R_types HO_5.out BK382.out (by decide)) (fun _ hk => hk.2) (.int .i64 ((rd_T102 t378 x20_2).f0))) (fun _ hk => hk.2) (.int .i64 ((rd_T102 t378 x20_2).f1))) (fun _ hk => trivial)⟩, ⟨by (with_reducible repeat (first | apply Kd.V_alloc | apply Kd.V_drewN | apply Kd.V_drew)); exact Kd.V_mono (Kd.V_far (p := ⟨gb382, 1, none⟩) (Kd.V_far (p := ⟨gb382, 0, none⟩) (Kd.V_mono HO_18.out (fun k_ hk => (⟨hk, hk.2⟩ : _ ∧ k_ ≠ gb382))) (fun _ hk => hk.2) (.int .i64 ((rd_T102 t378 x20_2).f0))) (fun _ hk => hk.2) (.int .i64 ((rd_T102 t378 x20_2).f1))) (fun _ hk => ⟨hk.1.1, hk.1.2⟩)⟩, ⟨by (with_reducible repeat (first | apply dN | apply dW | apply dA)); refine blk_far ?_ NB0_382.out _; (with_reducible repeat (first | apply dN | apply dW | apply dA)); refine blk_far ?_ NB0_382.out _; exact bp HP0_⟩, ⟨by (with_reducible repeat (first | apply dN | apply dW | apply dA)); refine blk_put (cs := #[.int .i64 ((rd_T102 t378 x20_2).f0), .int .i64 0]) ?_ 1 _ rfl; (with_reducible repeat (first | apply dN | apply dW | apply dA)); refine blk_put (cs := #[.int .i64 0, .int .i64 0]) ?_ 0 _ rfl; exact bp BK382⟩, ⟨bw HB⟩⟩
                ·rw [if_neg c30] at H
                 have c30b0 : (((rd_T102 t378 x20_2).f1) == x13_1) = false := beq_eq_false_iff_ne.mpr c30
                 have c30b1 : (((rd_T102 t378 x20_2).f1) != x13_1) = true := bne_iff_ne.mpr c30
                 have H' := am H
                 clear H
                 have hnb34 := NB0_382.out
                 have hnc34 := NB382_0.out
                 have hcz35_0 : w14.cell? ⟨g0_, 0, none⟩ = some (.slice A0_0 l0_0.length c0_0) := bc HP0_ 0
                 have hcz35_1 : w14.cell? ⟨g0_, 1, none⟩ = some (.slice A0_1 l0_1.length c0_1) := bc HP0_ 1
                 have hfz35_0 := bf HP0_ 0
                 have hfz35_1 := bf HP0_ 1
                 have p383 : 0 ≤ (a1 : Int) := of_decide_eq_true as1
                 have q383 : a1 < (l0_1.length : Int) := of_decide_eq_true as1
                 obtain ⟨ad383, A383_0, c383_0, e383, hx383_0, hl383_0, hi383_0⟩ := at_L9 HR0_1.out a1 p383 q383
                 cases e383
                 have hn383_0 : ad383.block ≠ gb382 := Nat.ne_of_lt (Nat.lt_of_lt_of_le (by have := World.block_lt_of_cell? _ _ hx383_0; first | rwa [add_block] at this | exact this) GW382.out)
                 have hn383_1 : ad383.block ≠ gb382 := Nat.ne_of_lt (Nat.lt_of_lt_of_le (by have := World.block_lt_of_cell? _ _ hx383_0; first | rwa [add_block] at this | exact this) GW382.out)
                 replace hx383_0 := (HB.out.cell (World.block_lt_of_cell? w _ hx383_0)).trans hx383_0
                 have HR383_0 := am hi383_0
                 have HC383_0 := am hl383_0
                 clear hi383_0 hl383_0
                 replace hx383_0 := (cell_far (p := ⟨gb382, 0, none⟩) (by first | (rw [add_block]; exact hn383_0) | (show (Addr.add _ _).block ≠ _; rw [add_block]; exact hn383_0) | exact hn383_0) (.int .i64 ((rd_T102 t378 x20_2).f0))).trans hx383_0
                 replace hx383_0 := (cell_far (p := ⟨gb382, 1, none⟩) (by first | (rw [add_block]; exact hn383_1) | (show (Addr.add _ _).block ≠ _; rw [add_block]; exact hn383_1) | exact hn383_1) (.int .i64 ((rd_T102 t378 x20_2).f1))).trans hx383_0
                 clear hn383_0
                 clear hn383_1
                 replace p383 := eq_true p383
                 replace q383 := eq_true q383
                 have p384 : 0 ≤ (x20_2 : Int) := of_decide_eq_true as1
                 have q384 : x20_2 < ((rd_L9 l0_1 a1).length : Int) := of_decide_eq_true as1
                 obtain ⟨ad384, e384, hx384_0⟩ := Kd.at_int HR383_0.out x20_2 p384 q384
                 cases e384
                 have hn384_0 : ad384.block ≠ gb382 := Nat.ne_of_lt (Nat.lt_of_lt_of_le (by have := World.block_lt_of_cell? _ _ hx384_0; first | rwa [add_block] at this | exact this) GW382.out)
                 have hn384_1 : ad384.block ≠ gb382 := Nat.ne_of_lt (Nat.lt_of_lt_of_le (by have := World.block_lt_of_cell? _ _ hx384_0; first | rwa [add_block] at this | exact this) GW382.out)
                 replace hx384_0 := (HB.out.cell (World.block_lt_of_cell? w _ hx384_0)).trans hx384_0
                 replace hx384_0 := (cell_far (p := ⟨gb382, 0, none⟩) (by first | (rw [add_block]; exact hn384_0) | (show (Addr.add _ _).block ≠ _; rw [add_block]; exact hn384_0) | exact hn384_0) (.int .i64 ((rd_T102 t378 x20_2).f0))).trans hx384_0
                 replace hx384_0 := (cell_far (p := ⟨gb382, 1, none⟩) (by first | (rw [add_block]; exact hn384_1) | (show (Addr.add _ _).block ≠ _; rw [add_block]; exact hn384_1) | exact hn384_1) (.int .i64 ((rd_T102 t378 x20_2).f1))).trans hx384_0
                 clear hn384_0
                 clear hn384_1
                 replace p384 := eq_true p384
                 replace q384 := eq_true q384
                 have hcz36_0 : w14.cell? ⟨gb382, 0, none⟩ = some (.int .i64 0) := bc BK382 0
                 have hcz36_1 : w14.cell? ⟨gb382, 1, none⟩ = some (.int .i64 0) := bc BK382 1
                 have hfz36_0 := bf BK382 0
                 have hfz36_1 := bf BK382 1
                 go_wp2
                 go_meet
                 case rel => exact ⟨_, (false), dr, H', ⟨by have := HK1.out; have := HK2.out; first | omega | exact Nat.le_refl _⟩, ⟨by (with_reducible repeat (first | apply Kd.R_alloc | apply Kd.R_drewN | apply Kd.R_drew)); exact Kd.R_mono (Kd.R_far (p := ⟨gb382, 1, none⟩) (Kd.R_far (p := ⟨gb382, 0, none⟩) (Kd.R_types HO_5.out BK382.out (by decide)) (fun _ hk => hk.2) (.int .i64 ((rd_T102 t378 x20_2).f0))) (fun _ hk => hk.2) (.int .i64 ((rd_T102 t378 x20_2).f1))) (fun _ hk => trivial)⟩, ⟨by (with_reducible repeat (first | apply Kd.V_alloc | apply Kd.V_drewN | apply Kd.V_drew)); exact Kd.V_mono (Kd.V_far (p := ⟨gb382, 1, none⟩) (Kd.V_far (p := ⟨gb382, 0, none⟩) (Kd.V_mono HO_18.out (fun k_ hk => (⟨hk, hk.2⟩ : _ ∧ k_ ≠ gb382))) (fun _ hk => hk.2) (.int .i64 ((rd_T102 t378 x20_2).f0))) (fun _ hk => hk.2) (.int .i64 ((rd_T102 t378 x20_2).f1))) (fun _ hk => ⟨hk.1.1, hk.1.2⟩)⟩, ⟨by (with_reducible repeat (first | apply dN | apply dW | apply dA)); refine blk_far ?_ NB0_382.out _; (with_reducible repeat (first | apply dN | apply dW | apply dA)); refine blk_far ?_ NB0_382.out _; exact bp HP0_⟩, ⟨by (with_reducible repeat (first | apply dN | apply dW | apply dA)); refine blk_put (cs := #[.int .i64 ((rd_T102 t378 x20_2).f0), .int .i64 0]) ?_ 1 _ rfl; (with_reducible repeat (first | apply dN | apply dW | apply dA)); refine blk_put (cs := #[.int .i64 0, .int .i64 0]) ?_ 0 _ rfl; exact bp BK382⟩, ⟨bw HB⟩⟩
               ·rw [if_neg c29] at H
                have c29b0 : (((rd_T102 t378 x20_2).f0) == 31) = false := beq_eq_false_iff_ne.mpr c29
                have c29b1 : (((rd_T102 t378 x20_2).f0) != 31) = true := bne_iff_ne.mpr c29
                have H' := am H
                clear H
                have hnb37 := NB0_382.out
                have hnc37 := NB382_0.out
                have hcz38_0 : w14.cell? ⟨g0_, 0, none⟩ = some (.slice A0_0 l0_0.length c0_0) := bc HP0_ 0
                have hcz38_1 : w14.cell? ⟨g0_, 1, none⟩ = some (.slice A0_1 l0_1.length c0_1) := bc HP0_ 1
                have hfz38_0 := bf HP0_ 0
                have hfz38_1 := bf HP0_ 1
                have p383 : 0 ≤ (a1 : Int) := of_decide_eq_true as1
                have q383 : a1 < (l0_1.length : Int) := of_decide_eq_true as1
                obtain ⟨ad383, A383_0, c383_0, e383, hx383_0, hl383_0, hi383_0⟩ := at_L9 HR0_1.out a1 p383 q383
                cases e383
                have hn383_0 : ad383.block ≠ gb382 := Nat.ne_of_lt (Nat.lt_of_lt_of_le (by have := World.block_lt_of_cell? _ _ hx383_0; first | rwa [add_block] at this | exact this) GW382.out)
                have hn383_1 : ad383.block ≠ gb382 := Nat.ne_of_lt (Nat.lt_of_lt_of_le (by have := World.block_lt_of_cell? _ _ hx383_0; first | rwa [add_block] at this | exact this) GW382.out)
                replace hx383_0 := (HB.out.cell (World.block_lt_of_cell? w _ hx383_0)).trans hx383_0
                have HR383_0 := am hi383_0
                have HC383_0 := am hl383_0
                clear hi383_0 hl383_0
                replace hx383_0 := (cell_far (p := ⟨gb382, 0, none⟩) (by first | (rw [add_block]; exact hn383_0) | (show (Addr.add _ _).block ≠ _; rw [add_block]; exact hn383_0) | exact hn383_0) (.int .i64 ((rd_T102 t378 x20_2).f0))).trans hx383_0
                replace hx383_0 := (cell_far (p := ⟨gb382, 1, none⟩) (by first | (rw [add_block]; exact hn383_1) | (show (Addr.add _ _).block ≠ _; rw [add_block]; exact hn383_1) | exact hn383_1) (.int .i64 ((rd_T102 t378 x20_2).f1))).trans hx383_0
                clear hn383_0
                clear hn383_1
                replace p383 := eq_true p383
                replace q383 := eq_true q383
                have p384 : 0 ≤ (x20_2 : Int) := of_decide_eq_true as1
                have q384 : x20_2 < ((rd_L9 l0_1 a1).length : Int) := of_decide_eq_true as1
                obtain ⟨ad384, e384, hx384_0⟩ := Kd.at_int HR383_0.out x20_2 p384 q384
                cases e384
                have hn384_0 : ad384.block ≠ gb382 := Nat.ne_of_lt (Nat.lt_of_lt_of_le (by have := World.block_lt_of_cell? _ _ hx384_0; first | rwa [add_block] at this | exact this) GW382.out)
                have hn384_1 : ad384.block ≠ gb382 := Nat.ne_of_lt (Nat.lt_of_lt_of_le (by have := World.block_lt_of_cell? _ _ hx384_0; first | rwa [add_block] at this | exact this) GW382.out)
                replace hx384_0 := (HB.out.cell (World.block_lt_of_cell? w _ hx384_0)).trans hx384_0
                replace hx384_0 := (cell_far (p := ⟨gb382, 0, none⟩) (by first | (rw [add_block]; exact hn384_0) | (show (Addr.add _ _).block ≠ _; rw [add_block]; exact hn384_0) | exact hn384_0) (.int .i64 ((rd_T102 t378 x20_2).f0))).trans hx384_0
                replace hx384_0 := (cell_far (p := ⟨gb382, 1, none⟩) (by first | (rw [add_block]; exact hn384_1) | (show (Addr.add _ _).block ≠ _; rw [add_block]; exact hn384_1) | exact hn384_1) (.int .i64 ((rd_T102 t378 x20_2).f1))).trans hx384_0
                clear hn384_0
                clear hn384_1
                replace p384 := eq_true p384
                replace q384 := eq_true q384
                have hcz39_0 : w14.cell? ⟨gb382, 0, none⟩ = some (.int .i64 0) := bc BK382 0
                have hcz39_1 : w14.cell? ⟨gb382, 1, none⟩ = some (.int .i64 0) := bc BK382 1
                have hfz39_0 := bf BK382 0
                have hfz39_1 := bf BK382 1
                go_wp2
                go_meet
                case rel => exact ⟨_, (false), dr, H', ⟨by have := HK1.out; have := HK2.out; first | omega | exact Nat.le_refl _⟩, ⟨by (with_reducible repeat (first | apply Kd.R_alloc | apply Kd.R_drewN | apply Kd.R_drew)); exact Kd.R_mono (Kd.R_far (p := ⟨gb382, 1, none⟩) (Kd.R_far (p := ⟨gb382, 0, none⟩) (Kd.R_types HO_5.out BK382.out (by decide)) (fun _ hk => hk.2) (.int .i64 ((rd_T102 t378 x20_2).f0))) (fun _ hk => hk.2) (.int .i64 ((rd_T102 t378 x20_2).f1))) (fun _ hk => trivial)⟩, ⟨by (with_reducible repeat (first | apply Kd.V_alloc | apply Kd.V_drewN | apply Kd.V_drew)); exact Kd.V_mono (Kd.V_far (p := ⟨gb382, 1, none⟩) (Kd.V_far (p := ⟨gb382, 0, none⟩) (Kd.V_mono HO_18.out (fun k_ hk => (⟨hk, hk.2⟩ : _ ∧ k_ ≠ gb382))) (fun _ hk => hk.2) (.int .i64 ((rd_T102 t378 x20_2).f0))) (fun _ hk => hk.2) (.int .i64 ((rd_T102 t378 x20_2).f1))) (fun _ hk => ⟨hk.1.1, hk.1.2⟩)⟩, ⟨by (with_reducible repeat (first | apply dN | apply dW | apply dA)); refine blk_far ?_ NB0_382.out _; (with_reducible repeat (first | apply dN | apply dW | apply dA)); refine blk_far ?_ NB0_382.out _; exact bp HP0_⟩, ⟨by (with_reducible repeat (first | apply dN | apply dW | apply dA)); refine blk_put (cs := #[.int .i64 ((rd_T102 t378 x20_2).f0), .int .i64 0]) ?_ 1 _ rfl; (with_reducible repeat (first | apply dN | apply dW | apply dA)); refine blk_put (cs := #[.int .i64 0, .int .i64 0]) ?_ 0 _ rfl; exact bp BK382⟩, ⟨bw HB⟩⟩
             ·rw [if_neg c20] at H
              have c20b0 : decide (0 ≤ (rd (rd_L9 l0_1 a1) x20_2)) = false := decide_eq_false c20
              clear c20
              have H' := am H
              clear H
              have hnb40 := NB0_382.out
              have hnc40 := NB382_0.out
              have hcz41_0 : w14.cell? ⟨g0_, 0, none⟩ = some (.slice A0_0 l0_0.length c0_0) := bc HP0_ 0
              have hcz41_1 : w14.cell? ⟨g0_, 1, none⟩ = some (.slice A0_1 l0_1.length c0_1) := bc HP0_ 1
              have hfz41_0 := bf HP0_ 0
              have hfz41_1 := bf HP0_ 1
              have p383 : 0 ≤ (a1 : Int) := of_decide_eq_true as1
              have q383 : a1 < (l0_1.length : Int) := of_decide_eq_true as1
              obtain ⟨ad383, A383_0, c383_0, e383, hx383_0, hl383_0, hi383_0⟩ := at_L9 HR0_1.out a1 p383 q383
              cases e383
              have hn383_0 : ad383.block ≠ gb382 := Nat.ne_of_lt (Nat.lt_of_lt_of_le (by have := World.block_lt_of_cell? _ _ hx383_0; first | rwa [add_block] at this | exact this) GW382.out)
              have hn383_1 : ad383.block ≠ gb382 := Nat.ne_of_lt (Nat.lt_of_lt_of_le (by have := World.block_lt_of_cell? _ _ hx383_0; first | rwa [add_block] at this | exact this) GW382.out)
              replace hx383_0 := (HB.out.cell (World.block_lt_of_cell? w _ hx383_0)).trans hx383_0
              have HR383_0 := am hi383_0
              have HC383_0 := am hl383_0
              clear hi383_0 hl383_0
              replace hx383_0 := (cell_far (p := ⟨gb382, 0, none⟩) (by first | (rw [add_block]; exact hn383_0) | (show (Addr.add _ _).block ≠ _; rw [add_block]; exact hn383_0) | exact hn383_0) (.int .i64 ((rd_T102 t378 x20_2).f0))).trans hx383_0
              replace hx383_0 := (cell_far (p := ⟨gb382, 1, none⟩) (by first | (rw [add_block]; exact hn383_1) | (show (Addr.add _ _).block ≠ _; rw [add_block]; exact hn383_1) | exact hn383_1) (.int .i64 ((rd_T102 t378 x20_2).f1))).trans hx383_0
              clear hn383_0
              clear hn383_1
              replace p383 := eq_true p383
              replace q383 := eq_true q383
              have p384 : 0 ≤ (x20_2 : Int) := of_decide_eq_true as1
              have q384 : x20_2 < ((rd_L9 l0_1 a1).length : Int) := of_decide_eq_true as1
              obtain ⟨ad384, e384, hx384_0⟩ := Kd.at_int HR383_0.out x20_2 p384 q384
              cases e384
              have hn384_0 : ad384.block ≠ gb382 := Nat.ne_of_lt (Nat.lt_of_lt_of_le (by have := World.block_lt_of_cell? _ _ hx384_0; first | rwa [add_block] at this | exact this) GW382.out)
              have hn384_1 : ad384.block ≠ gb382 := Nat.ne_of_lt (Nat.lt_of_lt_of_le (by have := World.block_lt_of_cell? _ _ hx384_0; first | rwa [add_block] at this | exact this) GW382.out)
              replace hx384_0 := (HB.out.cell (World.block_lt_of_cell? w _ hx384_0)).trans hx384_0
              replace hx384_0 := (cell_far (p := ⟨gb382, 0, none⟩) (by first | (rw [add_block]; exact hn384_0) | (show (Addr.add _ _).block ≠ _; rw [add_block]; exact hn384_0) | exact hn384_0) (.int .i64 ((rd_T102 t378 x20_2).f0))).trans hx384_0
              replace hx384_0 := (cell_far (p := ⟨gb382, 1, none⟩) (by first | (rw [add_block]; exact hn384_1) | (show (Addr.add _ _).block ≠ _; rw [add_block]; exact hn384_1) | exact hn384_1) (.int .i64 ((rd_T102 t378 x20_2).f1))).trans hx384_0
              clear hn384_0
              clear hn384_1
              replace p384 := eq_true p384
              replace q384 := eq_true q384
              go_wp2
              go_meet
              case rel => exact ⟨_, (false), dr, H', ⟨by have := HK1.out; have := HK2.out; first | omega | exact Nat.le_refl _⟩, ⟨by (with_reducible repeat (first | apply Kd.R_alloc | apply Kd.R_drewN | apply Kd.R_drew)); exact Kd.R_mono (Kd.R_far (p := ⟨gb382, 1, none⟩) (Kd.R_far (p := ⟨gb382, 0, none⟩) (Kd.R_types HO_5.out BK382.out (by decide)) (fun _ hk => hk.2) (.int .i64 ((rd_T102 t378 x20_2).f0))) (fun _ hk => hk.2) (.int .i64 ((rd_T102 t378 x20_2).f1))) (fun _ hk => trivial)⟩, ⟨by (with_reducible repeat (first | apply Kd.V_alloc | apply Kd.V_drewN | apply Kd.V_drew)); exact Kd.V_mono (Kd.V_far (p := ⟨gb382, 1, none⟩) (Kd.V_far (p := ⟨gb382, 0, none⟩) (Kd.V_mono HO_18.out (fun k_ hk => (⟨hk, hk.2⟩ : _ ∧ k_ ≠ gb382))) (fun _ hk => hk.2) (.int .i64 ((rd_T102 t378 x20_2).f0))) (fun _ hk => hk.2) (.int .i64 ((rd_T102 t378 x20_2).f1))) (fun _ hk => ⟨hk.1.1, hk.1.2⟩)⟩, ⟨by (with_reducible repeat (first | apply dN | apply dW | apply dA)); refine blk_far ?_ NB0_382.out _; (with_reducible repeat (first | apply dN | apply dW | apply dA)); refine blk_far ?_ NB0_382.out _; exact bp HP0_⟩, ⟨by (with_reducible repeat (first | apply dN | apply dW | apply dA)); refine blk_put (cs := #[.int .i64 ((rd_T102 t378 x20_2).f0), .int .i64 0]) ?_ 1 _ rfl; (with_reducible repeat (first | apply dN | apply dW | apply dA)); refine blk_put (cs := #[.int .i64 0, .int .i64 0]) ?_ 0 _ rfl; exact bp BK382⟩, ⟨bw HB⟩⟩
            ·rw [if_neg c19] at H
             exact absurd H (by simp)
           ·rw [if_neg c18] at H
            exact absurd H (by simp)
          ·rw [if_neg c17] at H
           exact absurd H (by simp)
         case rest =>
          clear HC13
          (try clear c1); (try clear c2); (try clear p2); (try clear c3); (try clear p3); (try clear q3); (try clear hx3); (try clear c4); (try clear c6); (try clear c6b0); (try clear c10); (try clear c10b0); (try clear c11); (try clear c11b0); (try clear c12); (try clear c12b0); (try clear c15); (try clear c17); (try clear c17b0); (try clear c18); (try clear c18b0); (try clear c19); (try clear c19b0); (try clear c20); (try clear c20b0); (try clear c21); (try clear c21b0); (try clear c21b1); (try clear c22); (try clear c22b0); (try clear c22b1); (try clear c23); (try clear c26); (try clear c29); (try clear c29b0); (try clear c29b1); (try clear c30); (try clear c30b0); (try clear c30b1); (try clear c31); (try clear c34); (try clear c37); (try clear c38); (try clear p38); (try clear q38); (try clear hx38); (try clear c40); (try clear hcz16_0); (try clear hcz16_1); (try clear hcz24_0); (try clear hcz24_1); (try clear hcz25_0); (try clear hcz25_1); (try clear hcz27_0); (try clear hcz27_1); (try clear hcz28_0); (try clear hcz28_1); (try clear hcz32_0); (try clear hcz32_1); (try clear hcz33_0); (try clear hcz33_1); (try clear hcz35_0); (try clear hcz35_1); (try clear hcz36_0); (try clear hcz36_1); (try clear hcz38_0); (try clear hcz38_1); (try clear hcz39_0); (try clear hcz39_1); (try clear hcz41_0); (try clear hcz41_1); (try clear hfz16_0); (try clear hfz16_1); (try clear hfz24_0); (try clear hfz24_1); (try clear hfz25_0); (try clear hfz25_1); (try clear hfz27_0); (try clear hfz27_1); (try clear hfz28_0); (try clear hfz28_1); (try clear hfz32_0); (try clear hfz32_1); (try clear hfz33_0); (try clear hfz33_1); (try clear hfz35_0); (try clear hfz35_1); (try clear hfz36_0); (try clear hfz36_1); (try clear hfz38_0); (try clear hfz38_1); (try clear hfz39_0); (try clear hfz39_1); (try clear hfz41_0); (try clear hfz41_1); (try clear hx381_0); (try clear hx381_1); (try clear hx383_0); (try clear hx384_0); (try clear p2); (try clear p381); (try clear p383); (try clear p384); (try clear q381); (try clear q383); (try clear q384)
          obtain ⟨kq, x56_12, rfl, HA, HJ12, HO_5, HO_18, HP0_, BK382, HB⟩ := hcut
          cases kq with
          | zero => exact absurd HA.out (by simp [impl_prog_headers.j2])
          | succ kj12 =>
           have H := HA.out
           clear HA
           simp only [impl_prog_headers.j2] at H
           by_cases c42 : x56_12 = true
           ·subst c42
            have H1 : (if x5_2.length < 17592186044416 then (impl_prog_headers.l0 kj12 a1 (x5_2 ++ [x13_1]) (t375.length : Int) (wrap64 (x13_1 + 1)) l0_0 l0_1) else (none)) = some r := by rw [if_pos rfl] at H; exact H
            clear H
            have H := H1
            clear H1
            by_cases c43 : x5_2.length < 17592186044416
            ·rw [if_pos c43] at H
             have LMc43 := am c43
             clear c43
             obtain ⟨y385, hy385⟩ : ∃ y_ : List Int, y_ = (x5_2 ++ [x13_1]) := ⟨_, rfl⟩
             replace H : (impl_prog_headers.l0 kj12 a1 y385 (t375.length : Int) (wrap64 (x13_1 + 1)) l0_0 l0_1) = some r := by first | (rw [hy385]; with_reducible exact H) | (have H2_ := (Option.bind_some _ _).symm.trans H; rw [hy385]; with_reducible exact H2_) | (have H2_ := (Option.bind_some _ _).symm.trans H; with_reducible exact H2_) | with_reducible exact H | (rw [hy385]; exact H) | exact H
             have Ny385 := am hy385
             clear hy385
             have H' := am H
             clear H
             go_wp2_with (first | ((with_reducible refine gate_builtin (b := .append) (xs := #[.tmp 57, .tmp 59]) rfl ?_); at_builtin; refine Kd.R_append (Kd.int .i64) (w0 := w) w.heap.size rfl (.tmp 57) (.tmp 59) 26 2 (.int .i64 0) 8 rfl Try.underlying26 info2 rfl (by decide) (by omega) u5 x5_2 x13_1 [.int .i64 x13_1] (fun _ => True) (fun _ => False) rfl rfl ?aP (fun _ hk => hk.elim) ?aF ?aO ?aB ?aS ?aL ?_; (case aP => exact rfl); (case aB => exact (bw HB)); (case aF => exact (fun _ _ => trivial)); (case aO => exact (kR HO_5)); (case aS => exact (below_size (bw HB))); (case aL => have := LMc43.out; omega); intro v386 w44 ho hb hg hat; rw [← Ny385.out] at ho; replace HO_18 := am (Kd.V_afterv (ok := (fun k_ => k_ ≠ gb382)) (by (with_reducible repeat (first | apply Kd.V_alloc | apply Kd.V_drewN | apply Kd.V_drew)); exact Kd.V_mono HO_18.out (fun _ hk => ⟨hk.2, hk.1⟩)) hg hat); replace HP0_ := am (blk_grown (g := g0_) (o := .cells #[.slice A0_0 l0_0.length c0_0, .slice A0_1 l0_1.length c0_1] 92 (0, 0)) (bp HP0_) hg (Kd.R_ne HO_5.out HP0_.out (by decide))); replace BK382 := am (blk_grown (g := gb382) (o := .cells #[.int .i64 ((rd_T102 t378 x20_2).f0), .int .i64 ((rd_T102 t378 x20_2).f1)] 102 (0, 0)) (bp BK382) hg (Kd.R_ne HO_5.out BK382.out (by decide))); replace HB := am (hb); have HO387 := am (ho); clear HO_5; clear ho hb hg hat))
             go_roundg kj12
             case measure => have := HK1.out; have := HK2.out; have := HJ12.out; omega
             case rel => exact ⟨(y385), (wrap64 (x13_1 + 1)), dr, H', ⟨by have := HK1.out; have := HK2.out; have := HJ12.out; omega⟩, ⟨kR HO387⟩, ⟨bp HP0_⟩, ⟨bw HB⟩⟩
            ·rw [if_neg c43] at H
             exact absurd H (by simp)
           ·replace c42 := Bool.eq_false_iff.mpr c42
            subst c42
            have H1 : (impl_prog_headers.l1 kj12 a1 x5_2 x13_1 (t375.length : Int) x13_1 t378 (t378.length : Int) (wrap64 (x20_2 + 1)) l0_0 l0_1) = some r := by rw [if_neg (show ¬ (false = true) by decide)] at H; exact H
            clear H
            have H := H1
            clear H1
            have H' := am H
            clear H
            go_wp2
            go_roundg kj12
            case measure => have := HK1.out; have := HK2.out; have := HJ12.out; omega
            case rel => exact ⟨(x5_2), (wrap64 (x20_2 + 1)), dr, H', ⟨by have := HK1.out; have := HK2.out; have := HJ12.out; omega⟩, ⟨kR HO_5⟩, ⟨by (with_reducible repeat (first | apply Kd.V_alloc | apply Kd.V_drewN | apply Kd.V_drew)); exact Kd.V_mono HO_18.out (fun _ hk => hk.1)⟩, ⟨bp HP0_⟩, ⟨bw HB⟩⟩
        ·rw [if_neg c12] at H
         exact absurd H (by simp)
       ·rw [if_neg c11] at H
        exact absurd H (by simp)
      ·rw [if_neg c10] at H
       have c10b0 := decide_eq_false c10
       clear c10
       have H' := am H
       clear H
       go_wp2
       go_roundg k2
       case measure => have := HK1.out; have := HK2.out; omega
       case rel => exact ⟨(x5_2), (wrap64 (x13_1 + 1)), dr, H', ⟨by have := HK1.out; have := HK2.out; omega⟩, ⟨kR HO_5⟩, ⟨bp HP0_⟩, ⟨bw HB⟩⟩
   ·rw [if_neg c6] at H
    have c6b0 := decide_eq_false c6
    clear c6
    obtain rfl := Option.some.inj H
    go_wp2
    go_ret
    exact ⟨_, er, kR HO_5, bw HB⟩

def impl_Headers.f (k : Nat) (l0_0 : List (S100)) (a1 : Int) : Option (List Int) := (impl_knownFunc.f k l0_0 a1).bind fun bt389 => (if bt389.2.2 = true then ((impl_prog_headers.f k bt389.1 bt389.2.1 a1).bind fun t397 => (some t397)) else (some ([] : List Int)))
theorem impl_Headers.mono : ∀ a0 a1 k, LeO (impl_Headers.f k a0 a1) (impl_Headers.f (k + 1) a0 a1) := by
 intro a0 a1 k
 unfold impl_Headers.f
 repeat' first
   | (with_reducible exact impl_knownFunc.mono _ _ _)
   | (with_reducible exact impl_prog_headers.mono _ _ _ _)
   | (with_reducible exact LeO.refl _)
   | (with_reducible exact LeO.none _)
   | (with_reducible refine LeO.ite ?_ ?_)
   | (with_reducible refine LeO.bind ?_ (fun _ => ?_))
theorem impl_Headers.calls (k : Nat) (A0_0 : Option Addr) (c0_0 : Nat) (l0_0 : List (S100)) (a1 : Int) (r : List Int) (w : World) (hr0_0 : Kd.C k100 w A0_0 l0_0.length l0_0) (hc0_0 : l0_0.length ≤ c0_0) (h : impl_Headers.f k l0_0 a1 = some r) :
  Calls Try.prog 26 #[.agg #[.slice A0_0 l0_0.length c0_0], .int .i64 a1] w fun e w' => ∃ v0_ : Value, e = .returned (v0_) ∧ Kd.R (Kd.int .i64) 2 w' w.heap.size (fun _ => True) v0_ r ∧ Below w.heap.size w w' := by
 have hu30 := Try.underlying30
 have HR0_0 := am hr0_0
 have HC0_0 := am hc0_0
 clear hr0_0 hc0_0
 have HB := am (Below.refl w.heap.size w)
 have H : ((impl_knownFunc.f k l0_0 a1).bind fun bt389 => (if bt389.2.2 = true then ((impl_prog_headers.f k bt389.1 bt389.2.1 a1).bind fun t397 => (some t397)) else (some ([] : List Int)))) = some r := h
 clear h
 replace H := Option.bind_eq_some_iff.mp H
 obtain ⟨⟨t389, t392, t396⟩, A30, H⟩ := H
 replace H : (if t396 = true then ((impl_prog_headers.f k t389 t392 a1).bind fun t397 => (some t397)) else (some ([] : List Int))) = some r := H
 have A3 := am A30
 clear A30
 by_cases c4 : t396 = true
 ·subst c4
  have H1 : ((impl_prog_headers.f k t389 t392 a1).bind fun t397 => (some t397)) = some r := by rw [if_pos rfl] at H; exact H
  clear H
  have H := H1
  clear H1
  replace H := Option.bind_eq_some_iff.mp H
  obtain ⟨t397, A50, H⟩ := H
  replace H : (some t397) = some r := H
  have A5 := am A50
  clear A50
  obtain rfl := Option.some.inj H
  go_enter Try.func26, Try.ntmps26
  go_wp2_with (first | ((with_reducible refine gate_dst (N := 2) rfl ?_); refine box_event ?hg (N := 2) ?hd (cs := #[.slice A0_0 l0_0.length c0_0]) (t := 30) ?hr ?_; (case hd => rfl); (case hg => rfl); (case hr => exact gs); intro gb388 hg w6 hbox hb; have BK388 := am (hbox); have GW388 := am ((by rw [hg]; exact (below_size (bw HB)) : w.heap.size ≤ gb388)); have GE388 := am ((by rw [hg]; exact (below_size (bw HB)) : w.heap.size ≤ gb388)); replace HB := am (below_step (bw HB) hb); clear hb hbox hg; have hcz7_0 : w6.cell? ⟨gb388, 0, none⟩ = some (.slice A0_0 l0_0.length c0_0) := bc BK388 0; have hfz7_0 := bf BK388 0) | ((with_reducible refine gate_callee (f := 60) rfl ?_); refine goesL_ (some 10) rfl rfl Try.func60 (by kernel_rfl) rfl #[.agg #[.slice A0_0 l0_0.length c0_0], .int .i64 a1] rfl gl ?_; (with_reducible refine (impl_knownFunc.calls k (fun k_ => k_ < w.heap.size) _ _ l0_0 a1 t389 t392 true _ ?side1 A3.out).mono ?_); (case side1 => exact Kd.V_mk HC0_0.out (Kd.F_below (Kd.C_F k100_heap HR0_0.out) (bw HB))); rintro e w8 ⟨v390, v393, gb395, rfl, ho0, ho1, hbx, hgx, hb⟩; refine ⟨_, rfl, ?_⟩; have HO391 := am (Kd.V_lower (Kd.V_mono (ok' := fun k_ => some k_ ≠ (v393 : Value).ownBlock ∧ k_ ≠ gb388) ho0 (fun k_ hk_ => ⟨hk_.2, Or.elim hk_.1 (fun hs_ => fun e_ => Nat.not_le.2 hs_ (by rw [e_]; exact GW388.out)) (fun hn_ => (Kd.freshB (g := gb388) (o := .cells #[.slice A0_0 l0_0.length c0_0] 30 (0, 0)) (bp BK388) k_ hn_))⟩)) (below_size (bw HB))); have HO394 := am (Kd.S_lower (Kd.S_mono (ok' := fun k_ => True) ho1 (fun _ hk_ => trivial)) (below_size (bw HB))); have BK395 := am (hbx); have GW395 := am ((Nat.le_trans (below_size (bw HB)) hgx)); have GE395 := am ((Nat.le_trans (below_size (bw HB)) hgx)); have NB388_395 := am ((Nat.ne_of_lt (Nat.lt_of_lt_of_le (blk_lt (g := gb388) (o := .cells #[.slice A0_0 l0_0.length c0_0] 30 (0, 0)) (bp BK388)) hgx) : gb388 ≠ gb395)); have NB395_388 := am ((Nat.ne_of_gt (Nat.lt_of_lt_of_le (blk_lt (g := gb388) (o := .cells #[.slice A0_0 l0_0.length c0_0] 30 (0, 0)) (bp BK388)) hgx) : gb395 ≠ gb388)); replace BK388 := am (blk_below (g := gb388) (o := .cells #[.slice A0_0 l0_0.length c0_0] 30 (0, 0)) (bp BK388) hb); replace HB := am (below_step (bw HB) hb); (try clear hb); (try clear hb2); (try clear hk); (try clear hi); (try clear ho0); (try clear ho1); (try clear hbx); (try clear hgx); obtain ⟨Ao9, co9, eo9⟩ := Kd.V_slice HO391.out; subst eo9; obtain ⟨Ao10, co10, eo10⟩ := Kd.S_slice HO394.out; subst eo10) | ((with_reducible refine gate_callee (f := 69) rfl ?_); refine goesL_ (some 17) rfl rfl Try.func69 (by kernel_rfl) rfl #[.pointer (some ⟨gb395, 0, none⟩), .int .i64 a1] rfl gl ?_; (refine (impl_prog_headers.calls k gb395 Ao9 co9 t389 Ao10 co10 t392 a1 t397 _ ?side1 ?side2 ?side3 ?side4 ?side5 A5.out).mono ?_); (case side1 => exact (bp BK395)); (case side2 => exact cc (Kd.V_reads' HO391.out).2.2); (case side3 => exact (Kd.V_reads' HO391.out).2.1); (case side4 => exact cc (Kd.S_reads' HO394.out).2.2); (case side5 => exact (Kd.S_reads' HO394.out).2.1); rintro e w11 ⟨v398, rfl, ho0, hb⟩; refine ⟨_, rfl, ?_⟩; replace HO391 := am (Kd.V_elder' (kV HO391) (Kd.R_base ho0) hb); replace HO394 := am (Kd.S_elder' (kS HO394) (Kd.R_base ho0) hb); have HO399 := am (Kd.R_lower ho0 (below_size (bw HB))); replace BK388 := am (blk_below (g := gb388) (o := .cells #[.slice A0_0 l0_0.length c0_0] 30 (0, 0)) (bp BK388) hb); replace BK395 := am (blk_below (g := gb395) (o := .cells #[.slice Ao9 t389.length co9, .slice Ao10 t392.length co10] 92 (0, 0)) (bp BK395) hb); replace HB := am (below_step (bw HB) hb); (try clear hb); (try clear hb2); (try clear hk); (try clear hi); (try clear ho0)))
  go_ret
  exact ⟨_, er, kR HO399, bw HB⟩
 ·replace c4 := Bool.eq_false_iff.mpr c4
  subst c4
  have H1 : (some ([] : List Int)) = some r := by rw [if_neg (show ¬ (false = true) by decide)] at H; exact H
  clear H
  have H := H1
  clear H1
  obtain rfl := Option.some.inj H
  go_enter Try.func26, Try.ntmps26
  go_wp2_with (first | ((with_reducible refine gate_dst (N := 2) rfl ?_); refine box_event ?hg (N := 2) ?hd (cs := #[.slice A0_0 l0_0.length c0_0]) (t := 30) ?hr ?_; (case hd => rfl); (case hg => rfl); (case hr => exact gs); intro gb388 hg w12 hbox hb; have BK388 := am (hbox); have GW388 := am ((by rw [hg]; exact (below_size (bw HB)) : w.heap.size ≤ gb388)); have GE388 := am ((by rw [hg]; exact (below_size (bw HB)) : w.heap.size ≤ gb388)); replace HB := am (below_step (bw HB) hb); clear hb hbox hg; have hcz13_0 : w12.cell? ⟨gb388, 0, none⟩ = some (.slice A0_0 l0_0.length c0_0) := bc BK388 0; have hfz13_0 := bf BK388 0) | ((with_reducible refine gate_callee (f := 60) rfl ?_); refine goesL_ (some 10) rfl rfl Try.func60 (by kernel_rfl) rfl #[.agg #[.slice A0_0 l0_0.length c0_0], .int .i64 a1] rfl gl ?_; (with_reducible refine (impl_knownFunc.calls k (fun k_ => k_ < w.heap.size) _ _ l0_0 a1 t389 t392 false _ ?side1 A3.out).mono ?_); (case side1 => exact Kd.V_mk HC0_0.out (Kd.F_below (Kd.C_F k100_heap HR0_0.out) (bw HB))); rintro e w14 ⟨v390, v393, gb395, rfl, ho0, ho1, hbx, hgx, hb⟩; refine ⟨_, rfl, ?_⟩; have HO391 := am (Kd.V_lower (Kd.V_mono (ok' := fun k_ => some k_ ≠ (v393 : Value).ownBlock ∧ k_ ≠ gb388) ho0 (fun k_ hk_ => ⟨hk_.2, Or.elim hk_.1 (fun hs_ => fun e_ => Nat.not_le.2 hs_ (by rw [e_]; exact GW388.out)) (fun hn_ => (Kd.freshB (g := gb388) (o := .cells #[.slice A0_0 l0_0.length c0_0] 30 (0, 0)) (bp BK388) k_ hn_))⟩)) (below_size (bw HB))); have HO394 := am (Kd.S_lower (Kd.S_mono (ok' := fun k_ => True) ho1 (fun _ hk_ => trivial)) (below_size (bw HB))); have BK395 := am (hbx); have GW395 := am ((Nat.le_trans (below_size (bw HB)) hgx)); have GE395 := am ((Nat.le_trans (below_size (bw HB)) hgx)); have NB388_395 := am ((Nat.ne_of_lt (Nat.lt_of_lt_of_le (blk_lt (g := gb388) (o := .cells #[.slice A0_0 l0_0.length c0_0] 30 (0, 0)) (bp BK388)) hgx) : gb388 ≠ gb395)); have NB395_388 := am ((Nat.ne_of_gt (Nat.lt_of_lt_of_le (blk_lt (g := gb388) (o := .cells #[.slice A0_0 l0_0.length c0_0] 30 (0, 0)) (bp BK388)) hgx) : gb395 ≠ gb388)); replace BK388 := am (blk_below (g := gb388) (o := .cells #[.slice A0_0 l0_0.length c0_0] 30 (0, 0)) (bp BK388) hb); replace HB := am (below_step (bw HB) hb); (try clear hb); (try clear hb2); (try clear hk); (try clear hi); (try clear ho0); (try clear ho1); (try clear hbx); (try clear hgx)))
  go_ret
  exact ⟨_, er, by first | exact Kd.R_nil _ _ _ _ _ | exact Kd.N_nil _ _ _ _ _ | exact Kd.V_nil _ _ _ _ _ | exact Kd.Q_nil _ _ _ _ _ | exact Kd.S_nil _ _ _ _ _, bw HB⟩

end Go.Proofs.Ytbmjmaahcaoajaa.QFnExactHeaders
