import Derived.Test.YtbmjmaahcaoajaaCFnExactFileBytesx0
import Derived.Test.YtbmjmaahcaoajaaCFnExactFileBytesx8
import Derived.Test.YtbmjmaahcaoajaaCFnExactFileBytesx9
import Derived.Test.YtbmjmaahcaoajaaCFnExactFileBytesx11
namespace Go.Proofs.Ytbmjmaahcaoajaa.QFnExactFileBytes
open Go.RowKit Go.Proofs.YtbmjmaahcaoajaaW
open PrintWords PrintLast PrintMore PrintShort
attribute [local go_sem] max2_int min2_int max_two min_two max_three min_three max_four min_four   -- for this text's walks alone
set_option linter.unusedVariables false
set_option maxHeartbeats 8000000
set_option maxRecDepth 100000
set_option linter.unusedSimpArgs false

mutual
def impl_verify.j0 : Nat → Bool → List (S100) → Option (Int × Int × Int × (List (List Int)))
 | 0, _, _ => none
 | k + 1, x21, x351000 => if x21 = true then (some (0, 0, 1, ([] : List (List Int)))) else (impl_verify.l0 k ([] : List (List Int)) x351000 (x351000.length : Int) 0 x351000)
def impl_verify.l0 : Nat → List (List Int) → List (S100) → Int → Int → List (S100) → Option (Int × Int × Int × (List (List Int)))
 | 0, _, _, _, _, _ => none
 | k + 1, x4, x24, x25, x26, x351000 => if x26 < x25 then (if 0 ≤ x26 then (if x26 < (x24.length : Int) then ((impl_in.f ((rd_T100 x24 x26).f0) 0 4).bind fun t354 => (if t354 = true then ((impl_in.f ((rd_T100 x24 x26).f1) ((rd_T100 x24 x26).f0) 8).bind fun t355 => (if t355 = true then ((impl_in.f (((rd_T100 x24 x26).f2).length : Int) 1 60).bind fun t356 => (impl_verify.j2 k x4 x26 x24 x25 x26 (!t356) x351000 ((rd_T100 x24 x26).f0) ((rd_T100 x24 x26).f1) ((rd_T100 x24 x26).f2))) else (impl_verify.j2 k x4 x26 x24 x25 x26 true x351000 ((rd_T100 x24 x26).f0) ((rd_T100 x24 x26).f1) ((rd_T100 x24 x26).f2)))) else (impl_verify.j2 k x4 x26 x24 x25 x26 true x351000 ((rd_T100 x24 x26).f0) ((rd_T100 x24 x26).f1) ((rd_T100 x24 x26).f2)))) else (none)) else (none)) else (some (0, 0, 0, x4))
def impl_verify.j2 : Nat → List (List Int) → Int → List (S100) → Int → Int → Bool → List (S100) → Int → Int → List (S102) → Option (Int × Int × Int × (List (List Int)))
 | 0, _, _, _, _, _, _, _, _, _, _ => none
 | k + 1, x4, x5, x24, x25, x26, x49, x351000, x354000, x354001, x354002 => if x49 = true then (some (x5, 0, 1, ([] : List (List Int)))) else (impl_verify.l1 k x4 x5 x24 x25 x26 x354002 (x354002.length : Int) 0 x351000)
def impl_verify.l1 : Nat → List (List Int) → Int → List (S100) → Int → Int → List (S102) → Int → Int → List (S100) → Option (Int × Int × Int × (List (List Int)))
 | 0, _, _, _, _, _, _, _, _, _ => none
 | k + 1, x4, x5, x24, x25, x26, x53, x54, x55, x351000 => if x55 < x54 then (if 0 ≤ x55 then (if x55 < (x53.length : Int) then ((impl_InsRight.f k x351000 x5 ((rd_T102 x53 x55).f0) ((rd_T102 x53 x55).f1)).bind fun t359 => (if t359 = true then (impl_verify.l1 k x4 x5 x24 x25 x26 x53 x54 (wrap64 (x55 + 1)) x351000) else (some (x5, x55, 1, ([] : List (List Int)))))) else (none)) else (none)) else ((impl_heightsOf.f k x351000 x5).bind fun bt360 => (if bt360.2.2 = 0 then (if x4.length < 5864062014805 then (impl_verify.l0 k (x4 ++ [bt360.1]) x24 x25 (wrap64 (x26 + 1)) x351000) else (none)) else (some (x5, bt360.2.1, bt360.2.2, ([] : List (List Int))))))
end
def impl_verify.f (k : Nat) (l0_0 : List (S100)) : Option (Int × Int × Int × (List (List Int))) := if (l0_0.length : Int) < 1 then (impl_verify.j0 k true l0_0) else (impl_verify.j0 k (decide ((l0_0.length : Int) > 6)) l0_0)
theorem impl_verify.mono_l : ∀ k, (∀ y0 y1, LeO (impl_verify.j0 k y0 y1) (impl_verify.j0 (k + 1) y0 y1)) ∧ (∀ y0 y1 y2 y3 y4, LeO (impl_verify.l0 k y0 y1 y2 y3 y4) (impl_verify.l0 (k + 1) y0 y1 y2 y3 y4)) ∧ (∀ y0 y1 y2 y3 y4 y5 y6 y7 y8 y9, LeO (impl_verify.j2 k y0 y1 y2 y3 y4 y5 y6 y7 y8 y9) (impl_verify.j2 (k + 1) y0 y1 y2 y3 y4 y5 y6 y7 y8 y9)) ∧ (∀ y0 y1 y2 y3 y4 y5 y6 y7 y8, LeO (impl_verify.l1 k y0 y1 y2 y3 y4 y5 y6 y7 y8) (impl_verify.l1 (k + 1) y0 y1 y2 y3 y4 y5 y6 y7 y8))
 | 0 => ⟨fun _ _ r h => by simp [impl_verify.j0] at h, fun _ _ _ _ _ r h => by simp [impl_verify.l0] at h, fun _ _ _ _ _ _ _ _ _ _ r h => by simp [impl_verify.j2] at h, fun _ _ _ _ _ _ _ _ _ r h => by simp [impl_verify.l1] at h⟩
 | k + 1 => by
  obtain ⟨ih0, ih1, ih2, ih3⟩ := impl_verify.mono_l k
  refine ⟨?_, ?_, ?_, ?_⟩
  ·intro y0 y1
   unfold impl_verify.j0
   repeat' first
   | (with_reducible exact ih0 _ _)
   | (with_reducible exact ih1 _ _ _ _ _)
   | (with_reducible exact ih2 _ _ _ _ _ _ _ _ _ _)
   | (with_reducible exact ih3 _ _ _ _ _ _ _ _ _)
   | (with_reducible exact impl_InsRight.mono _ _ _ _ _)
   | (with_reducible exact impl_heightsOf.mono _ _ _)
   | (with_reducible exact LeO.refl _)
   | (with_reducible exact LeO.none _)
   | (with_reducible refine LeO.ite ?_ ?_)
   | (with_reducible refine LeO.bind ?_ (fun _ => ?_))
  ·intro y0 y1 y2 y3 y4
   unfold impl_verify.l0
   repeat' first
   | (with_reducible exact ih0 _ _)
   | (with_reducible exact ih1 _ _ _ _ _)
   | (with_reducible exact ih2 _ _ _ _ _ _ _ _ _ _)
   | (with_reducible exact ih3 _ _ _ _ _ _ _ _ _)
   | (with_reducible exact impl_InsRight.mono _ _ _ _ _)
   | (with_reducible exact impl_heightsOf.mono _ _ _)
   | (with_reducible exact LeO.refl _)
   | (with_reducible exact LeO.none _)
   | (with_reducible refine LeO.ite ?_ ?_)
   | (with_reducible refine LeO.bind ?_ (fun _ => ?_))
  ·intro y0 y1 y2 y3 y4 y5 y6 y7 y8 y9
   unfold impl_verify.j2
   repeat' first
   | (with_reducible exact ih0 _ _)
   | (with_reducible exact ih1 _ _ _ _ _)
   | (with_reducible exact ih2 _ _ _ _ _ _ _ _ _ _)
   | (with_reducible exact ih3 _ _ _ _ _ _ _ _ _)
   | (with_reducible exact impl_InsRight.mono _ _ _ _ _)
   | (with_reducible exact impl_heightsOf.mono _ _ _)
   | (with_reducible exact LeO.refl _)
   | (with_reducible exact LeO.none _)
   | (with_reducible refine LeO.ite ?_ ?_)
   | (with_reducible refine LeO.bind ?_ (fun _ => ?_))
  ·intro y0 y1 y2 y3 y4 y5 y6 y7 y8
   unfold impl_verify.l1
   repeat' first
   | (with_reducible exact ih0 _ _)
   | (with_reducible exact ih1 _ _ _ _ _)
   | (with_reducible exact ih2 _ _ _ _ _ _ _ _ _ _)
   | (with_reducible exact ih3 _ _ _ _ _ _ _ _ _)
   | (with_reducible exact impl_InsRight.mono _ _ _ _ _)
   | (with_reducible exact impl_heightsOf.mono _ _ _)
   | (with_reducible exact LeO.refl _)
   | (with_reducible exact LeO.none _)
   | (with_reducible refine LeO.ite ?_ ?_)
   | (with_reducible refine LeO.bind ?_ (fun _ => ?_))
theorem impl_verify.mono : ∀ a0 k, LeO (impl_verify.f k a0) (impl_verify.f (k + 1) a0) := by
 intro a0 k
 obtain ⟨ih0, ih1, ih2, ih3⟩ := impl_verify.mono_l k
 unfold impl_verify.f
 repeat' first
   | (with_reducible exact ih0 _ _)
   | (with_reducible exact ih1 _ _ _ _ _)
   | (with_reducible exact ih2 _ _ _ _ _ _ _ _ _ _)
   | (with_reducible exact ih3 _ _ _ _ _ _ _ _ _)
   | (with_reducible exact impl_InsRight.mono _ _ _ _ _)
   | (with_reducible exact impl_heightsOf.mono _ _ _)
   | (with_reducible exact LeO.refl _)
   | (with_reducible exact LeO.none _)
   | (with_reducible refine LeO.ite ?_ ?_)
   | (with_reducible refine LeO.bind ?_ (fun _ => ?_))
theorem impl_verify.calls (k : Nat) (A0_0 : Option Addr) (c0_0 : Nat) (l0_0 : List (S100)) (r1 : Int) (r2 : Int) (r3 : Int) (r4 : List (List Int)) (w : World) (hr0_0 : Kd.C k100 w A0_0 l0_0.length l0_0) (hc0_0 : l0_0.length ≤ c0_0) (h : impl_verify.f k l0_0 = some (r1, r2, r3, r4)) :
  Calls Try.prog 126 #[.agg #[.slice A0_0 l0_0.length c0_0]] w fun e w' => ∃ v3_ : Value, e = .returned (.tuple #[.agg #[.int .i64 r1, .int .i64 r2, .int .i64 r3], v3_]) ∧ Kd.S (Kd.slice 2 (Kd.int .i64)) 26 w' w.heap.size (fun _ => True) v3_ r4 ∧ Below w.heap.size w w' := by
 have hu30 := Try.underlying30
 have hu84 := Try.underlying84
 have hu100 := Try.underlying100
 have hu102 := Try.underlying102
 have HR0_0 := am hr0_0
 have HC0_0 := am hc0_0
 clear hr0_0 hc0_0
 have HB := am (Below.refl w.heap.size w)
 have H : (if (l0_0.length : Int) < 1 then (impl_verify.j0 k true l0_0) else (impl_verify.j0 k (decide ((l0_0.length : Int) > 6)) l0_0)) = some (r1, r2, r3, r4) := h
 clear h
 have HC2 := am H
 clear H
 go_enter Try.func126, Try.ntmps126
 go_upto_region 1 with (first | ((with_reducible refine gate_dst (N := 1) rfl ?_); (try (refine gate_guard (by rfl) ?_; dsimp only)); refine box_event ?hg (N := 1) ?hd (cs := #[.slice A0_0 l0_0.length c0_0]) (t := 30) ?hr ?_; (case hd => rfl); (case hg => rfl); (case hr => exact gs); intro gb350 hg w3 hbox hb; have BK350 := am (hbox); have GW350 := am ((by rw [hg]; exact (below_size (bw HB)) : w.heap.size ≤ gb350)); have GE350 := am ((by rw [hg]; exact (below_size (bw HB)) : w.heap.size ≤ gb350)); replace HB := am (below_step (bw HB) hb); clear hb hbox hg) | ((with_reducible refine gate_dst (N := 2) rfl ?_); (try (refine gate_guard (by rfl) ?_; dsimp only)); refine box_event ?hg (N := 2) ?hd (cs := #[.int .i64 0, .int .i64 0, .int .i64 0]) (t := 84) ?hr ?_; (case hd => rfl); (case hg => rfl); (case hr => exact gs); intro gb351 hg w4 hbox hb; have BK351 := am (hbox); have GW351 := am ((by rw [hg]; exact (below_size (bw HB)) : w.heap.size ≤ gb351)); have GE351 := am ((by rw [hg]; exact (below_size (bw HB)) : w.heap.size ≤ gb351)); replace HB := am (below_step (bw HB) hb); have NB350_351 := am ((by rw [hg]; exact Nat.ne_of_lt (blk_lt (g := gb350) (o := .cells #[.slice A0_0 l0_0.length c0_0] 30 (0, 0)) (bp BK350)) : gb350 ≠ gb351)); have NB351_350 := am ((by rw [hg]; exact Nat.ne_of_gt (blk_lt (g := gb350) (o := .cells #[.slice A0_0 l0_0.length c0_0] 30 (0, 0)) (bp BK350)) : gb351 ≠ gb350)); replace BK350 := am (blk_below (g := gb350) (o := .cells #[.slice A0_0 l0_0.length c0_0] 30 (0, 0)) (bp BK350) hb); clear hb hbox hg))
 (try simp only [Act.put, sa, sz, ss])
 go_cut [21] (fun v21 wc => ∃ (kq : Nat) (x21_1 : Bool), v21 = .bool x21_1 ∧ Aside0 (impl_verify.j0 kq x21_1 l0_0 = some (r1, r2, r3, r4)) ∧ Aside0 (kq ≤ k) ∧ Aside0 (wc.heap[gb350]? = some (.cells #[(.slice A0_0 l0_0.length c0_0)] 30 (0, 0))) ∧ Aside0 (wc.heap[gb351]? = some (.cells #[.int .i64 0, .int .i64 0, .int .i64 0] 84 (0, 0))) ∧ Aside0 (Below w.heap.size w wc))
 case first =>
  have H := HC2.out
  clear HC2
  by_cases c5 : (l0_0.length : Int) < 1
  ·rw [if_pos c5] at H
   have c5b0 := decide_eq_true c5
   have c5b1 : decide (l0_0.length < 1) = true := decide_eq_true (by omega)
   clear c5
   (first | rw [c5b0] | (simp only [i64_w, i32_w]; rw [c5b0]) | skip)
   have H' := am H
   clear H
   have hnb6 := NB350_351.out
   have hnc6 := NB351_350.out
   have hcz7_0 : w4.cell? ⟨gb350, 0, none⟩ = some (.slice A0_0 l0_0.length c0_0) := bc BK350 0
   have hfz7_0 := bf BK350 0
   go_wp2
   go_meet
   case rel => exact ⟨_, (true), dr, H', ⟨by first | omega | exact Nat.le_refl _⟩, ⟨bp BK350⟩, ⟨bp BK351⟩, ⟨bw HB⟩⟩
  ·rw [if_neg c5] at H
   have c5b0 := decide_eq_false c5
   have c5b1 : decide (l0_0.length < 1) = false := decide_eq_false (by omega)
   clear c5
   (first | rw [c5b0] | (simp only [i64_w, i32_w]; rw [c5b0]) | skip)
   have H' := am H
   clear H
   have hnb8 := NB350_351.out
   have hnc8 := NB351_350.out
   have hcz9_0 : w4.cell? ⟨gb350, 0, none⟩ = some (.slice A0_0 l0_0.length c0_0) := bc BK350 0
   have hfz9_0 := bf BK350 0
   go_wp2
   go_meet
   case rel => exact ⟨_, (decide ((l0_0.length : Int) > 6)), dr, H', ⟨by first | omega | exact Nat.le_refl _⟩, ⟨bp BK350⟩, ⟨bp BK351⟩, ⟨bw HB⟩⟩
 case rest =>
  clear HC2
  (try clear c1); (try clear p2); (try clear c5); (try clear c5b0); (try clear c5b1); (try clear c6); (try clear c8); (try clear hcz7_0); (try clear hcz9_0); (try clear hfz7_0); (try clear hfz9_0)
  obtain ⟨kq, x21_1, rfl, HA, HJ1, BK350, BK351, HB⟩ := hcut
  cases kq with
  | zero => exact absurd HA.out (by simp [impl_verify.j0])
  | succ kj1 =>
   have H := HA.out
   clear HA
   simp only [impl_verify.j0] at H
   by_cases c10 : x21_1 = true
   ·subst c10
    have H1 : (some (0, 0, 1, ([] : List (List Int)))) = some (r1, r2, r3, r4) := by rw [if_pos rfl] at H; exact H
    clear H
    have H := H1
    clear H1
    simp only [Option.some.injEq, Prod.mk.injEq] at H
    obtain ⟨rfl, rfl, rfl, rfl⟩ := H
    have hnb11 := NB351_350.out
    have hnc11 := NB350_351.out
    have hcz12_0 : wc.cell? ⟨gb351, 0, none⟩ = some (.int .i64 0) := bc BK351 0
    have hcz12_1 : wc.cell? ⟨gb351, 1, none⟩ = some (.int .i64 0) := bc BK351 1
    have hcz12_2 : wc.cell? ⟨gb351, 2, none⟩ = some (.int .i64 0) := bc BK351 2
    have hfz12_0 := bf BK351 0
    have hfz12_1 := bf BK351 1
    have hfz12_2 := bf BK351 2
    go_wp2
    refine bodyPost_ret (results_ct rfl _ _ gb351 84 #[.int .i64 0, .int .i64 0, .int .i64 1] (0, 0) _ rfl (by (with_reducible repeat (first | apply dN | apply dW | apply dA)); refine blk_put (cs := #[.int .i64 0, .int .i64 0, .int .i64 0]) ?_ 2 _ rfl; (with_reducible repeat (first | apply dN | apply dW | apply dA)); refine blk_put (cs := #[.int .i64 0, .int .i64 0, .int .i64 0]) ?_ 1 _ rfl; (with_reducible repeat (first | apply dN | apply dW | apply dA)); refine blk_put (cs := #[.int .i64 0, .int .i64 0, .int .i64 0]) ?_ 0 _ rfl; exact bp BK351) Try.underlying84 rfl (by kernel_rfl)) rfl ?_
    exact ⟨_, er, by first | exact Kd.S_nil _ _ _ _ _ | exact Kd.N_nil _ _ _ _ _ | exact Kd.V_nil _ _ _ _ _ | exact Kd.Q_nil _ _ _ _ _ | exact Kd.R_nil _ _ _ _ _, bw HB⟩
   ·replace c10 := Bool.eq_false_iff.mpr c10
    subst c10
    have H1 : (impl_verify.l0 kj1 ([] : List (List Int)) l0_0 (l0_0.length : Int) 0 l0_0) = some (r1, r2, r3, r4) := by rw [if_neg (show ¬ (false = true) by decide)] at H; exact H
    clear H
    have H := H1
    clear H1
    have H' := am H
    clear H
    have hnb13 := NB350_351.out
    have hnc13 := NB351_350.out
    have hcz14_0 : wc.cell? ⟨gb350, 0, none⟩ = some (.slice A0_0 l0_0.length c0_0) := bc BK350 0
    have hfz14_0 := bf BK350 0
    go_wp2
    go_loopg [4, 26] kj1 (fun kq v4 v26 w' => ∃ (x4_2 : List (List Int)) (x26_2 : Int) (x352000_2 : Int) (x352001_2 : Int) (x352002_2 : Int), v26 = .int .i64 x26_2 ∧ Aside0 (impl_verify.l0 kq x4_2 l0_0 (l0_0.length : Int) x26_2 l0_0 = some (r1, r2, r3, r4)) ∧ Aside0 (kq ≤ kj1) ∧ Aside0 (Kd.S (Kd.slice 2 (Kd.int .i64)) 26 w' w.heap.size (fun _ => True) v4 x4_2) ∧ Aside0 (w'.heap[gb350]? = some (.cells #[(.slice A0_0 l0_0.length c0_0)] 30 (0, 0))) ∧ Aside0 (w'.heap[gb351]? = some (.cells #[.int .i64 x352000_2, .int .i64 x352001_2, .int .i64 x352002_2] 84 (0, 0))) ∧ Aside0 (Below w.heap.size w w'))
    case atStart => exact ⟨(([] : List (List Int))), (0), (0), (0), (0), dr, H', ⟨Nat.le_refl _⟩, ⟨by first | exact Kd.S_nil _ _ _ _ _ | exact Kd.N_nil _ _ _ _ _ | exact Kd.V_nil _ _ _ _ _ | exact Kd.Q_nil _ _ _ _ _ | exact Kd.R_nil _ _ _ _ _⟩, ⟨bp BK350⟩, ⟨bp BK351⟩, ⟨bw HB⟩⟩
    case round =>
     clear H'
     (try clear c1); (try clear p2); (try clear c5); (try clear c5b0); (try clear c5b1); (try clear c6); (try clear c8); (try clear c10); (try clear c11); (try clear c12); (try clear c13); (try clear hcz12_0); (try clear hcz12_1); (try clear hcz12_2); (try clear hcz14_0); (try clear hcz7_0); (try clear hcz9_0); (try clear hfz12_0); (try clear hfz12_1); (try clear hfz12_2); (try clear hfz14_0); (try clear hfz7_0); (try clear hfz9_0); (try clear p2)
     obtain ⟨x4_2, x26_2, x352000_2, x352001_2, x352002_2, rfl, HA, HK2, HO_4, BK350, BK351, HB⟩ := hrel
     cases gk with
     | zero => exact absurd HA.out (by simp [impl_verify.l0])
     | succ k2 =>
      have H := HA.out
      clear HA
      simp only [impl_verify.l0] at H
      by_cases c15 : x26_2 < (l0_0.length : Int)
      ·rw [if_pos c15] at H
       have c15b0 := decide_eq_true c15
       clear c15
       by_cases c16 : 0 ≤ x26_2
       ·rw [if_pos c16] at H
        have c16b0 := decide_eq_true c16
        clear c16
        by_cases c17 : x26_2 < (l0_0.length : Int)
        ·rw [if_pos c17] at H
         have c17b0 := decide_eq_true c17
         clear c17
         have HC18 := am H
         clear H
         have p352 : 0 ≤ (x26_2 : Int) := of_decide_eq_true as1
         have q352 : x26_2 < (l0_0.length : Int) := of_decide_eq_true as1
         obtain ⟨ad352, A352_2, c352_2, e352, hx352_0, hx352_1, hx352_2, hl352_2, hi352_2⟩ := at_T100 HR0_0.out x26_2 p352 q352
         cases e352
         replace hx352_0 := (HB.out.cell (World.block_lt_of_cell? w _ hx352_0)).trans hx352_0
         replace hx352_1 := (HB.out.cell (World.block_lt_of_cell? w _ hx352_1)).trans hx352_1
         replace hx352_2 := (HB.out.cell (World.block_lt_of_cell? w _ hx352_2)).trans hx352_2
         have HR352_2 := am hi352_2
         have HC352_2 := am hl352_2
         clear hi352_2 hl352_2
         replace p352 := eq_true p352
         replace q352 := eq_true q352
         go_upto_region 7 with (first | ((with_reducible refine gate_dst (N := 6) rfl ?_); (try (refine gate_guard (by rfl) ?_; dsimp only)); refine box_event ?hg (N := 6) ?hd (cs := #[.int .i64 0, .int .i64 0, .slice none 0 0]) (t := 100) ?hr ?_; (case hd => rfl); (case hg => rfl); (case hr => exact gs); intro gb353 hg w19 hbox hb; replace HO_4 := am (Kd.S_below (kS HO_4) hb); have BK353 := am (hbox); have GW353 := am ((by rw [hg]; exact (below_size (bw HB)) : w.heap.size ≤ gb353)); have GE353 := am ((by rw [hg]; exact (below_size (bw HB)) : w.heap.size ≤ gb353)); replace HB := am (below_step (bw HB) hb); have NB350_353 := am ((by rw [hg]; exact Nat.ne_of_lt (blk_lt (g := gb350) (o := .cells #[.slice (some ad352) l0_0.length c0_0] 30 (0, 0)) (bp BK350)) : gb350 ≠ gb353)); have NB353_350 := am ((by rw [hg]; exact Nat.ne_of_gt (blk_lt (g := gb350) (o := .cells #[.slice (some ad352) l0_0.length c0_0] 30 (0, 0)) (bp BK350)) : gb353 ≠ gb350)); replace BK350 := am (blk_below (g := gb350) (o := .cells #[.slice (some ad352) l0_0.length c0_0] 30 (0, 0)) (bp BK350) hb); have NB351_353 := am ((by rw [hg]; exact Nat.ne_of_lt (blk_lt (g := gb351) (o := .cells #[.int .i64 x352000_2, .int .i64 x352001_2, .int .i64 x352002_2] 84 (0, 0)) (bp BK351)) : gb351 ≠ gb353)); have NB353_351 := am ((by rw [hg]; exact Nat.ne_of_gt (blk_lt (g := gb351) (o := .cells #[.int .i64 x352000_2, .int .i64 x352001_2, .int .i64 x352002_2] 84 (0, 0)) (bp BK351)) : gb353 ≠ gb351)); replace BK351 := am (blk_below (g := gb351) (o := .cells #[.int .i64 x352000_2, .int .i64 x352001_2, .int .i64 x352002_2] 84 (0, 0)) (bp BK351) hb); clear hb hbox hg; have hnb20 := NB353_350.out; have hnc20 := NB350_353.out; have hnb21 := NB353_351.out; have hnc21 := NB351_353.out; have hcz22_0 : w19.cell? ⟨gb353, 0, none⟩ = some (.int .i64 0) := bc BK353 0; have hcz22_1 : w19.cell? ⟨gb353, 1, none⟩ = some (.int .i64 0) := bc BK353 1; have hcz22_2 : w19.cell? ⟨gb353, 2, none⟩ = some (.slice none 0 0) := bc BK353 2; have hfz22_0 := bf BK353 0; have hfz22_1 := bf BK353 1; have hfz22_2 := bf BK353 2))
         (try simp only [Act.put, sa, sz, ss])
         go_cut [49] (fun v49 wc => ∃ (kq : Nat) (x49_17 : Bool), v49 = .bool x49_17 ∧ Aside0 (impl_verify.j2 kq x4_2 x26_2 l0_0 (l0_0.length : Int) x26_2 x49_17 l0_0 ((rd_T100 l0_0 x26_2).f0) ((rd_T100 l0_0 x26_2).f1) ((rd_T100 l0_0 x26_2).f2) = some (r1, r2, r3, r4)) ∧ Aside0 (kq ≤ k2) ∧ Aside0 (Kd.S (Kd.slice 2 (Kd.int .i64)) 26 wc w.heap.size (fun _ => True) u4 x4_2) ∧ Aside0 (wc.heap[gb350]? = some (.cells #[(.slice (some ad352) l0_0.length c0_0)] 30 (0, 0))) ∧ Aside0 (wc.heap[gb351]? = some (.cells #[.int .i64 x352000_2, .int .i64 x352001_2, .int .i64 x352002_2] 84 (0, 0))) ∧ Aside0 (wc.heap[gb353]? = some (.cells #[.int .i64 ((rd_T100 l0_0 x26_2).f0), .int .i64 ((rd_T100 l0_0 x26_2).f1), (.slice A352_2 ((rd_T100 l0_0 x26_2).f2).length c352_2)] 100 (0, 0))) ∧ Aside0 (Below w.heap.size w wc))
         case first =>
          have H := HC18.out
          clear HC18
          replace H := Option.bind_eq_some_iff.mp H
          obtain ⟨t354, A230, H⟩ := H
          replace H : (if t354 = true then ((impl_in.f ((rd_T100 l0_0 x26_2).f1) ((rd_T100 l0_0 x26_2).f0) 8).bind fun t355 => (if t355 = true then ((impl_in.f (((rd_T100 l0_0 x26_2).f2).length : Int) 1 60).bind fun t356 => (impl_verify.j2 k2 x4_2 x26_2 l0_0 (l0_0.length : Int) x26_2 (!t356) l0_0 ((rd_T100 l0_0 x26_2).f0) ((rd_T100 l0_0 x26_2).f1) ((rd_T100 l0_0 x26_2).f2))) else (impl_verify.j2 k2 x4_2 x26_2 l0_0 (l0_0.length : Int) x26_2 true l0_0 ((rd_T100 l0_0 x26_2).f0) ((rd_T100 l0_0 x26_2).f1) ((rd_T100 l0_0 x26_2).f2)))) else (impl_verify.j2 k2 x4_2 x26_2 l0_0 (l0_0.length : Int) x26_2 true l0_0 ((rd_T100 l0_0 x26_2).f0) ((rd_T100 l0_0 x26_2).f1) ((rd_T100 l0_0 x26_2).f2))) = some (r1, r2, r3, r4) := H
          have A23 := am A230
          clear A230
          by_cases c24 : t354 = true
          ·subst c24
           have H1 : ((impl_in.f ((rd_T100 l0_0 x26_2).f1) ((rd_T100 l0_0 x26_2).f0) 8).bind fun t355 => (if t355 = true then ((impl_in.f (((rd_T100 l0_0 x26_2).f2).length : Int) 1 60).bind fun t356 => (impl_verify.j2 k2 x4_2 x26_2 l0_0 (l0_0.length : Int) x26_2 (!t356) l0_0 ((rd_T100 l0_0 x26_2).f0) ((rd_T100 l0_0 x26_2).f1) ((rd_T100 l0_0 x26_2).f2))) else (impl_verify.j2 k2 x4_2 x26_2 l0_0 (l0_0.length : Int) x26_2 true l0_0 ((rd_T100 l0_0 x26_2).f0) ((rd_T100 l0_0 x26_2).f1) ((rd_T100 l0_0 x26_2).f2)))) = some (r1, r2, r3, r4) := by rw [if_pos rfl] at H; exact H
           clear H
           have H := H1
           clear H1
           replace H := Option.bind_eq_some_iff.mp H
           obtain ⟨t355, A250, H⟩ := H
           replace H : (if t355 = true then ((impl_in.f (((rd_T100 l0_0 x26_2).f2).length : Int) 1 60).bind fun t356 => (impl_verify.j2 k2 x4_2 x26_2 l0_0 (l0_0.length : Int) x26_2 (!t356) l0_0 ((rd_T100 l0_0 x26_2).f0) ((rd_T100 l0_0 x26_2).f1) ((rd_T100 l0_0 x26_2).f2))) else (impl_verify.j2 k2 x4_2 x26_2 l0_0 (l0_0.length : Int) x26_2 true l0_0 ((rd_T100 l0_0 x26_2).f0) ((rd_T100 l0_0 x26_2).f1) ((rd_T100 l0_0 x26_2).f2))) = some (r1, r2, r3, r4) := H
           have A25 := am A250
           clear A250
           by_cases c26 : t355 = true
           ·subst c26
            have H1 : ((impl_in.f (((rd_T100 l0_0 x26_2).f2).length : Int) 1 60).bind fun t356 => (impl_verify.j2 k2 x4_2 x26_2 l0_0 (l0_0.length : Int) x26_2 (!t356) l0_0 ((rd_T100 l0_0 x26_2).f0) ((rd_T100 l0_0 x26_2).f1) ((rd_T100 l0_0 x26_2).f2))) = some (r1, r2, r3, r4) := by rw [if_pos rfl] at H; exact H
            clear H
            have H := H1
            clear H1
            replace H := Option.bind_eq_some_iff.mp H
            obtain ⟨t356, A270, H⟩ := H
            replace H : (impl_verify.j2 k2 x4_2 x26_2 l0_0 (l0_0.length : Int) x26_2 (!t356) l0_0 ((rd_T100 l0_0 x26_2).f0) ((rd_T100 l0_0 x26_2).f1) ((rd_T100 l0_0 x26_2).f2)) = some (r1, r2, r3, r4) := H
            have A27 := am A270
            clear A270
            have H' := am H
            clear H
            have hnb28 := NB353_350.out
            have hnc28 := NB350_353.out
            have hnb29 := NB353_351.out
            have hnc29 := NB351_353.out
            have hcz30_0 : w19.cell? ⟨gb353, 0, none⟩ = some (.int .i64 0) := bc BK353 0
            have hcz30_1 : w19.cell? ⟨gb353, 1, none⟩ = some (.int .i64 0) := bc BK353 1
            have hcz30_2 : w19.cell? ⟨gb353, 2, none⟩ = some (.slice none 0 0) := bc BK353 2
            have hfz30_0 := bf BK353 0
            have hfz30_1 := bf BK353 1
            have hfz30_2 := bf BK353 2
            go_wp2_with (first | ((with_reducible refine gate_callee (f := 85) rfl ?_); refine goesL_ (some 33) rfl rfl Try.func85 (by kernel_rfl) rfl #[.int .i64 ((rd_T100 l0_0 x26_2).f0), .int .i64 0, .int .i64 4] rfl gl ?_; (with_reducible refine (impl_in.calls ((rd_T100 l0_0 x26_2).f0) 0 4 true _ A23.out).mono ?_); rintro e w' ⟨rfl, ⟨nd, rfl⟩⟩; refine ⟨_, rfl, ?_⟩) | (go_at_call 85; (with_reducible refine (impl_in.calls ((rd_T100 l0_0 x26_2).f1) ((rd_T100 l0_0 x26_2).f0) 8 true _ A25.out).mono ?_); rintro e w' ⟨rfl, ⟨nd, rfl⟩⟩) | (go_at_call 85; (with_reducible refine (impl_in.calls (((rd_T100 l0_0 x26_2).f2).length : Int) 1 60 t356 _ A27.out).mono ?_); rintro e w' ⟨rfl, ⟨nd, rfl⟩⟩))
            go_meet
            case rel => exact ⟨_, (!t356), dr, H', ⟨by have := HJ1.out; have := HK2.out; first | omega | exact Nat.le_refl _⟩, ⟨by (with_reducible repeat (first | apply Kd.S_alloc | apply Kd.S_drewN | apply Kd.S_drew)); exact Kd.S_mono (Kd.S_far (p := ⟨gb353, 2, none⟩) (Kd.S_far (p := ⟨gb353, 1, none⟩) (Kd.S_far (p := ⟨gb353, 0, none⟩) (Kd.S_types HO_4.out BK353.out (by decide)) (fun _ hk => hk.2) (.int .i64 ((rd_T100 l0_0 x26_2).f0))) (fun _ hk => hk.2) (.int .i64 ((rd_T100 l0_0 x26_2).f1))) (fun _ hk => hk.2) (.slice A352_2 ((rd_T100 l0_0 x26_2).f2).length c352_2)) (fun _ hk => trivial)⟩, ⟨by (with_reducible repeat (first | apply dN | apply dW | apply dA)); refine blk_far ?_ NB350_353.out _; (with_reducible repeat (first | apply dN | apply dW | apply dA)); refine blk_far ?_ NB350_353.out _; (with_reducible repeat (first | apply dN | apply dW | apply dA)); refine blk_far ?_ NB350_353.out _; exact bp BK350⟩, ⟨by (with_reducible repeat (first | apply dN | apply dW | apply dA)); refine blk_far ?_ NB351_353.out _; (with_reducible repeat (first | apply dN | apply dW | apply dA)); refine blk_far ?_ NB351_353.out _; (with_reducible repeat (first | apply dN | apply dW | apply dA)); refine blk_far ?_ NB351_353.out _; exact bp BK351⟩, ⟨by (with_reducible repeat (first | apply dN | apply dW | apply dA)); refine blk_put (cs := #[.int .i64 ((rd_T100 l0_0 x26_2).f0), .int .i64 ((rd_T100 l0_0 x26_2).f1), .slice none 0 0]) ?_ 2 _ rfl; (with_reducible repeat (first | apply dN | apply dW | apply dA)); refine blk_put (cs := #[.int .i64 ((rd_T100 l0_0 x26_2).f0), .int .i64 0, .slice none 0 0]) ?_ 1 _ rfl; (with_reducible repeat (first | apply dN | apply dW | apply dA)); refine blk_put (cs := #[.int .i64 0, .int .i64 0, .slice none 0 0]) ?_ 0 _ rfl; exact bp BK353⟩, ⟨bw HB⟩⟩
           ·replace c26 := Bool.eq_false_iff.mpr c26
            subst c26
            have H1 : (impl_verify.j2 k2 x4_2 x26_2 l0_0 (l0_0.length : Int) x26_2 true l0_0 ((rd_T100 l0_0 x26_2).f0) ((rd_T100 l0_0 x26_2).f1) ((rd_T100 l0_0 x26_2).f2)) = some (r1, r2, r3, r4) := by rw [if_neg (show ¬ (false = true) by decide)] at H; exact H
            clear H
            have H := H1
            clear H1
            have H' := am H
            clear H
            have hnb31 := NB353_350.out
            have hnc31 := NB350_353.out
            have hnb32 := NB353_351.out
            have hnc32 := NB351_353.out
            have hcz33_0 : w19.cell? ⟨gb353, 0, none⟩ = some (.int .i64 0) := bc BK353 0
            have hcz33_1 : w19.cell? ⟨gb353, 1, none⟩ = some (.int .i64 0) := bc BK353 1
            have hcz33_2 : w19.cell? ⟨gb353, 2, none⟩ = some (.slice none 0 0) := bc BK353 2
            have hfz33_0 := bf BK353 0
            have hfz33_1 := bf BK353 1
            have hfz33_2 := bf BK353 2
            go_wp2_with (first | ((with_reducible refine gate_callee (f := 85) rfl ?_); refine goesL_ (some 33) rfl rfl Try.func85 (by kernel_rfl) rfl #[.int .i64 ((rd_T100 l0_0 x26_2).f0), .int .i64 0, .int .i64 4] rfl gl ?_; (with_reducible refine (impl_in.calls ((rd_T100 l0_0 x26_2).f0) 0 4 true _ A23.out).mono ?_); rintro e w' ⟨rfl, ⟨nd, rfl⟩⟩; refine ⟨_, rfl, ?_⟩) | (go_at_call 85; (with_reducible refine (impl_in.calls ((rd_T100 l0_0 x26_2).f1) ((rd_T100 l0_0 x26_2).f0) 8 false _ A25.out).mono ?_); rintro e w' ⟨rfl, ⟨nd, rfl⟩⟩))
            go_meet
            case rel => exact ⟨_, (true), dr, H', ⟨by have := HJ1.out; have := HK2.out; first | omega | exact Nat.le_refl _⟩, ⟨by (with_reducible repeat (first | apply Kd.S_alloc | apply Kd.S_drewN | apply Kd.S_drew)); exact Kd.S_mono (Kd.S_far (p := ⟨gb353, 2, none⟩) (Kd.S_far (p := ⟨gb353, 1, none⟩) (Kd.S_far (p := ⟨gb353, 0, none⟩) (Kd.S_types HO_4.out BK353.out (by decide)) (fun _ hk => hk.2) (.int .i64 ((rd_T100 l0_0 x26_2).f0))) (fun _ hk => hk.2) (.int .i64 ((rd_T100 l0_0 x26_2).f1))) (fun _ hk => hk.2) (.slice A352_2 ((rd_T100 l0_0 x26_2).f2).length c352_2)) (fun _ hk => trivial)⟩, ⟨by (with_reducible repeat (first | apply dN | apply dW | apply dA)); refine blk_far ?_ NB350_353.out _; (with_reducible repeat (first | apply dN | apply dW | apply dA)); refine blk_far ?_ NB350_353.out _; (with_reducible repeat (first | apply dN | apply dW | apply dA)); refine blk_far ?_ NB350_353.out _; exact bp BK350⟩, ⟨by (with_reducible repeat (first | apply dN | apply dW | apply dA)); refine blk_far ?_ NB351_353.out _; (with_reducible repeat (first | apply dN | apply dW | apply dA)); refine blk_far ?_ NB351_353.out _; (with_reducible repeat (first | apply dN | apply dW | apply dA)); refine blk_far ?_ NB351_353.out _; exact bp BK351⟩, ⟨by (with_reducible repeat (first | apply dN | apply dW | apply dA)); refine blk_put (cs := #[.int .i64 ((rd_T100 l0_0 x26_2).f0), .int .i64 ((rd_T100 l0_0 x26_2).f1), .slice none 0 0]) ?_ 2 _ rfl; (with_reducible repeat (first | apply dN | apply dW | apply dA)); refine blk_put (cs := #[.int .i64 ((rd_T100 l0_0 x26_2).f0), .int .i64 0, .slice none 0 0]) ?_ 1 _ rfl; (with_reducible repeat (first | apply dN | apply dW | apply dA)); refine blk_put (cs := #[.int .i64 0, .int .i64 0, .slice none 0 0]) ?_ 0 _ rfl; exact bp BK353⟩, ⟨bw HB⟩⟩
          ·replace c24 := Bool.eq_false_iff.mpr c24
           subst c24
           have H1 : (impl_verify.j2 k2 x4_2 x26_2 l0_0 (l0_0.length : Int) x26_2 true l0_0 ((rd_T100 l0_0 x26_2).f0) ((rd_T100 l0_0 x26_2).f1) ((rd_T100 l0_0 x26_2).f2)) = some (r1, r2, r3, r4) := by rw [if_neg (show ¬ (false = true) by decide)] at H; exact H
           clear H
           have H := H1
           clear H1
           have H' := am H
           clear H
           have hnb34 := NB353_350.out
           have hnc34 := NB350_353.out
           have hnb35 := NB353_351.out
           have hnc35 := NB351_353.out
           have hcz36_0 : w19.cell? ⟨gb353, 0, none⟩ = some (.int .i64 0) := bc BK353 0
           have hcz36_1 : w19.cell? ⟨gb353, 1, none⟩ = some (.int .i64 0) := bc BK353 1
           have hcz36_2 : w19.cell? ⟨gb353, 2, none⟩ = some (.slice none 0 0) := bc BK353 2
           have hfz36_0 := bf BK353 0
           have hfz36_1 := bf BK353 1
           have hfz36_2 := bf BK353 2
           go_wp2_with (first | ((with_reducible refine gate_callee (f := 85) rfl ?_); refine goesL_ (some 33) rfl rfl Try.func85 (by kernel_rfl) rfl #[.int .i64 ((rd_T100 l0_0 x26_2).f0), .int .i64 0, .int .i64 4] rfl gl ?_; (with_reducible refine (impl_in.calls ((rd_T100 l0_0 x26_2).f0) 0 4 false _ A23.out).mono ?_); rintro e w' ⟨rfl, ⟨nd, rfl⟩⟩; refine ⟨_, rfl, ?_⟩))
           go_meet
           case rel => exact ⟨_, (true), dr, H', ⟨by have := HJ1.out; have := HK2.out; first | omega | exact Nat.le_refl _⟩, ⟨by (with_reducible repeat (first | apply Kd.S_alloc | apply Kd.S_drewN | apply Kd.S_drew)); exact Kd.S_mono (Kd.S_far (p := ⟨gb353, 2, none⟩) (Kd.S_far (p := ⟨gb353, 1, none⟩) (Kd.S_far (p := ⟨gb353, 0, none⟩) (Kd.S_types HO_4.out BK353.out (by decide)) (fun _ hk => hk.2) (.int .i64 ((rd_T100 l0_0 x26_2).f0))) (fun _ hk => hk.2) (.int .i64 ((rd_T100 l0_0 x26_2).f1))) (fun _ hk => hk.2) (.slice A352_2 ((rd_T100 l0_0 x26_2).f2).length c352_2)) (fun _ hk => trivial)⟩, ⟨by (with_reducible repeat (first | apply dN | apply dW | apply dA)); refine blk_far ?_ NB350_353.out _; (with_reducible repeat (first | apply dN | apply dW | apply dA)); refine blk_far ?_ NB350_353.out _; (with_reducible repeat (first | apply dN | apply dW | apply dA)); refine blk_far ?_ NB350_353.out _; exact bp BK350⟩, ⟨by (with_reducible repeat (first | apply dN | apply dW | apply dA)); refine blk_far ?_ NB351_353.out _; (with_reducible repeat (first | apply dN | apply dW | apply dA)); refine blk_far ?_ NB351_353.out _; (with_reducible repeat (first | apply dN | apply dW | apply dA)); refine blk_far ?_ NB351_353.out _; exact bp BK351⟩, ⟨by (with_reducible repeat (first | apply dN | apply dW | apply dA)); refine blk_put (cs := #[.int .i64 ((rd_T100 l0_0 x26_2).f0), .int .i64 ((rd_T100 l0_0 x26_2).f1), .slice none 0 0]) ?_ 2 _ rfl; (with_reducible repeat (first | apply dN | apply dW | apply dA)); refine blk_put (cs := #[.int .i64 ((rd_T100 l0_0 x26_2).f0), .int .i64 0, .slice none 0 0]) ?_ 1 _ rfl; (with_reducible repeat (first | apply dN | apply dW | apply dA)); refine blk_put (cs := #[.int .i64 0, .int .i64 0, .slice none 0 0]) ?_ 0 _ rfl; exact bp BK353⟩, ⟨bw HB⟩⟩
         case rest =>
          clear HC18
          (try clear c1); (try clear c2); (try clear p2); (try clear c3); (try clear p3); (try clear q3); (try clear hx3); (try clear c5); (try clear c5b0); (try clear c5b1); (try clear c6); (try clear c8); (try clear c10); (try clear c11); (try clear c12); (try clear c13); (try clear c15); (try clear c15b0); (try clear c16); (try clear c16b0); (try clear c17); (try clear c17b0); (try clear c20); (try clear c21); (try clear c24); (try clear c26); (try clear c28); (try clear c29); (try clear c31); (try clear c32); (try clear c34); (try clear c35); (try clear p35); (try clear q35); (try clear hx35); (try clear hcz12_0); (try clear hcz12_1); (try clear hcz12_2); (try clear hcz14_0); (try clear hcz22_0); (try clear hcz22_1); (try clear hcz22_2); (try clear hcz30_0); (try clear hcz30_1); (try clear hcz30_2); (try clear hcz33_0); (try clear hcz33_1); (try clear hcz33_2); (try clear hcz36_0); (try clear hcz36_1); (try clear hcz36_2); (try clear hcz7_0); (try clear hcz9_0); (try clear hfz12_0); (try clear hfz12_1); (try clear hfz12_2); (try clear hfz14_0); (try clear hfz22_0); (try clear hfz22_1); (try clear hfz22_2); (try clear hfz30_0); (try clear hfz30_1); (try clear hfz30_2); (try clear hfz33_0); (try clear hfz33_1); (try clear hfz33_2); (try clear hfz36_0); (try clear hfz36_1); (try clear hfz36_2); (try clear hfz7_0); (try clear hfz9_0); (try clear hx352_0); (try clear hx352_1); (try clear hx352_2); (try clear p2); (try clear p352); (try clear q352)
          obtain ⟨kq, x49_17, rfl, HA, HJ17, HO_4, BK350, BK351, BK353, HB⟩ := hcut
          cases kq with
          | zero => exact absurd HA.out (by simp [impl_verify.j2])
          | succ kj17 =>
           have H := HA.out
           clear HA
           simp only [impl_verify.j2] at H
           by_cases c37 : x49_17 = true
           ·subst c37
            have H1 : (some (x26_2, 0, 1, ([] : List (List Int)))) = some (r1, r2, r3, r4) := by rw [if_pos rfl] at H; exact H
            clear H
            have H := H1
            clear H1
            simp only [Option.some.injEq, Prod.mk.injEq] at H
            obtain ⟨rfl, rfl, rfl, rfl⟩ := H
            have hnb38 := NB351_350.out
            have hnc38 := NB350_351.out
            have hnb39 := NB351_353.out
            have hnc39 := NB353_351.out
            have hcz40_0 : wc.cell? ⟨gb351, 0, none⟩ = some (.int .i64 x352000_2) := bc BK351 0
            have hcz40_1 : wc.cell? ⟨gb351, 1, none⟩ = some (.int .i64 x352001_2) := bc BK351 1
            have hcz40_2 : wc.cell? ⟨gb351, 2, none⟩ = some (.int .i64 x352002_2) := bc BK351 2
            have hfz40_0 := bf BK351 0
            have hfz40_1 := bf BK351 1
            have hfz40_2 := bf BK351 2
            go_wp2
            refine bodyPost_ret (results_ct rfl _ _ gb351 84 #[.int .i64 x26_2, .int .i64 0, .int .i64 1] (0, 0) _ rfl (by (with_reducible repeat (first | apply dN | apply dW | apply dA)); refine blk_put (cs := #[.int .i64 x26_2, .int .i64 0, .int .i64 x352002_2]) ?_ 2 _ rfl; (with_reducible repeat (first | apply dN | apply dW | apply dA)); refine blk_put (cs := #[.int .i64 x26_2, .int .i64 x352001_2, .int .i64 x352002_2]) ?_ 1 _ rfl; (with_reducible repeat (first | apply dN | apply dW | apply dA)); refine blk_put (cs := #[.int .i64 x352000_2, .int .i64 x352001_2, .int .i64 x352002_2]) ?_ 0 _ rfl; exact bp BK351) Try.underlying84 rfl (by kernel_rfl)) rfl ?_
            exact ⟨_, er, by first | exact Kd.S_nil _ _ _ _ _ | exact Kd.N_nil _ _ _ _ _ | exact Kd.V_nil _ _ _ _ _ | exact Kd.Q_nil _ _ _ _ _ | exact Kd.R_nil _ _ _ _ _, bw HB⟩
           ·replace c37 := Bool.eq_false_iff.mpr c37
            subst c37
            have H1 : (impl_verify.l1 kj17 x4_2 x26_2 l0_0 (l0_0.length : Int) x26_2 ((rd_T100 l0_0 x26_2).f2) (((rd_T100 l0_0 x26_2).f2).length : Int) 0 l0_0) = some (r1, r2, r3, r4) := by rw [if_neg (show ¬ (false = true) by decide)] at H; exact H
            clear H
            have H := H1
            clear H1
            have H' := am H
            clear H
            have hnb41 := NB353_350.out
            have hnc41 := NB350_353.out
            have hnb42 := NB353_351.out
            have hnc42 := NB351_353.out
            have hcz43_0 : wc.cell? ⟨gb353, 0, none⟩ = some (.int .i64 ((rd_T100 l0_0 x26_2).f0)) := bc BK353 0
            have hcz43_1 : wc.cell? ⟨gb353, 1, none⟩ = some (.int .i64 ((rd_T100 l0_0 x26_2).f1)) := bc BK353 1
            have hcz43_2 : wc.cell? ⟨gb353, 2, none⟩ = some (.slice A352_2 ((rd_T100 l0_0 x26_2).f2).length c352_2) := bc BK353 2
            have hfz43_0 := bf BK353 0
            have hfz43_1 := bf BK353 1
            have hfz43_2 := bf BK353 2
            go_wp2
            go_loopg [55] kj17 (fun kq v55 w' => ∃ (x55_4 : Int) (x352000_4 : Int) (x352001_4 : Int) (x352002_4 : Int), v55 = .int .i64 x55_4 ∧ Aside0 (impl_verify.l1 kq x4_2 x26_2 l0_0 (l0_0.length : Int) x26_2 ((rd_T100 l0_0 x26_2).f2) (((rd_T100 l0_0 x26_2).f2).length : Int) x55_4 l0_0 = some (r1, r2, r3, r4)) ∧ Aside0 (kq ≤ kj17) ∧ Aside0 (Kd.S (Kd.slice 2 (Kd.int .i64)) 26 w' w.heap.size (fun _ => True) u4 x4_2) ∧ Aside0 (w'.heap[gb350]? = some (.cells #[(.slice (some ad352) l0_0.length c0_0)] 30 (0, 0))) ∧ Aside0 (w'.heap[gb351]? = some (.cells #[.int .i64 x352000_4, .int .i64 x352001_4, .int .i64 x352002_4] 84 (0, 0))) ∧ Aside0 (w'.heap[gb353]? = some (.cells #[.int .i64 ((rd_T100 l0_0 x26_2).f0), .int .i64 ((rd_T100 l0_0 x26_2).f1), (.slice A352_2 ((rd_T100 l0_0 x26_2).f2).length c352_2)] 100 (0, 0))) ∧ Aside0 (Below w.heap.size w w'))
            case atStart => exact ⟨(0), (x352000_2), (x352001_2), (x352002_2), dr, H', ⟨Nat.le_refl _⟩, ⟨kS HO_4⟩, ⟨bp BK350⟩, ⟨bp BK351⟩, ⟨bp BK353⟩, ⟨bw HB⟩⟩
            case round =>
             clear H'
             (try clear c1); (try clear c2); (try clear p2); (try clear c3); (try clear p3); (try clear q3); (try clear hx3); (try clear c4); (try clear c5); (try clear c5b0); (try clear c5b1); (try clear c6); (try clear c8); (try clear c10); (try clear c11); (try clear c12); (try clear c13); (try clear c15); (try clear c15b0); (try clear c16); (try clear c16b0); (try clear c17); (try clear c17b0); (try clear c20); (try clear c21); (try clear c24); (try clear c26); (try clear c28); (try clear c29); (try clear c31); (try clear c32); (try clear c34); (try clear c35); (try clear p35); (try clear q35); (try clear hx35); (try clear c37); (try clear c38); (try clear c39); (try clear c41); (try clear c42); (try clear hcz12_0); (try clear hcz12_1); (try clear hcz12_2); (try clear hcz14_0); (try clear hcz22_0); (try clear hcz22_1); (try clear hcz22_2); (try clear hcz30_0); (try clear hcz30_1); (try clear hcz30_2); (try clear hcz33_0); (try clear hcz33_1); (try clear hcz33_2); (try clear hcz36_0); (try clear hcz36_1); (try clear hcz36_2); (try clear hcz40_0); (try clear hcz40_1); (try clear hcz40_2); (try clear hcz43_0); (try clear hcz43_1); (try clear hcz43_2); (try clear hcz7_0); (try clear hcz9_0); (try clear hfz12_0); (try clear hfz12_1); (try clear hfz12_2); (try clear hfz14_0); (try clear hfz22_0); (try clear hfz22_1); (try clear hfz22_2); (try clear hfz30_0); (try clear hfz30_1); (try clear hfz30_2); (try clear hfz33_0); (try clear hfz33_1); (try clear hfz33_2); (try clear hfz36_0); (try clear hfz36_1); (try clear hfz36_2); (try clear hfz40_0); (try clear hfz40_1); (try clear hfz40_2); (try clear hfz43_0); (try clear hfz43_1); (try clear hfz43_2); (try clear hfz7_0); (try clear hfz9_0); (try clear hx352_0); (try clear hx352_1); (try clear hx352_2); (try clear p2); (try clear p3); (try clear p35); (try clear p352); (try clear q3); (try clear q35); (try clear q352)
             obtain ⟨x55_4, x352000_4, x352001_4, x352002_4, rfl, HA, HK4, HO_4, BK350, BK351, BK353, HB⟩ := hrel
             cases gk with
             | zero => exact absurd HA.out (by simp [impl_verify.l1])
             | succ k4 =>
              have H := HA.out
              clear HA
              simp only [impl_verify.l1] at H
              by_cases c44 : x55_4 < (((rd_T100 l0_0 x26_2).f2).length : Int)
              ·rw [if_pos c44] at H
               have c44b0 := decide_eq_true c44
               clear c44
               by_cases c45 : 0 ≤ x55_4
               ·rw [if_pos c45] at H
                have c45b0 := decide_eq_true c45
                clear c45
                by_cases c46 : x55_4 < (((rd_T100 l0_0 x26_2).f2).length : Int)
                ·rw [if_pos c46] at H
                 have c46b0 := decide_eq_true c46
                 clear c46
                 replace H := Option.bind_eq_some_iff.mp H
                 obtain ⟨t359, A470, H⟩ := H
                 replace H : (if t359 = true then (impl_verify.l1 k4 x4_2 x26_2 l0_0 (l0_0.length : Int) x26_2 ((rd_T100 l0_0 x26_2).f2) (((rd_T100 l0_0 x26_2).f2).length : Int) (wrap64 (x55_4 + 1)) l0_0) else (some (x26_2, x55_4, 1, ([] : List (List Int))))) = some (r1, r2, r3, r4) := H
                 have A47 := am A470
                 clear A470
                 by_cases c48 : t359 = true
                 ·subst c48
                  have H1 : (impl_verify.l1 k4 x4_2 x26_2 l0_0 (l0_0.length : Int) x26_2 ((rd_T100 l0_0 x26_2).f2) (((rd_T100 l0_0 x26_2).f2).length : Int) (wrap64 (x55_4 + 1)) l0_0) = some (r1, r2, r3, r4) := by rw [if_pos rfl] at H; exact H
                  clear H
                  have H := H1
                  clear H1
                  have H' := am H
                  clear H
                  have p357 : 0 ≤ (x55_4 : Int) := of_decide_eq_true as1
                  have q357 : x55_4 < (((rd_T100 l0_0 x26_2).f2).length : Int) := of_decide_eq_true as1
                  obtain ⟨ad357, e357, hx357_0, hx357_1⟩ := at_T102 HR352_2.out x55_4 p357 q357
                  cases e357
                  replace hx357_0 := (HB.out.cell (World.block_lt_of_cell? w _ hx357_0)).trans hx357_0
                  replace hx357_1 := (HB.out.cell (World.block_lt_of_cell? w _ hx357_1)).trans hx357_1
                  replace p357 := eq_true p357
                  replace q357 := eq_true q357
                  go_wp2_with (first | ((with_reducible refine gate_dst (N := 8) rfl ?_); (try (refine gate_guard (by rfl) ?_; dsimp only)); refine box_event ?hg (N := 8) ?hd (cs := #[.int .i64 0, .int .i64 0]) (t := 102) ?hr ?_; (case hd => rfl); (case hg => rfl); (case hr => exact gs); intro gb358 hg w49 hbox hb; replace HO_4 := am (Kd.S_below (kS HO_4) hb); have BK358 := am (hbox); have GW358 := am ((by rw [hg]; exact (below_size (bw HB)) : w.heap.size ≤ gb358)); have GE358 := am ((by rw [hg]; exact (below_size (bw HB)) : w.heap.size ≤ gb358)); replace HB := am (below_step (bw HB) hb); have NB350_358 := am ((by rw [hg]; exact Nat.ne_of_lt (blk_lt (g := gb350) (o := .cells #[.slice (some ad352) l0_0.length c0_0] 30 (0, 0)) (bp BK350)) : gb350 ≠ gb358)); have NB358_350 := am ((by rw [hg]; exact Nat.ne_of_gt (blk_lt (g := gb350) (o := .cells #[.slice (some ad352) l0_0.length c0_0] 30 (0, 0)) (bp BK350)) : gb358 ≠ gb350)); replace BK350 := am (blk_below (g := gb350) (o := .cells #[.slice (some ad352) l0_0.length c0_0] 30 (0, 0)) (bp BK350) hb); have NB351_358 := am ((by rw [hg]; exact Nat.ne_of_lt (blk_lt (g := gb351) (o := .cells #[.int .i64 x352000_4, .int .i64 x352001_4, .int .i64 x352002_4] 84 (0, 0)) (bp BK351)) : gb351 ≠ gb358)); have NB358_351 := am ((by rw [hg]; exact Nat.ne_of_gt (blk_lt (g := gb351) (o := .cells #[.int .i64 x352000_4, .int .i64 x352001_4, .int .i64 x352002_4] 84 (0, 0)) (bp BK351)) : gb358 ≠ gb351)); replace BK351 := am (blk_below (g := gb351) (o := .cells #[.int .i64 x352000_4, .int .i64 x352001_4, .int .i64 x352002_4] 84 (0, 0)) (bp BK351) hb); have NB353_358 := am ((by rw [hg]; exact Nat.ne_of_lt (blk_lt (g := gb353) (o := .cells #[.int .i64 ((rd_T100 l0_0 x26_2).f0), .int .i64 ((rd_T100 l0_0 x26_2).f1), .slice (some ad357) ((rd_T100 l0_0 x26_2).f2).length c352_2] 100 (0, 0)) (bp BK353)) : gb353 ≠ gb358)); have NB358_353 := am ((by rw [hg]; exact Nat.ne_of_gt (blk_lt (g := gb353) (o := .cells #[.int .i64 ((rd_T100 l0_0 x26_2).f0), .int .i64 ((rd_T100 l0_0 x26_2).f1), .slice (some ad357) ((rd_T100 l0_0 x26_2).f2).length c352_2] 100 (0, 0)) (bp BK353)) : gb358 ≠ gb353)); replace BK353 := am (blk_below (g := gb353) (o := .cells #[.int .i64 ((rd_T100 l0_0 x26_2).f0), .int .i64 ((rd_T100 l0_0 x26_2).f1), .slice (some ad357) ((rd_T100 l0_0 x26_2).f2).length c352_2] 100 (0, 0)) (bp BK353) hb); clear hb hbox hg; have hnb50 := NB358_350.out; have hnc50 := NB350_358.out; have hnb51 := NB358_351.out; have hnc51 := NB351_358.out; have hnb52 := NB358_353.out; have hnc52 := NB353_358.out; have hcz53_0 : w49.cell? ⟨gb358, 0, none⟩ = some (.int .i64 0) := bc BK358 0; have hcz53_1 : w49.cell? ⟨gb358, 1, none⟩ = some (.int .i64 0) := bc BK358 1; have hfz53_0 := bf BK358 0; have hfz53_1 := bf BK358 1; have hnb54 := NB350_351.out; have hnc54 := NB351_350.out; have hnb55 := NB350_353.out; have hnc55 := NB353_350.out; have hcz56_0 : w49.cell? ⟨gb350, 0, none⟩ = some (.slice (some ad352) l0_0.length c0_0) := bc BK350 0; have hfz56_0 := bf BK350 0) | ((with_reducible refine gate_callee (f := 173) rfl ?_); refine goesL_ (some 63) rfl rfl Try.func173 (by kernel_rfl) rfl #[.agg #[.slice (some ad352) l0_0.length c0_0], .int .i64 x26_2, .agg #[.int .i64 ((rd_T102 ((rd_T100 l0_0 x26_2).f2) x55_4).f0), .int .i64 ((rd_T102 ((rd_T100 l0_0 x26_2).f2) x55_4).f1)]] rfl gl ?_; (with_reducible refine (impl_InsRight.calls k4 _ _ l0_0 x26_2 ((rd_T102 ((rd_T100 l0_0 x26_2).f2) x55_4).f0) ((rd_T102 ((rd_T100 l0_0 x26_2).f2) x55_4).f1) true _ ?side1 ?side2 A47.out).mono ?_); (case side1 => exact Kd.C_below HR0_0.out (bw HB)); (case side2 => exact HC0_0.out); rintro e w57 ⟨rfl, hb⟩; refine ⟨_, rfl, ?_⟩; replace HO_4 := am (Kd.S_below (by (with_reducible repeat (first | apply Kd.S_alloc | apply Kd.S_drewN | apply Kd.S_drew)); exact (Kd.S_mono (Kd.S_far (p := ⟨gb358, 1, none⟩) (Kd.S_far (p := ⟨gb358, 0, none⟩) (Kd.S_types HO_4.out BK358.out (by decide)) (fun _ hk => hk.2) (.int .i64 ((rd_T102 ((rd_T100 l0_0 x26_2).f2) x55_4).f0))) (fun _ hk => hk.2) (.int .i64 ((rd_T102 ((rd_T100 l0_0 x26_2).f2) x55_4).f1))) (fun _ h_ => h_.1))) hb); replace BK350 := am (blk_below (g := gb350) (o := .cells #[.slice (some ad352) l0_0.length c0_0] 30 (0, 0)) (by (with_reducible repeat (first | apply dN | apply dW | apply dA)); refine blk_far ?_ NB350_358.out _; (with_reducible repeat (first | apply dN | apply dW | apply dA)); refine blk_far ?_ NB350_358.out _; exact bp BK350) hb); replace BK351 := am (blk_below (g := gb351) (o := .cells #[.int .i64 x352000_4, .int .i64 x352001_4, .int .i64 x352002_4] 84 (0, 0)) (by (with_reducible repeat (first | apply dN | apply dW | apply dA)); refine blk_far ?_ NB351_358.out _; (with_reducible repeat (first | apply dN | apply dW | apply dA)); refine blk_far ?_ NB351_358.out _; exact bp BK351) hb); replace BK353 := am (blk_below (g := gb353) (o := .cells #[.int .i64 ((rd_T100 l0_0 x26_2).f0), .int .i64 ((rd_T100 l0_0 x26_2).f1), .slice (some ad357) ((rd_T100 l0_0 x26_2).f2).length c352_2] 100 (0, 0)) (by (with_reducible repeat (first | apply dN | apply dW | apply dA)); refine blk_far ?_ NB353_358.out _; (with_reducible repeat (first | apply dN | apply dW | apply dA)); refine blk_far ?_ NB353_358.out _; exact bp BK353) hb); replace BK358 := am (blk_below (g := gb358) (o := .cells #[.int .i64 ((rd_T102 ((rd_T100 l0_0 x26_2).f2) x55_4).f0), .int .i64 ((rd_T102 ((rd_T100 l0_0 x26_2).f2) x55_4).f1)] 102 (0, 0)) (by (with_reducible repeat (first | apply dN | apply dW | apply dA)); refine blk_put (cs := #[.int .i64 ((rd_T102 ((rd_T100 l0_0 x26_2).f2) x55_4).f0), .int .i64 0]) ?_ 1 _ rfl; (with_reducible repeat (first | apply dN | apply dW | apply dA)); refine blk_put (cs := #[.int .i64 0, .int .i64 0]) ?_ 0 _ rfl; exact bp BK358) hb); replace HB := am (below_step (bw HB) hb); (try clear hb); (try clear hb2); (try clear hk); (try clear hi)))
                  go_roundg k4
                  case measure => have := HJ1.out; have := HK2.out; have := HJ17.out; have := HK4.out; omega
                  case rel => exact ⟨(wrap64 (x55_4 + 1)), (x352000_4), (x352001_4), (x352002_4), dr, H', ⟨by have := HJ1.out; have := HK2.out; have := HJ17.out; have := HK4.out; omega⟩, ⟨kS HO_4⟩, ⟨bp BK350⟩, ⟨bp BK351⟩, ⟨bp BK353⟩, ⟨bw HB⟩⟩
                 ·replace c48 := Bool.eq_false_iff.mpr c48
                  subst c48
                  have H1 : (some (x26_2, x55_4, 1, ([] : List (List Int)))) = some (r1, r2, r3, r4) := by rw [if_neg (show ¬ (false = true) by decide)] at H; exact H
                  clear H
                  have H := H1
                  clear H1
                  simp only [Option.some.injEq, Prod.mk.injEq] at H
                  obtain ⟨rfl, rfl, rfl, rfl⟩ := H
                  have p357 : 0 ≤ (x55_4 : Int) := of_decide_eq_true as1
                  have q357 : x55_4 < (((rd_T100 l0_0 x26_2).f2).length : Int) := of_decide_eq_true as1
                  obtain ⟨ad357, e357, hx357_0, hx357_1⟩ := at_T102 HR352_2.out x55_4 p357 q357
                  cases e357
                  replace hx357_0 := (HB.out.cell (World.block_lt_of_cell? w _ hx357_0)).trans hx357_0
                  replace hx357_1 := (HB.out.cell (World.block_lt_of_cell? w _ hx357_1)).trans hx357_1
                  replace p357 := eq_true p357
                  replace q357 := eq_true q357
                  go_wp2_with (first | ((with_reducible refine gate_dst (N := 8) rfl ?_); (try (refine gate_guard (by rfl) ?_; dsimp only)); refine box_event ?hg (N := 8) ?hd (cs := #[.int .i64 0, .int .i64 0]) (t := 102) ?hr ?_; (case hd => rfl); (case hg => rfl); (case hr => exact gs); intro gb358 hg w58 hbox hb; replace HO_4 := am (Kd.S_below (kS HO_4) hb); have BK358 := am (hbox); have GW358 := am ((by rw [hg]; exact (below_size (bw HB)) : w.heap.size ≤ gb358)); have GE358 := am ((by rw [hg]; exact (below_size (bw HB)) : w.heap.size ≤ gb358)); replace HB := am (below_step (bw HB) hb); have NB350_358 := am ((by rw [hg]; exact Nat.ne_of_lt (blk_lt (g := gb350) (o := .cells #[.slice (some ad352) l0_0.length c0_0] 30 (0, 0)) (bp BK350)) : gb350 ≠ gb358)); have NB358_350 := am ((by rw [hg]; exact Nat.ne_of_gt (blk_lt (g := gb350) (o := .cells #[.slice (some ad352) l0_0.length c0_0] 30 (0, 0)) (bp BK350)) : gb358 ≠ gb350)); replace BK350 := am (blk_below (g := gb350) (o := .cells #[.slice (some ad352) l0_0.length c0_0] 30 (0, 0)) (bp BK350) hb); have NB351_358 := am ((by rw [hg]; exact Nat.ne_of_lt (blk_lt (g := gb351) (o := .cells #[.int .i64 x352000_4, .int .i64 x352001_4, .int .i64 x352002_4] 84 (0, 0)) (bp BK351)) : gb351 ≠ gb358)); have NB358_351 := am ((by rw [hg]; exact Nat.ne_of_gt (blk_lt (g := gb351) (o := .cells #[.int .i64 x352000_4, .int .i64 x352001_4, .int .i64 x352002_4] 84 (0, 0)) (bp BK351)) : gb358 ≠ gb351)); replace BK351 := am (blk_below (g := gb351) (o := .cells #[.int .i64 x352000_4, .int .i64 x352001_4, .int .i64 x352002_4] 84 (0, 0)) (bp BK351) hb); have NB353_358 := am ((by rw [hg]; exact Nat.ne_of_lt (blk_lt (g := gb353) (o := .cells #[.int .i64 ((rd_T100 l0_0 x26_2).f0), .int .i64 ((rd_T100 l0_0 x26_2).f1), .slice (some ad357) ((rd_T100 l0_0 x26_2).f2).length c352_2] 100 (0, 0)) (bp BK353)) : gb353 ≠ gb358)); have NB358_353 := am ((by rw [hg]; exact Nat.ne_of_gt (blk_lt (g := gb353) (o := .cells #[.int .i64 ((rd_T100 l0_0 x26_2).f0), .int .i64 ((rd_T100 l0_0 x26_2).f1), .slice (some ad357) ((rd_T100 l0_0 x26_2).f2).length c352_2] 100 (0, 0)) (bp BK353)) : gb358 ≠ gb353)); replace BK353 := am (blk_below (g := gb353) (o := .cells #[.int .i64 ((rd_T100 l0_0 x26_2).f0), .int .i64 ((rd_T100 l0_0 x26_2).f1), .slice (some ad357) ((rd_T100 l0_0 x26_2).f2).length c352_2] 100 (0, 0)) (bp BK353) hb); clear hb hbox hg; have hnb59 := NB358_350.out; have hnc59 := NB350_358.out; have hnb60 := NB358_351.out; have hnc60 := NB351_358.out; have hnb61 := NB358_353.out; have hnc61 := NB353_358.out; have hcz62_0 : w58.cell? ⟨gb358, 0, none⟩ = some (.int .i64 0) := bc BK358 0; have hcz62_1 : w58.cell? ⟨gb358, 1, none⟩ = some (.int .i64 0) := bc BK358 1; have hfz62_0 := bf BK358 0; have hfz62_1 := bf BK358 1; have hnb63 := NB350_351.out; have hnc63 := NB351_350.out; have hnb64 := NB350_353.out; have hnc64 := NB353_350.out; have hcz65_0 : w58.cell? ⟨gb350, 0, none⟩ = some (.slice (some ad352) l0_0.length c0_0) := bc BK350 0; have hfz65_0 := bf BK350 0) | ((with_reducible refine gate_callee (f := 173) rfl ?_); refine goesL_ (some 63) rfl rfl Try.func173 (by kernel_rfl) rfl #[.agg #[.slice (some ad352) l0_0.length c0_0], .int .i64 x26_2, .agg #[.int .i64 ((rd_T102 ((rd_T100 l0_0 x26_2).f2) x55_4).f0), .int .i64 ((rd_T102 ((rd_T100 l0_0 x26_2).f2) x55_4).f1)]] rfl gl ?_; (with_reducible refine (impl_InsRight.calls k4 _ _ l0_0 x26_2 ((rd_T102 ((rd_T100 l0_0 x26_2).f2) x55_4).f0) ((rd_T102 ((rd_T100 l0_0 x26_2).f2) x55_4).f1) false _ ?side1 ?side2 A47.out).mono ?_); (case side1 => exact Kd.C_below HR0_0.out (bw HB)); (case side2 => exact HC0_0.out); rintro e w66 ⟨rfl, hb⟩; refine ⟨_, rfl, ?_⟩; replace HO_4 := am (Kd.S_below (by (with_reducible repeat (first | apply Kd.S_alloc | apply Kd.S_drewN | apply Kd.S_drew)); exact (Kd.S_mono (Kd.S_far (p := ⟨gb358, 1, none⟩) (Kd.S_far (p := ⟨gb358, 0, none⟩) (Kd.S_types HO_4.out BK358.out (by decide)) (fun _ hk => hk.2) (.int .i64 ((rd_T102 ((rd_T100 l0_0 x26_2).f2) x55_4).f0))) (fun _ hk => hk.2) (.int .i64 ((rd_T102 ((rd_T100 l0_0 x26_2).f2) x55_4).f1))) (fun _ h_ => h_.1))) hb); replace BK350 := am (blk_below (g := gb350) (o := .cells #[.slice (some ad352) l0_0.length c0_0] 30 (0, 0)) (by (with_reducible repeat (first | apply dN | apply dW | apply dA)); refine blk_far ?_ NB350_358.out _; (with_reducible repeat (first | apply dN | apply dW | apply dA)); refine blk_far ?_ NB350_358.out _; exact bp BK350) hb); replace BK351 := am (blk_below (g := gb351) (o := .cells #[.int .i64 x352000_4, .int .i64 x352001_4, .int .i64 x352002_4] 84 (0, 0)) (by (with_reducible repeat (first | apply dN | apply dW | apply dA)); refine blk_far ?_ NB351_358.out _; (with_reducible repeat (first | apply dN | apply dW | apply dA)); refine blk_far ?_ NB351_358.out _; exact bp BK351) hb); replace BK353 := am (blk_below (g := gb353) (o := .cells #[.int .i64 ((rd_T100 l0_0 x26_2).f0), .int .i64 ((rd_T100 l0_0 x26_2).f1), .slice (some ad357) ((rd_T100 l0_0 x26_2).f2).length c352_2] 100 (0, 0)) (by (with_reducible repeat (first | apply dN | apply dW | apply dA)); refine blk_far ?_ NB353_358.out _; (with_reducible repeat (first | apply dN | apply dW | apply dA)); refine blk_far ?_ NB353_358.out _; exact bp BK353) hb); replace BK358 := am (blk_below (g := gb358) (o := .cells #[.int .i64 ((rd_T102 ((rd_T100 l0_0 x26_2).f2) x55_4).f0), .int .i64 ((rd_T102 ((rd_T100 l0_0 x26_2).f2) x55_4).f1)] 102 (0, 0)) (by (with_reducible repeat (first | apply dN | apply dW | apply dA)); refine blk_put (cs := #[.int .i64 ((rd_T102 ((rd_T100 l0_0 x26_2).f2) x55_4).f0), .int .i64 0]) ?_ 1 _ rfl; (with_reducible repeat (first | apply dN | apply dW | apply dA)); refine blk_put (cs := #[.int .i64 0, .int .i64 0]) ?_ 0 _ rfl; exact bp BK358) hb); replace HB := am (below_step (bw HB) hb); (try clear hb); (try clear hb2); (try clear hk); (try clear hi); have hnb67 := NB351_353.out; have hnc67 := NB353_351.out; have hcz68_0 : w66.cell? ⟨gb351, 0, none⟩ = some (.int .i64 x352000_4) := bc BK351 0; have hcz68_1 : w66.cell? ⟨gb351, 1, none⟩ = some (.int .i64 x352001_4) := bc BK351 1; have hcz68_2 : w66.cell? ⟨gb351, 2, none⟩ = some (.int .i64 x352002_4) := bc BK351 2; have hfz68_0 := bf BK351 0; have hfz68_1 := bf BK351 1; have hfz68_2 := bf BK351 2))
                  refine bodyPost_ret (results_ct rfl _ _ gb351 84 #[.int .i64 x26_2, .int .i64 x55_4, .int .i64 1] (0, 0) _ rfl (by (with_reducible repeat (first | apply dN | apply dW | apply dA)); refine blk_put (cs := #[.int .i64 x26_2, .int .i64 x55_4, .int .i64 x352002_4]) ?_ 2 _ rfl; (with_reducible repeat (first | apply dN | apply dW | apply dA)); refine blk_put (cs := #[.int .i64 x26_2, .int .i64 x352001_4, .int .i64 x352002_4]) ?_ 1 _ rfl; (with_reducible repeat (first | apply dN | apply dW | apply dA)); refine blk_put (cs := #[.int .i64 x352000_4, .int .i64 x352001_4, .int .i64 x352002_4]) ?_ 0 _ rfl; exact bp BK351) Try.underlying84 rfl (by kernel_rfl)) rfl ?_
                  exact ⟨_, er, by first | exact Kd.S_nil _ _ _ _ _ | exact Kd.N_nil _ _ _ _ _ | exact Kd.V_nil _ _ _ _ _ | exact Kd.Q_nil _ _ _ _ _ | exact Kd.R_nil _ _ _ _ _, bw HB⟩
                ·rw [if_neg c46] at H
                 exact absurd H (by simp)
               ·rw [if_neg c45] at H
                exact absurd H (by simp)
              ·rw [if_neg c44] at H
               have c44b0 := decide_eq_false c44
               clear c44
               replace H := Option.bind_eq_some_iff.mp H
               obtain ⟨⟨t360, t363, t364⟩, A690, H⟩ := H
               replace H : (if t364 = 0 then (if x4_2.length < 5864062014805 then (impl_verify.l0 k4 (x4_2 ++ [t360]) l0_0 (l0_0.length : Int) (wrap64 (x26_2 + 1)) l0_0) else (none)) else (some (x26_2, t363, t364, ([] : List (List Int))))) = some (r1, r2, r3, r4) := H
               have A69 := am A690
               clear A690
               by_cases c70 : t364 = 0
               ·rw [if_pos c70] at H
                have c70b0 : (t364 == 0) = true := beq_iff_eq.mpr c70
                have c70b1 : (t364 != 0) = false := bne_eq_false_iff_eq.mpr c70
                clear c70
                by_cases c71 : x4_2.length < 5864062014805
                ·rw [if_pos c71] at H
                 have LMc71 := am c71
                 clear c71
                 obtain ⟨y365, hy365⟩ : ∃ y_ : List (List Int), y_ = (x4_2 ++ [t360]) := ⟨_, rfl⟩
                 replace H : (impl_verify.l0 k4 y365 l0_0 (l0_0.length : Int) (wrap64 (x26_2 + 1)) l0_0) = some (r1, r2, r3, r4) := by first | (rw [hy365]; with_reducible exact H) | (have H2_ := (Option.bind_some _ _).symm.trans H; rw [hy365]; with_reducible exact H2_) | (have H2_ := (Option.bind_some _ _).symm.trans H; with_reducible exact H2_) | with_reducible exact H | (rw [hy365]; exact H) | exact H
                 have Ny365 := am hy365
                 clear hy365
                 have H' := am H
                 clear H
                 have hnb72 := NB350_351.out
                 have hnc72 := NB351_350.out
                 have hnb73 := NB350_353.out
                 have hnc73 := NB353_350.out
                 have hcz74_0 : wr.cell? ⟨gb350, 0, none⟩ = some (.slice (some ad352) l0_0.length c0_0) := bc BK350 0
                 have hfz74_0 := bf BK350 0
                 go_wp2_with (first | ((with_reducible refine gate_callee (f := 174) rfl ?_); refine goesL_ (some 72) rfl rfl Try.func174 (by kernel_rfl) rfl #[.agg #[.slice (some ad352) l0_0.length c0_0], .int .i64 x26_2] rfl gl ?_; (with_reducible refine (impl_heightsOf.calls k4 _ _ l0_0 x26_2 t360 t363 t364 _ ?side1 ?side2 A69.out).mono ?_); (case side1 => exact cc (Kd.C_below HR0_0.out HB.out)); (case side2 => exact HC0_0.out); rintro e w75 ⟨v361, rfl, ho0, hb⟩; refine ⟨_, rfl, ?_⟩; replace HO_4 := am (Kd.S_elder' (kS HO_4) (Kd.R_base ho0) hb); have HO362 := am (Kd.R_lower ho0 (below_size (bw HB))); replace BK350 := am (blk_below (g := gb350) (o := .cells #[.slice (some ad352) l0_0.length c0_0] 30 (0, 0)) (bp BK350) hb); replace BK351 := am (blk_below (g := gb351) (o := .cells #[.int .i64 x352000_4, .int .i64 x352001_4, .int .i64 x352002_4] 84 (0, 0)) (bp BK351) hb); replace BK353 := am (blk_below (g := gb353) (o := .cells #[.int .i64 ((rd_T100 l0_0 x26_2).f0), .int .i64 ((rd_T100 l0_0 x26_2).f1), .slice A352_2 ((rd_T100 l0_0 x26_2).f2).length c352_2] 100 (0, 0)) (bp BK353) hb); replace HB := am (below_step (bw HB) hb); (try clear hb); (try clear hb2); (try clear hk); (try clear hi); (try clear ho0); obtain ⟨Ao77, co77, eo77⟩ := Kd.R_slice HO362.out; subst eo77) | ((with_reducible refine gate_builtin (b := .append) (xs := #[.tmp 82, .tmp 84]) rfl ?_); (try (refine gate_guard (by rfl) ?_; dsimp only)); at_builtin; refine Kd.S_append (Kd.slice 2 (Kd.int .i64)) (w0 := w) w.heap.size rfl (.tmp 82) (.tmp 84) 50 26 (.slice none 0 0) 24 rfl Try.underlying50 info26 rfl (by decide) (by omega) u4 x4_2 t360 [.slice Ao77 t360.length co77] (fun _ => True) (fun k_ => some k_ = (.slice Ao77 t360.length co77 : Value).ownBlock) rfl rfl ?aP (fun k_ hk_ => ((Kd.R_mono (ok' := fun k_ => ((fun _ => True)) k_ ∧ some k_ ≠ (u4 : Value).ownBlock) (Kd.R_apart' (HO362.out) (Kd.S_typed HO_4.out) (by decide)) (fun k_ hk => ⟨trivial, hk.2⟩))).1 k_ hk_.symm) ?aF ?aO ?aB ?aS ?aL ?_; (case aP => exact Kd.M_row (Kd.R_mono (Kd.R_tight rfl (Kd.R_mono (ok' := fun k_ => ((fun _ => True)) k_ ∧ some k_ ≠ (u4 : Value).ownBlock) (Kd.R_apart' (HO362.out) (Kd.S_typed HO_4.out) (by decide)) (fun k_ hk => ⟨trivial, hk.2⟩))) (fun _ h_ => h_))); (case aB => exact (bw HB)); (case aF => exact (fun _ _ => trivial)); (case aO => exact (by (with_reducible repeat (first | apply Kd.S_alloc | apply Kd.S_drewN | apply Kd.S_drew)); exact Kd.S_mono HO_4.out (fun k_ hk => ⟨trivial, fun e_ => hk.2 e_⟩))); (case aS => exact (below_size (bw HB))); (case aL => have := LMc71.out; omega); intro v366 w76 ho hb hg hat; rw [← Ny365.out] at ho; replace BK350 := am (blk_grown (g := gb350) (o := .cells #[.slice (some ad352) l0_0.length c0_0] 30 (0, 0)) (bp BK350) hg (Kd.S_ne HO_4.out BK350.out (by decide))); replace BK351 := am (blk_grown (g := gb351) (o := .cells #[.int .i64 x352000_4, .int .i64 x352001_4, .int .i64 x352002_4] 84 (0, 0)) (bp BK351) hg (Kd.S_ne HO_4.out BK351.out (by decide))); replace BK353 := am (blk_grown (g := gb353) (o := .cells #[.int .i64 ((rd_T100 l0_0 x26_2).f0), .int .i64 ((rd_T100 l0_0 x26_2).f1), .slice A352_2 ((rd_T100 l0_0 x26_2).f2).length c352_2] 100 (0, 0)) (bp BK353) hg (Kd.S_ne HO_4.out BK353.out (by decide))); replace HB := am (hb); have HO367 := am (ho); clear HO_4; clear HO362; clear ho hb hg hat))
                 go_roundg k4
                 case measure => have := HJ1.out; have := HK2.out; have := HJ17.out; have := HK4.out; omega
                 case rel => exact ⟨(y365), (wrap64 (x26_2 + 1)), (x352000_4), (x352001_4), (x352002_4), dr, H', ⟨by have := HJ1.out; have := HK2.out; have := HJ17.out; have := HK4.out; omega⟩, ⟨kS HO367⟩, ⟨bp BK350⟩, ⟨bp BK351⟩, ⟨bw HB⟩⟩
                ·rw [if_neg c71] at H
                 exact absurd H (by simp)
               ·rw [if_neg c70] at H
                have c70b0 : (t364 == 0) = false := beq_eq_false_iff_ne.mpr c70
                have c70b1 : (t364 != 0) = true := bne_iff_ne.mpr c70
                simp only [Option.some.injEq, Prod.mk.injEq] at H
                obtain ⟨rfl, rfl, rfl, rfl⟩ := H
                have hnb78 := NB350_351.out
                have hnc78 := NB351_350.out
                have hnb79 := NB350_353.out
                have hnc79 := NB353_350.out
                have hcz80_0 : wr.cell? ⟨gb350, 0, none⟩ = some (.slice (some ad352) l0_0.length c0_0) := bc BK350 0
                have hfz80_0 := bf BK350 0
                go_wp2_with (first | ((with_reducible refine gate_callee (f := 174) rfl ?_); refine goesL_ (some 72) rfl rfl Try.func174 (by kernel_rfl) rfl #[.agg #[.slice (some ad352) l0_0.length c0_0], .int .i64 x26_2] rfl gl ?_; (with_reducible refine (impl_heightsOf.calls k4 _ _ l0_0 x26_2 t360 t363 t364 _ ?side1 ?side2 A69.out).mono ?_); (case side1 => exact cc (Kd.C_below HR0_0.out HB.out)); (case side2 => exact HC0_0.out); rintro e w81 ⟨v361, rfl, ho0, hb⟩; refine ⟨_, rfl, ?_⟩; replace HO_4 := am (Kd.S_elder' (kS HO_4) (Kd.R_base ho0) hb); have HO362 := am (Kd.R_lower ho0 (below_size (bw HB))); replace BK350 := am (blk_below (g := gb350) (o := .cells #[.slice (some ad352) l0_0.length c0_0] 30 (0, 0)) (bp BK350) hb); replace BK351 := am (blk_below (g := gb351) (o := .cells #[.int .i64 x352000_4, .int .i64 x352001_4, .int .i64 x352002_4] 84 (0, 0)) (bp BK351) hb); replace BK353 := am (blk_below (g := gb353) (o := .cells #[.int .i64 ((rd_T100 l0_0 x26_2).f0), .int .i64 ((rd_T100 l0_0 x26_2).f1), .slice A352_2 ((rd_T100 l0_0 x26_2).f2).length c352_2] 100 (0, 0)) (bp BK353) hb); replace HB := am (below_step (bw HB) hb); (try clear hb); (try clear hb2); (try clear hk); (try clear hi); (try clear ho0); have hnb82 := NB351_353.out; have hnc82 := NB353_351.out; have hcz83_0 : w81.cell? ⟨gb351, 0, none⟩ = some (.int .i64 x352000_4) := bc BK351 0; have hcz83_1 : w81.cell? ⟨gb351, 1, none⟩ = some (.int .i64 x352001_4) := bc BK351 1; have hcz83_2 : w81.cell? ⟨gb351, 2, none⟩ = some (.int .i64 x352002_4) := bc BK351 2; have hfz83_0 := bf BK351 0; have hfz83_1 := bf BK351 1; have hfz83_2 := bf BK351 2))
                refine bodyPost_ret (results_ct rfl _ _ gb351 84 #[.int .i64 x26_2, .int .i64 t363, .int .i64 t364] (0, 0) _ rfl (by (with_reducible repeat (first | apply dN | apply dW | apply dA)); refine blk_put (cs := #[.int .i64 x26_2, .int .i64 t363, .int .i64 x352002_4]) ?_ 2 _ rfl; (with_reducible repeat (first | apply dN | apply dW | apply dA)); refine blk_put (cs := #[.int .i64 x26_2, .int .i64 x352001_4, .int .i64 x352002_4]) ?_ 1 _ rfl; (with_reducible repeat (first | apply dN | apply dW | apply dA)); refine blk_put (cs := #[.int .i64 x352000_4, .int .i64 x352001_4, .int .i64 x352002_4]) ?_ 0 _ rfl; exact bp BK351) Try.underlying84 rfl (by kernel_rfl)) rfl ?_
                exact ⟨_, er, by first | exact Kd.S_nil _ _ _ _ _ | exact Kd.N_nil _ _ _ _ _ | exact Kd.V_nil _ _ _ _ _ | exact Kd.Q_nil _ _ _ _ _ | exact Kd.R_nil _ _ _ _ _, bw HB⟩
        ·rw [if_neg c17] at H
         exact absurd H (by simp)
       ·rw [if_neg c16] at H
        exact absurd H (by simp)
      ·rw [if_neg c15] at H
       have c15b0 := decide_eq_false c15
       clear c15
       simp only [Option.some.injEq, Prod.mk.injEq] at H
       obtain ⟨rfl, rfl, rfl, rfl⟩ := H
       have hnb84 := NB351_350.out
       have hnc84 := NB350_351.out
       have hcz85_0 : wr.cell? ⟨gb351, 0, none⟩ = some (.int .i64 x352000_2) := bc BK351 0
       have hcz85_1 : wr.cell? ⟨gb351, 1, none⟩ = some (.int .i64 x352001_2) := bc BK351 1
       have hcz85_2 : wr.cell? ⟨gb351, 2, none⟩ = some (.int .i64 x352002_2) := bc BK351 2
       have hfz85_0 := bf BK351 0
       have hfz85_1 := bf BK351 1
       have hfz85_2 := bf BK351 2
       go_wp2
       refine bodyPost_ret (results_ct rfl _ _ gb351 84 #[.int .i64 0, .int .i64 0, .int .i64 0] (0, 0) _ rfl (by (with_reducible repeat (first | apply dN | apply dW | apply dA)); refine blk_put (cs := #[.int .i64 0, .int .i64 0, .int .i64 x352002_2]) ?_ 2 _ rfl; (with_reducible repeat (first | apply dN | apply dW | apply dA)); refine blk_put (cs := #[.int .i64 0, .int .i64 x352001_2, .int .i64 x352002_2]) ?_ 1 _ rfl; (with_reducible repeat (first | apply dN | apply dW | apply dA)); refine blk_put (cs := #[.int .i64 x352000_2, .int .i64 x352001_2, .int .i64 x352002_2]) ?_ 0 _ rfl; exact bp BK351) Try.underlying84 rfl (by kernel_rfl)) rfl ?_
       exact ⟨_, er, by (with_reducible repeat (first | apply Kd.S_alloc | apply Kd.S_drewN | apply Kd.S_drew)); exact Kd.S_mono (Kd.S_far (p := ⟨gb351, 2, none⟩) (Kd.S_far (p := ⟨gb351, 1, none⟩) (Kd.S_far (p := ⟨gb351, 0, none⟩) (Kd.S_types HO_4.out BK351.out (by decide)) (fun _ hk => hk.2) (.int .i64 0)) (fun _ hk => hk.2) (.int .i64 0)) (fun _ hk => hk.2) (.int .i64 0)) (fun _ hk => trivial), bw HB⟩

def impl_known.f (k : Nat) (l0_0 : List (S100)) : Option ((List (S100)) × (List (List Int)) × Bool) := (impl_verify.f k l0_0).bind fun bt369 => (some (l0_0, bt369.2.2.2, (bt369.2.2.1 == 0)))
theorem impl_known.mono : ∀ a0 k, LeO (impl_known.f k a0) (impl_known.f (k + 1) a0) := by
 intro a0 k
 unfold impl_known.f
 repeat' first
   | (with_reducible exact impl_verify.mono _ _)
   | (with_reducible exact LeO.refl _)
   | (with_reducible exact LeO.none _)
   | (with_reducible refine LeO.ite ?_ ?_)
   | (with_reducible refine LeO.bind ?_ (fun _ => ?_))
def impl_known.T2 : Bool × List (List Nat × List Nat) := (true, [([], []), ([], []), ([0, 1], [0, 1]), ([2], [2]), ([], []), ([4], [4]), ([5], [5]), ([3, 0, 1, 2, 3], [3]), ([6, 7, 0, 1, 2, 3, 4, 5, 6, 7], [6])])
def impl_known.B2 : List Nat := [0, 0, 3, 7, 0, 16, 48, 15, 255]
theorem impl_known.tab2 : rtab .any (opsOf Try.f66 2) = impl_known.T2 := by kernel_rfl
theorem impl_known.bits2 : waitsOk impl_known.T2.2 impl_known.B2 = true := by kernel_rfl
theorem impl_known.calls (k : Nat) (P0_0_ : Nat → Prop) (A0_0 : Option Addr) (c0_0 : Nat) (l0_0 : List (S100)) (r1 : List (S100)) (r2 : List (List Int)) (r3 : Bool) (w : World) (hs0_0 : Kd.V k100 100 w w.heap.size (fun k_ => P0_0_ k_) (.slice A0_0 l0_0.length c0_0) l0_0) (h : impl_known.f k l0_0 = some (r1, r2, r3)) :
  Calls Try.prog 66 #[.agg #[.slice A0_0 l0_0.length c0_0]] w fun e w' => ∃ v0_ v1_ : Value, ∃ g_ : Nat, e = .returned (.tuple #[.pointer (some ⟨g_, 0, none⟩), .bool r3]) ∧ Kd.V k100 100 w' w.heap.size (fun k_ => (P0_0_ k_ ∨ w.heap.size ≤ k_) ∧ some k_ ≠ (v1_ : Value).ownBlock) v0_ r1 ∧ Kd.S (Kd.slice 2 (Kd.int .i64)) 26 w' w.heap.size (fun k_ => (w.heap.size ≤ k_)) v1_ r2 ∧ w'.heap[g_]? = some (.cells #[v0_, v1_] 92 (0, 0)) ∧ w.heap.size ≤ g_ ∧ Below w.heap.size w w' := by
 have hu30 := Try.underlying30
 have hu84 := Try.underlying84
 have hu92 := Try.underlying92
 have HO0_0 := am (show Kd.V k100 100 w w.heap.size (fun k_ => (P0_0_ k_ ∨ w.heap.size ≤ k_)) (.slice A0_0 l0_0.length c0_0) l0_0 from Kd.V_mono hs0_0 (fun k_ hk => .inl hk))
 have HB := am (Below.refl w.heap.size w)
 have H : ((impl_verify.f k l0_0).bind fun bt369 => (some (l0_0, bt369.2.2.2, (bt369.2.2.1 == 0)))) = some (r1, r2, r3) := h
 clear h
 replace H := Option.bind_eq_some_iff.mp H
 obtain ⟨⟨t369, t370, t371, t372⟩, A20, H⟩ := H
 replace H : (some (l0_0, t372, (t371 == 0))) = some (r1, r2, r3) := H
 have A2 := am A20
 clear A20
 simp only [Option.some.injEq, Prod.mk.injEq] at H
 obtain ⟨rfl, rfl, rfl⟩ := H
 go_enter Try.func66, Try.ntmps66
 try go_wp2_with (first | ((with_reducible refine gate_dst (N := 1) rfl ?_); refine box_event ?hg (N := 1) ?hd (cs := #[.slice A0_0 l0_0.length c0_0]) (t := 30) ?hr ?_; (case hd => rfl); (case hg => rfl); (case hr => exact gs); intro gb368 hg w3 hbox hb; replace HO0_0 := am (Kd.V_below (Kd.V_elderB (kV HO0_0) gb368 (Nat.le_of_eq hg.symm)) hb); have BK368 := am (hbox); have GW368 := am ((by rw [hg]; exact (below_size (bw HB)) : w.heap.size ≤ gb368)); have GE368 := am ((by rw [hg]; exact (below_size (bw HB)) : w.heap.size ≤ gb368)); replace HB := am (below_step (bw HB) hb); clear hb hbox hg; have hcz4_0 : w3.cell? ⟨gb368, 0, none⟩ = some (.slice A0_0 l0_0.length c0_0) := bc BK368 0; have hfz4_0 := bf BK368 0) | ((with_reducible refine gate_callee (f := 126) rfl ?_); refine goesL_ (some 8) rfl rfl Try.func126 (by kernel_rfl) rfl #[.agg #[.slice A0_0 l0_0.length c0_0]] rfl gl ?_; (with_reducible refine (impl_verify.calls k _ _ l0_0 t369 t370 t371 t372 _ ?side1 ?side2 A2.out).mono ?_); (case side1 => exact cc (Kd.V_reads' HO0_0.out).2.2); (case side2 => exact (Kd.V_reads' HO0_0.out).2.1); rintro e w5 ⟨v373, rfl, ho0, hb⟩; refine ⟨_, rfl, ?_⟩; replace HO0_0 := am (Kd.V_elder' (kV HO0_0) (Kd.S_base ho0) hb); have HO374 := am (Kd.S_lower (Kd.S_newM (M := fun k_ => (w.heap.size ≤ k_)) ho0 (below_size (bw HB)) (fun k_ h_ => h_)) (below_size (bw HB))); replace BK368 := am (blk_below (g := gb368) (o := .cells #[.slice A0_0 l0_0.length c0_0] 30 (0, 0)) (bp BK368) hb); replace HB := am (below_step (bw HB) hb); (try clear hb); (try clear hb2); (try clear hk); (try clear hi); (try clear ho0)) | ((with_reducible refine gate_dst (N := 4) rfl ?_); refine box_event ?hg (N := 4) ?hd (cs := #[.int .i64 0, .int .i64 0, .int .i64 0]) (t := 84) ?hr ?_; (case hd => rfl); (case hg => rfl); (case hr => exact gs); intro gb375 hg w6 hbox hb; replace HO0_0 := am (Kd.V_below (Kd.V_elderB (kV HO0_0) gb375 (Nat.le_of_eq hg.symm)) hb); replace HO374 := am (Kd.S_below (kS HO374) hb); have BK375 := am (hbox); have GW375 := am ((by rw [hg]; exact (below_size (bw HB)) : w.heap.size ≤ gb375)); have GE375 := am ((by rw [hg]; exact (below_size (bw HB)) : w.heap.size ≤ gb375)); replace HB := am (below_step (bw HB) hb); have NB368_375 := am ((by rw [hg]; exact Nat.ne_of_lt (blk_lt (g := gb368) (o := .cells #[.slice A0_0 l0_0.length c0_0] 30 (0, 0)) (bp BK368)) : gb368 ≠ gb375)); have NB375_368 := am ((by rw [hg]; exact Nat.ne_of_gt (blk_lt (g := gb368) (o := .cells #[.slice A0_0 l0_0.length c0_0] 30 (0, 0)) (bp BK368)) : gb375 ≠ gb368)); replace BK368 := am (blk_below (g := gb368) (o := .cells #[.slice A0_0 l0_0.length c0_0] 30 (0, 0)) (bp BK368) hb); clear hb hbox hg; have hnb7 := NB375_368.out; have hnc7 := NB368_375.out; have hcz8_0 : w6.cell? ⟨gb375, 0, none⟩ = some (.int .i64 0) := bc BK375 0; have hcz8_1 : w6.cell? ⟨gb375, 1, none⟩ = some (.int .i64 0) := bc BK375 1; have hcz8_2 : w6.cell? ⟨gb375, 2, none⟩ = some (.int .i64 0) := bc BK375 2; have hfz8_0 := bf BK375 0; have hfz8_1 := bf BK375 1; have hfz8_2 := bf BK375 2))
 have n0_ : Aside0 (Kd.V k100 100 (((w6.setCell ⟨gb375, 0, none⟩ (.int .i64 t369)).setCell ⟨gb375, 1, none⟩ (.int .i64 t370)).setCell ⟨gb375, 2, none⟩ (.int .i64 t371)) w.heap.size (fun k_ => (P0_0_ k_ ∨ w.heap.size ≤ k_) ∧ some k_ ≠ (v373 : Value).ownBlock ∧ k_ ≠ gb368 ∧ k_ ≠ gb375) (.slice A0_0 l0_0.length c0_0) l0_0) := ⟨by (with_reducible repeat (first | apply Kd.V_alloc | apply Kd.V_drewN | apply Kd.V_drew)); exact Kd.V_mono (Kd.V_far (p := ⟨gb375, 2, none⟩) (Kd.V_far (p := ⟨gb375, 1, none⟩) (Kd.V_far (p := ⟨gb375, 0, none⟩) (Kd.V_mono HO0_0.out (fun k_ hk => (⟨hk, hk.2⟩ : _ ∧ k_ ≠ gb375))) (fun _ hk => hk.2) (.int .i64 t369)) (fun _ hk => hk.2) (.int .i64 t370)) (fun _ hk => hk.2) (.int .i64 t371)) (fun _ hk => ⟨hk.1.1.1.1, ⟨hk.1.1.2, ⟨hk.1.1.1.2, hk.1.2⟩⟩⟩)⟩
 have n1_ : Aside0 (Kd.S (Kd.slice 2 (Kd.int .i64)) 26 (((w6.setCell ⟨gb375, 0, none⟩ (.int .i64 t369)).setCell ⟨gb375, 1, none⟩ (.int .i64 t370)).setCell ⟨gb375, 2, none⟩ (.int .i64 t371)) w.heap.size (fun k_ => (w.heap.size ≤ k_)) v373 t372) := ⟨by (with_reducible repeat (first | apply Kd.S_alloc | apply Kd.S_drewN | apply Kd.S_drew)); exact Kd.S_mono (Kd.S_far (p := ⟨gb375, 2, none⟩) (Kd.S_far (p := ⟨gb375, 1, none⟩) (Kd.S_far (p := ⟨gb375, 0, none⟩) (Kd.S_types HO374.out BK375.out (by decide)) (fun _ hk => hk.2) (.int .i64 t369)) (fun _ hk => hk.2) (.int .i64 t370)) (fun _ hk => hk.2) (.int .i64 t371)) (fun _ hk => hk.1.1)⟩
 have n2_ : Aside0 ((((w6.setCell ⟨gb375, 0, none⟩ (.int .i64 t369)).setCell ⟨gb375, 1, none⟩ (.int .i64 t370)).setCell ⟨gb375, 2, none⟩ (.int .i64 t371)).heap[gb368]? = some (.cells #[.slice A0_0 l0_0.length c0_0] 30 (0, 0))) := ⟨by (with_reducible repeat (first | apply dN | apply dW | apply dA)); refine blk_far ?_ NB368_375.out _; (with_reducible repeat (first | apply dN | apply dW | apply dA)); refine blk_far ?_ NB368_375.out _; (with_reducible repeat (first | apply dN | apply dW | apply dA)); refine blk_far ?_ NB368_375.out _; exact bp BK368⟩
 have n3_ : Aside0 ((((w6.setCell ⟨gb375, 0, none⟩ (.int .i64 t369)).setCell ⟨gb375, 1, none⟩ (.int .i64 t370)).setCell ⟨gb375, 2, none⟩ (.int .i64 t371)).heap[gb375]? = some (.cells #[.int .i64 t369, .int .i64 t370, .int .i64 t371] 84 (0, 0))) := ⟨by (with_reducible repeat (first | apply dN | apply dW | apply dA)); refine blk_put (cs := #[.int .i64 t369, .int .i64 t370, .int .i64 0]) ?_ 2 _ rfl; (with_reducible repeat (first | apply dN | apply dW | apply dA)); refine blk_put (cs := #[.int .i64 t369, .int .i64 0, .int .i64 0]) ?_ 1 _ rfl; (with_reducible repeat (first | apply dN | apply dW | apply dA)); refine blk_put (cs := #[.int .i64 0, .int .i64 0, .int .i64 0]) ?_ 0 _ rfl; exact bp BK375⟩
 have n4_ : Aside0 (Below w.heap.size w (((w6.setCell ⟨gb375, 0, none⟩ (.int .i64 t369)).setCell ⟨gb375, 1, none⟩ (.int .i64 t370)).setCell ⟨gb375, 2, none⟩ (.int .i64 t371))) := ⟨bw HB⟩
 (try clear HO0_0)
 (try clear HO374)
 (try clear BK368)
 (try clear BK375)
 (try clear HB)
 generalize (((w6.setCell ⟨gb375, 0, none⟩ (.int .i64 t369)).setCell ⟨gb375, 1, none⟩ (.int .i64 t370)).setCell ⟨gb375, 2, none⟩ (.int .i64 t371)) = w9 at n0_ n1_ n2_ n3_ n4_ ⊢
 have HO0_0 := n0_
 have HO374 := n1_
 have BK368 := n2_
 have BK375 := n3_
 have HB := n4_
 clear n0_ n1_ n2_ n3_ n4_
 have n0_ := am (Kd.V_drew HO0_0.out)
 have n1_ := am (Kd.S_drew HO374.out)
 have n2_ := am (blk_drew BK368.out)
 have n3_ := am (blk_drew BK375.out)
 have n4_ := am (below_drew1 HB.out)
 clear HO0_0
 clear HO374
 clear BK368
 clear BK375
 clear HB
 have HO0_0 := n0_
 have HO374 := n1_
 have BK368 := n2_
 have BK375 := n3_
 have HB := n4_
 clear n0_ n1_ n2_ n3_ n4_
 obtain ⟨Ao11, co11, eo11⟩ := Kd.S_slice HO374.out
 (first | subst eo11 | (injection eo11 with f1_ f2_ f3_; have f4_ := f1_.symm; have f5_ := f3_.symm; clear f1_ f2_ f3_; subst f4_; subst f5_))
 refine start_ (n := 9) (S := fun w' => w'.cell? ⟨gb368, 0, none⟩ = some (.slice A0_0 l0_0.length c0_0) ∧ w'.cell? ⟨gb375, 0, none⟩ = some (.int .i64 t369) ∧ w'.cell? ⟨gb375, 1, none⟩ = some (.int .i64 t370) ∧ w'.cell? ⟨gb375, 2, none⟩ = some (.int .i64 t371)) (ds := []) #[false, false, false, false, false, false, false, false, false] (by kernel_rfl) rfl rfl ⟨bc BK368 0, bc BK375 0, bc BK375 1, bc BK375 2⟩ (fun hHeld => ?_); refine with_tabW impl_known.tab2 impl_known.bits2 (fun HT_ HW_ => ?_)
 generalize w9.drew = w10 at HO0_0 HO374 BK368 BK375 HB hHeld ⊢
 refine pure_ (i := 1) (N := some 12) (v := ?_) (a' := ?_) #[false, true, false, false, false, false, false, false, false] rfl rfl (any_of HT_.out (by kernel_rfl)) (fun _ _ _ h => h) (Or.inl ⟨by rfl, ?_⟩) ?_ ?_
 rotate_left
 ·intro w'
  go_simp
  with_reducible rfl
 rotate_left
 ·simp only [Act.put, sa, sz, ss, i64_w, i32_w]
  rfl
 refine pure_ (i := 4) (N := some 15) (v := ?_) (a' := ?_) #[false, true, false, false, true, false, false, false, false] rfl rfl (any_of HT_.out (by kernel_rfl)) (fun _ _ _ h => h) (Or.inl ⟨by rfl, ?_⟩) ?_ ?_
 rotate_left
 ·intro w'
  go_simp
  with_reducible rfl
 rotate_left
 ·simp only [Act.put, sa, sz, ss, i64_w, i32_w]
  rfl
 refine take_ (i := 0) (N := some 11) (v := ?_) (a' := ?_) #[true, true, false, false, true, false, false, false, false] rfl rfl (take_ofW HT_.out HW_.out (by kernel_rfl)) (fun _ _ _ h => h) (Or.inl ⟨by rfl, ?_⟩) hHeld ?_ ?_
 rotate_left
 ·rintro w' ⟨s0, s1, s2, s3⟩
  go_simp
  with_reducible rfl
 rotate_left
 ·simp only [Act.put, sa, sz, ss, i64_w, i32_w]
  rfl
 refine pure_ (i := 2) (N := some 13) (v := ?_) (a' := ?_) #[true, true, true, false, true, false, false, false, false] rfl rfl (any_of HT_.out (by kernel_rfl)) (fun _ _ _ h => h) (Or.inl ⟨by rfl, ?_⟩) ?_ ?_
 rotate_left
 ·intro w'
  go_simp
  with_reducible rfl
 rotate_left
 ·simp only [Act.put, sa, sz, ss, i64_w, i32_w]
  rfl
 refine take_ (i := 5) (N := some 16) (v := ?_) (a' := ?_) #[true, true, true, false, true, true, false, false, false] rfl rfl (take_ofW HT_.out HW_.out (by kernel_rfl)) (fun _ _ _ h => h) (Or.inl ⟨by rfl, ?_⟩) hHeld ?_ ?_
 rotate_left
 ·rintro w' ⟨s0, s1, s2, s3⟩
  go_simp
  with_reducible rfl
 rotate_left
 ·simp only [Act.put, sa, sz, ss, i64_w, i32_w]
  rfl
 refine pure_ (i := 6) (N := some 17) (v := ?_) (a' := ?_) #[true, true, true, false, true, true, true, false, false] rfl rfl (any_of HT_.out (by kernel_rfl)) (fun _ _ _ h => h) (Or.inl ⟨by rfl, ?_⟩) ?_ ?_
 rotate_left
 ·intro w'
  go_simp
  with_reducible rfl
 rotate_left
 ·simp only [Act.put, sa, sz, ss, i64_w, i32_w]
  rfl
 refine one_ (i := 3) (N := some 14) #[true, true, true, true, true, true, true, false, false] rfl rfl (one_of HT_.out (by kernel_rfl)) (by decide) (fun K hK => ?_)
 refine box_step ?hg (N := 14) ?hd (cs := #[.slice A0_0 l0_0.length c0_0, .slice Ao11 t372.length co11]) (t := 92) ?hr ?_; (case hd => rfl); (case hg => rfl); (case hr => exact gs)
 intro gb376 hg w12 hbox hb
 have n0_ := am (Kd.V_below (Kd.V_elderB (kV HO0_0) gb376 (Nat.le_of_eq hg.symm)) hb)
 have n1_ := am (Kd.S_below (kS HO374) hb)
 have n2_ := am (blk_below (g := gb368) (o := .cells #[.slice A0_0 l0_0.length c0_0] 30 (0, 0)) (bp BK368) hb)
 have n3_ := am (blk_below (g := gb375) (o := .cells #[.int .i64 t369, .int .i64 t370, .int .i64 t371] 84 (0, 0)) (bp BK375) hb)
 have n4_ := am (below_step (bw HB) hb)
 have n5_ := am (hbox)
 have n6_ := am ((by rw [hg]; exact (below_size (bw HB)) : w.heap.size ≤ gb376))
 have n7_ := am ((by rw [hg]; exact (below_size (bw HB)) : w.heap.size ≤ gb376))
 have n8_ := am ((by rw [hg]; exact Nat.ne_of_lt (blk_lt (g := gb368) (o := .cells #[.slice A0_0 l0_0.length c0_0] 30 (0, 0)) (bp BK368)) : gb368 ≠ gb376))
 have n9_ := am ((by rw [hg]; exact Nat.ne_of_gt (blk_lt (g := gb368) (o := .cells #[.slice A0_0 l0_0.length c0_0] 30 (0, 0)) (bp BK368)) : gb376 ≠ gb368))
 have n10_ := am ((by rw [hg]; exact Nat.ne_of_lt (blk_lt (g := gb375) (o := .cells #[.int .i64 t369, .int .i64 t370, .int .i64 t371] 84 (0, 0)) (bp BK375)) : gb375 ≠ gb376))
 have n11_ := am ((by rw [hg]; exact Nat.ne_of_gt (blk_lt (g := gb375) (o := .cells #[.int .i64 t369, .int .i64 t370, .int .i64 t371] 84 (0, 0)) (bp BK375)) : gb376 ≠ gb375))
 clear HO0_0
 clear HO374
 clear BK368
 clear BK375
 clear HB
 have HO0_0 := n0_
 have HO374 := n1_
 have BK368 := n2_
 have BK375 := n3_
 have HB := n4_
 have BK376 := n5_
 have GW376 := n6_
 have GE376 := n7_
 have NB368_376 := n8_
 have NB376_368 := n9_
 have NB375_376 := n10_
 have NB376_375 := n11_
 clear n0_ n1_ n2_ n3_ n4_ n5_ n6_ n7_ n8_ n9_ n10_ n11_
 clear hb hbox hg
 refine hK.out _ _ ⟨bc BK368 0, bc BK375 0, bc BK375 1, bc BK375 2⟩ (fun hHeld => ?_)
 clear hK K
 refine norm_ (a' := ?_) ?_ ?_
 rotate_left
 ·show Act.put _ (some 14) _ = _
  simp only [Act.put, sa, sz, ss, i64_w, i32_w]
  rfl
 refine pure_ (i := 7) (N := some 2) (v := ?_) (a' := ?_) #[true, true, true, true, true, true, true, true, false] rfl rfl (any_of HT_.out (by kernel_rfl)) (fun _ _ _ h => h) (Or.inl ⟨by rfl, ?_⟩) ?_ ?_
 rotate_left
 ·intro w'
  go_simp
  with_reducible rfl
 rotate_left
 ·simp only [Act.put, sa, sz, ss, i64_w, i32_w]
  rfl
 refine pure_ (i := 8) (N := some 3) (v := ?_) (a' := ?_) #[true, true, true, true, true, true, true, true, true] rfl rfl (any_of HT_.out (by kernel_rfl)) (fun _ _ _ h => h) (Or.inl ⟨by rfl, ?_⟩) ?_ ?_
 rotate_left
 ·intro w'
  go_simp
  with_reducible rfl
 rotate_left
 ·simp only [Act.put, sa, sz, ss, i64_w, i32_w]
  rfl
 refine done_ (done_of HT_.out (by kernel_rfl)) ?_
 try go_wp2
 go_ret2
 exact ⟨_, _, gb376, er, by (with_reducible repeat (first | apply Kd.V_alloc | apply Kd.V_drewN | apply Kd.V_drew)); exact Kd.V_mono HO0_0.out (fun _ hk => ⟨hk.1.1, hk.1.2.1⟩), kS HO374, (bp BK376), GW376.out, bw HB⟩

mutual
def impl_numBytes.j0 : Nat → Int → Option (List Int)
 | 0, _ => none
 | k + 1, x3 => impl_numBytes.l0 k x3 ([] : List Int)
def impl_numBytes.l0 : Nat → Int → List Int → Option (List Int)
 | 0, _, _ => none
 | k + 1, x3, x4 => if x3 ≥ 128 then (if x4.length < 140737488355328 then (impl_numBytes.l0 k (x3 / 128) (x4 ++ [Go.bits .or .u8 ((x3) % 256) 128])) else (none)) else (if x4.length < 140737488355328 then (some (x4 ++ [(x3) % 256])) else (none))
end
def impl_numBytes.f (k : Nat) (a0 : Int) : Option (List Int) := if a0 < 0 then (impl_numBytes.j0 k (Go.bits .xor .u64 18446744073709551615 (IntKind.u64.wrap ((IntKind.u64.wrap (a0)) * 2)))) else (impl_numBytes.j0 k (IntKind.u64.wrap ((IntKind.u64.wrap (a0)) * 2)))
theorem impl_numBytes.mono_l : ∀ k, (∀ y0, LeO (impl_numBytes.j0 k y0) (impl_numBytes.j0 (k + 1) y0)) ∧ (∀ y0 y1, LeO (impl_numBytes.l0 k y0 y1) (impl_numBytes.l0 (k + 1) y0 y1))
 | 0 => ⟨fun _ r h => by simp [impl_numBytes.j0] at h, fun _ _ r h => by simp [impl_numBytes.l0] at h⟩
 | k + 1 => by
  obtain ⟨ih0, ih1⟩ := impl_numBytes.mono_l k
  refine ⟨?_, ?_⟩
  ·intro y0
   unfold impl_numBytes.j0
   repeat' first
   | (with_reducible exact ih0 _)
   | (with_reducible exact ih1 _ _)
   | (with_reducible exact LeO.refl _)
   | (with_reducible exact LeO.none _)
   | (with_reducible refine LeO.ite ?_ ?_)
   | (with_reducible refine LeO.bind ?_ (fun _ => ?_))
  ·intro y0 y1
   unfold impl_numBytes.l0
   repeat' first
   | (with_reducible exact ih0 _)
   | (with_reducible exact ih1 _ _)
   | (with_reducible exact LeO.refl _)
   | (with_reducible exact LeO.none _)
   | (with_reducible refine LeO.ite ?_ ?_)
   | (with_reducible refine LeO.bind ?_ (fun _ => ?_))
theorem impl_numBytes.mono : ∀ a0 k, LeO (impl_numBytes.f k a0) (impl_numBytes.f (k + 1) a0) := by
 intro a0 k
 obtain ⟨ih0, ih1⟩ := impl_numBytes.mono_l k
 unfold impl_numBytes.f
 repeat' first
   | (with_reducible exact ih0 _)
   | (with_reducible exact ih1 _ _)
   | (with_reducible exact LeO.refl _)
   | (with_reducible exact LeO.none _)
   | (with_reducible refine LeO.ite ?_ ?_)
   | (with_reducible refine LeO.bind ?_ (fun _ => ?_))
theorem impl_numBytes.calls (k : Nat) (a0 : Int) (r : List Int) (w : World) (h : impl_numBytes.f k a0 = some r) :
  Calls Try.prog 67 #[.int .i64 a0] w fun e w' => ∃ v0_ : Value, e = .returned (v0_) ∧ Kd.R (Kd.int .u8) 5 w' w.heap.size (fun _ => True) v0_ r ∧ Below w.heap.size w w' := by
 have HB := am (Below.refl w.heap.size w)
 have H : (if a0 < 0 then (impl_numBytes.j0 k (Go.bits .xor .u64 18446744073709551615 (IntKind.u64.wrap ((IntKind.u64.wrap (a0)) * 2)))) else (impl_numBytes.j0 k (IntKind.u64.wrap ((IntKind.u64.wrap (a0)) * 2)))) = some r := h
 clear h
 have HC2 := am H
 clear H
 go_enter Try.func67, Try.ntmps67
 go_upto_if 9 with (fail)
 go_cut [3] (fun v3 wc => ∃ (kq : Nat) (x3_1 : Int), v3 = .int .u64 x3_1 ∧ Aside0 (impl_numBytes.j0 kq x3_1 = some r) ∧ Aside0 (kq ≤ k) ∧ Aside0 (Below w.heap.size w wc))
 case first =>
  have H := HC2.out
  clear HC2
  by_cases c3 : a0 < 0
  ·rw [if_pos c3] at H
   have c3b0 := decide_eq_true c3
   clear c3
   (first | rw [c3b0] | (simp only [i64_w, i32_w]; rw [c3b0]) | skip)
   have H' := am H
   clear H
   go_wp2
   go_meet
   case rel => exact ⟨_, (Go.bits .xor .u64 18446744073709551615 (IntKind.u64.wrap ((IntKind.u64.wrap (a0)) * 2))), dr, H', ⟨by first | omega | exact Nat.le_refl _⟩, ⟨bw HB⟩⟩
  ·rw [if_neg c3] at H
   have c3b0 := decide_eq_false c3
   clear c3
   (first | rw [c3b0] | (simp only [i64_w, i32_w]; rw [c3b0]) | skip)
   have H' := am H
   clear H
   go_wp2
   go_meet
   case rel => exact ⟨_, (IntKind.u64.wrap ((IntKind.u64.wrap (a0)) * 2)), dr, H', ⟨by first | omega | exact Nat.le_refl _⟩, ⟨bw HB⟩⟩
 case rest =>
  clear HC2
  (try clear p2); (try clear c3); (try clear c3b0)
  obtain ⟨kq, x3_1, rfl, HA, HJ1, HB⟩ := hcut
  cases kq with
  | zero => exact absurd HA.out (by simp [impl_numBytes.j0])
  | succ kj1 =>
   have H := HA.out
   clear HA
   simp only [impl_numBytes.j0] at H
   have H' := am H
   clear H
   go_wp2
   go_loopg [3, 4] kj1 (fun kq v3 v4 w' => ∃ (x3_2 : Int) (x4_2 : List Int), v3 = .int .u64 x3_2 ∧ Aside0 (impl_numBytes.l0 kq x3_2 x4_2 = some r) ∧ Aside0 (kq ≤ kj1) ∧ Aside0 (Kd.R (Kd.int .u8) 5 w' w.heap.size (fun _ => True) v4 x4_2) ∧ Aside0 (Below w.heap.size w w'))
   case atStart => exact ⟨(x3_1), (([] : List Int)), dr, H', ⟨Nat.le_refl _⟩, ⟨by first | exact Kd.R_nil _ _ _ _ _ | exact Kd.N_nil _ _ _ _ _ | exact Kd.V_nil _ _ _ _ _ | exact Kd.Q_nil _ _ _ _ _ | exact Kd.S_nil _ _ _ _ _⟩, ⟨bw HB⟩⟩
   case round =>
    clear H'
    (try clear p2); (try clear c3); (try clear c3b0); (try clear p2)
    obtain ⟨x3_2, x4_2, rfl, HA, HK2, HO_4, HB⟩ := hrel
    cases gk with
    | zero => exact absurd HA.out (by simp [impl_numBytes.l0])
    | succ k2 =>
     have H := HA.out
     clear HA
     simp only [impl_numBytes.l0] at H
     by_cases c4 : x3_2 ≥ 128
     ·rw [if_pos c4] at H
      have c4b0 : decide (128 ≤ x3_2) = true := decide_eq_true c4
      clear c4
      by_cases c5 : x4_2.length < 140737488355328
      ·rw [if_pos c5] at H
       have LMc5 := am c5
       clear c5
       obtain ⟨y377, hy377⟩ : ∃ y_ : List Int, y_ = (x4_2 ++ [Go.bits .or .u8 ((x3_2) % 256) 128]) := ⟨_, rfl⟩
       replace H : (impl_numBytes.l0 k2 (x3_2 / 128) y377) = some r := by first | (rw [hy377]; with_reducible exact H) | (have H2_ := (Option.bind_some _ _).symm.trans H; rw [hy377]; with_reducible exact H2_) | (have H2_ := (Option.bind_some _ _).symm.trans H; with_reducible exact H2_) | with_reducible exact H | (rw [hy377]; exact H) | exact H
       have Ny377 := am hy377
       clear hy377
       have H' := am H
       clear H
       go_wp2_with (first | ((with_reducible refine gate_builtin (b := .append) (xs := #[.tmp 14, .tmp 18]) rfl ?_); at_builtin; refine Kd.R_append (Kd.int .u8) (w0 := w) w.heap.size rfl (.tmp 14) (.tmp 18) 96 5 (.int .u8 0) 1 rfl Try.underlying96 info5 rfl (by decide) (by omega) u4 x4_2 (Go.bits .or .u8 ((x3_2) % 256) 128) [.int .u8 (Go.bits .or .u8 ((x3_2) % 256) 128)] (fun _ => True) (fun _ => False) rfl rfl ?aP (fun _ hk => hk.elim) ?aF ?aO ?aB ?aS ?aL ?_; (case aP => exact rfl); (case aB => exact (bw HB)); (case aF => exact (fun _ _ => trivial)); (case aO => exact (kR HO_4)); (case aS => exact (below_size (bw HB))); (case aL => have := LMc5.out; omega); intro v378 w6 ho hb hg hat; rw [← Ny377.out] at ho; replace HB := am (hb); have HO379 := am (ho); clear HO_4; clear ho hb hg hat))
       go_roundg k2
       case measure => have := HJ1.out; have := HK2.out; omega
       case rel => exact ⟨(x3_2 / 128), (y377), dr, H', ⟨by have := HJ1.out; have := HK2.out; omega⟩, ⟨kR HO379⟩, ⟨bw HB⟩⟩
      ·rw [if_neg c5] at H
       exact absurd H (by simp)
     ·rw [if_neg c4] at H
      have c4b0 : decide (128 ≤ x3_2) = false := decide_eq_false c4
      clear c4
      by_cases c7 : x4_2.length < 140737488355328
      ·rw [if_pos c7] at H
       have LMc7 := am c7
       clear c7
       obtain ⟨y380, hy380⟩ : ∃ y_ : List Int, y_ = (x4_2 ++ [(x3_2) % 256]) := ⟨_, rfl⟩
       replace H : (some y380) = some r := by first | (rw [hy380]; with_reducible exact H) | (have H2_ := (Option.bind_some _ _).symm.trans H; rw [hy380]; with_reducible exact H2_) | (have H2_ := (Option.bind_some _ _).symm.trans H; with_reducible exact H2_) | with_reducible exact H | (rw [hy380]; exact H) | exact H
       have Ny380 := am hy380
       clear hy380
       obtain rfl := Option.some.inj H
       go_wp2_with (first | ((with_reducible refine gate_builtin (b := .append) (xs := #[.tmp 22, .tmp 25]) rfl ?_); at_builtin; refine Kd.R_append (Kd.int .u8) (w0 := w) w.heap.size rfl (.tmp 22) (.tmp 25) 96 5 (.int .u8 0) 1 rfl Try.underlying96 info5 rfl (by decide) (by omega) u4 x4_2 ((x3_2) % 256) [.int .u8 ((x3_2) % 256)] (fun _ => True) (fun _ => False) rfl rfl ?aP (fun _ hk => hk.elim) ?aF ?aO ?aB ?aS ?aL ?_; (case aP => exact rfl); (case aB => exact (bw HB)); (case aF => exact (fun _ _ => trivial)); (case aO => exact (kR HO_4)); (case aS => exact (below_size (bw HB))); (case aL => have := LMc7.out; omega); intro v381 w8 ho hb hg hat; rw [← Ny380.out] at ho; replace HB := am (hb); have HO382 := am (ho); clear HO_4; clear ho hb hg hat))
       go_ret
       exact ⟨_, er, kR HO382, bw HB⟩
      ·rw [if_neg c7] at H
       exact absurd H (by simp)

end Go.Proofs.Ytbmjmaahcaoajaa.QFnExactFileBytes
