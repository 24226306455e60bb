import Derived.Test.YthdfokebbcheoaaCFnExactPlainSizex0
import Derived.Test.YthdfokebbcheoaaCFnExactPlainSizex8
namespace Go.Proofs.Ythdfokebbcheoaa.QFnExactPlainSize
open Go.RowKit Go.Proofs.YthdfokebbcheoaaW
open PrintWords PrintLast PrintMore PrintShort PrintIsh
attribute [local go_sem] max2_int min2_int max_two min_two max_three min_three max_four min_four   -- for this text's walks alone
set_option linter.unusedVariables false
set_option maxHeartbeats 8000000
set_option maxRecDepth 100000
set_option linter.unusedSimpArgs false

def impl_busy.l0 : Nat → Int → List (S78) → Int → Int → Option (Int)
 | 0, _, _, _, _ => none
 | k + 1, x3, x7, x8, x9 => if x9 < x8 then (if 0 ≤ x9 then (if x9 < (x7.length : Int) then (if ((rd_T78 x7 x9).f1) = 0 then (impl_busy.l0 k x3 x7 x8 (wrap64 (x9 + 1))) else (impl_busy.l0 k (wrap64 (x3 + 1)) x7 x8 (wrap64 (x9 + 1)))) else (none)) else (none)) else (some x3)
def impl_busy.f (k : Nat) (a0_0 : Int) (l0_1 : List (S78)) (l0_2 : List (List (S95))) : Option (Int) := impl_busy.l0 k 0 l0_1 (l0_1.length : Int) 0
theorem impl_busy.mono_l : ∀ k, (∀ y0 y1 y2 y3, LeO (impl_busy.l0 k y0 y1 y2 y3) (impl_busy.l0 (k + 1) y0 y1 y2 y3))
 | 0 => fun _ _ _ _ r h => by simp [impl_busy.l0] at h
 | k + 1 => by
  have ih0 := impl_busy.mono_l k
  ·intro y0 y1 y2 y3
   unfold impl_busy.l0
   with_reducible repeat' first | exact ih0 .. | exact LeO.refl _ | exact LeO.none _ | refine LeO.ite ?_ ?_ | refine LeO.bind ?_ (fun _ => ?_)
theorem impl_busy.mono : ∀ a0 a1 a2 k, LeO (impl_busy.f k a0 a1 a2) (impl_busy.f (k + 1) a0 a1 a2) := by
 intro a0 a1 a2 k
 have ih0 := impl_busy.mono_l k
 unfold impl_busy.f
 with_reducible repeat' first | exact ih0 .. | exact LeO.refl _ | exact LeO.none _ | refine LeO.ite ?_ ?_ | refine LeO.bind ?_ (fun _ => ?_)
theorem impl_busy.calls (k : Nat) (a0_0 : Int) (A0_1 : Option Addr) (c0_1 : Nat) (l0_1 : List (S78)) (A0_2 : Option Addr) (c0_2 : Nat) (l0_2 : List (List (S95))) (r : Int) (w : World) (hr0_1 : Kd.C k78 w A0_1 l0_1.length l0_1) (hc0_1 : l0_1.length ≤ c0_1) (hr0_2 : Kd.C (Kd.slice 95 k95) w A0_2 l0_2.length l0_2) (hc0_2 : l0_2.length ≤ c0_2) (h : impl_busy.f k a0_0 l0_1 l0_2 = some r) :
  Calls Try.prog 43 #[.agg #[.int .i64 a0_0, .slice A0_1 l0_1.length c0_1, .slice A0_2 l0_2.length c0_2]] w fun e w' => e = .returned (.int .i64 r) ∧ Below w.heap.size w w' := by
 have hu36 := Try.underlying36
 have hu78 := Try.underlying78
 have HR0_1 := am hr0_1
 have HC0_1 := am hc0_1
 clear hr0_1 hc0_1
 have HR0_2 := am hr0_2
 have HC0_2 := am hc0_2
 clear hr0_2 hc0_2
 have HB := am (Below.refl w.heap.size w)
 have H : (impl_busy.l0 k 0 l0_1 (l0_1.length : Int) 0) = some r := h
 clear h
 have H' := am H
 clear H
 go_enter Try.func43, Try.ntmps43
 go_wp2_with (first | ((with_reducible refine gd 1 rfl ?_); refine bX 1 #[.int .i64 a0_0, .slice A0_1 l0_1.length c0_1, .slice A0_2 l0_2.length c0_2] 36 HB ?_; clear HB; intro gb416 w2 hg hb BK416 GW416 HB; clear hb hg; have hcz3 := bK w2 BK416; have hfz3 := bF BK416))
 go_loopg [3, 9] k (fun kq v3 v9 w' => ∃ (x3_1 : Int) (x9_1 : Int), v3 = .int .i64 x3_1 ∧ v9 = .int .i64 x9_1 ∧ Aside0 (impl_busy.l0 kq x3_1 l0_1 (l0_1.length : Int) x9_1 = some r) ∧ Aside0 (kq ≤ k) ∧ Aside0 (w'.heap[gb416]? = some (.cells #[.int .i64 a0_0, (.slice A0_1 l0_1.length c0_1), (.slice A0_2 l0_2.length c0_2)] 36 (0, 0))) ∧ Aside0 (Below w.heap.size w w'))
 case atStart => exact ⟨(0), (0), dr, dr, H', ⟨Nat.le_refl _⟩, ⟨bp BK416⟩, ⟨bw HB⟩⟩
 clear H'
 (try clear p2); (try clear hcz3); (try clear hfz3)
 obtain ⟨x3_1, x9_1, rfl, rfl, HA, HK1, BK416, HB⟩ := hrel
 rcases gk with _ | k1
 ·exact absurd HA.out (by simp [impl_busy.l0])
 have H := HA.out
 clear HA
 simp only [impl_busy.l0] at H
 refine qI H ?_ ?_ <;> clear H <;> intro c4b0 H
 ·refine iM H ?_; clear H; intro c5b0 H
  refine iM H ?_; clear H; intro c6b0 H
  have HC7 := am H
  clear H
  have p417 : 0 ≤ (x9_1 : Int) := of_decide_eq_true as1
  have q417 : x9_1 < (l0_1.length : Int) := of_decide_eq_true as1
  obtain ⟨ad417, A417_0, c417_0, A417_3, c417_3, e417, hx417_0, hx417_1, hx417_2, hx417_3, hx417_4, hl417_0, hi417_0, hl417_3, hi417_3⟩ := at_T78 HR0_1.out x9_1 p417 q417
  cases e417
  replace hx417_0 := cl HB hx417_0
  replace hx417_1 := cl HB hx417_1
  replace hx417_2 := cl HB hx417_2
  replace hx417_3 := cl HB hx417_3
  replace hx417_4 := cl HB hx417_4
  have HR417_0 := am hi417_0
  have HC417_0 := am hl417_0
  clear hi417_0 hl417_0
  have HR417_3 := am hi417_3
  have HC417_3 := am hl417_3
  clear hi417_3 hl417_3
  replace p417 := eq_true p417
  replace q417 := eq_true q417
  go_upto_if 15 with (first | ((with_reducible refine gd 5 rfl ?_); refine bX 5 #[.slice none 0 0, .int .i64 0, .int .i64 0, .slice none 0 0, .int .i64 0] 78 HB ?_; clear HB; intro gb418 w8 hg hb BK418 GW418 HB; obtain ⟨NB416_418, NB418_416, BK416⟩ := b3 hg BK416 hb; clear hb hg; have hnb9 := NB418_416.out; have hnc9 := NB416_418.out; have hcz10_0 := bk w8 BK418 0; have hcz10_1 := bk w8 BK418 1; have hcz10_2 := bk w8 BK418 2; have hcz10_3 := bk w8 BK418 3; have hcz10_4 := bk w8 BK418 4; have hfz10_0 := bf BK418 0; have hfz10_1 := bf BK418 1; have hfz10_2 := bf BK418 2; have hfz10_3 := bf BK418 3; have hfz10_4 := bf BK418 4))
  (try simp only [Act.put, sa, sz, ss])
  have H := HC7.out
  clear HC7
  refine qE H ?_ ?_ <;> clear H
  ·intro c11b0 c11b1 H
   (first | rw [c11b0] | (simp only [i64_w, i32_w]; rw [c11b0]) | skip)
   have H' := am H
   clear H
   go_wp2
   go_roundg k1
   case measure => have := HK1.out; omega
   case rel => exact ⟨(x3_1), (wrap64 (x9_1 + 1)), dr, dr, H', ⟨by have := HK1.out; omega⟩, ⟨by (with_reducible repeat (first | apply dN | apply dW | apply dA)); refine blk_far ?_ NB416_418.out _; (with_reducible repeat (first | apply dN | apply dW | apply dA)); refine blk_far ?_ NB416_418.out _; (with_reducible repeat (first | apply dN | apply dW | apply dA)); refine blk_far ?_ NB416_418.out _; (with_reducible repeat (first | apply dN | apply dW | apply dA)); refine blk_far ?_ NB416_418.out _; (with_reducible repeat (first | apply dN | apply dW | apply dA)); refine blk_far ?_ NB416_418.out _; exact bp BK416⟩, ⟨bw HB⟩⟩
  intro c11 c11b0 c11b1 H
  (first | rw [c11b0] | (simp only [i64_w, i32_w]; rw [c11b0]) | skip)
  have H' := am H
  clear H
  go_wp2
  go_roundg k1
  case measure => have := HK1.out; omega
  case rel => exact ⟨(wrap64 (x3_1 + 1)), (wrap64 (x9_1 + 1)), dr, dr, H', ⟨by have := HK1.out; omega⟩, ⟨by (with_reducible repeat (first | apply dN | apply dW | apply dA)); refine blk_far ?_ NB416_418.out _; (with_reducible repeat (first | apply dN | apply dW | apply dA)); refine blk_far ?_ NB416_418.out _; (with_reducible repeat (first | apply dN | apply dW | apply dA)); refine blk_far ?_ NB416_418.out _; (with_reducible repeat (first | apply dN | apply dW | apply dA)); refine blk_far ?_ NB416_418.out _; (with_reducible repeat (first | apply dN | apply dW | apply dA)); refine blk_far ?_ NB416_418.out _; exact bp BK416⟩, ⟨bw HB⟩⟩
 obtain rfl := Option.some.inj H
 go_wp2
 go_ret
 exact ⟨er, bw HB⟩

def impl_prog_code.f (l0_0 : List (S93)) (l0_1 : List (List Int)) (a1 : Int) : Option ((List (S99))) := if 0 ≤ a1 then (if a1 < (l0_0.length : Int) then (some ((rd_T93 l0_0 a1).f2)) else (none)) else (none)
theorem impl_prog_code.calls (g0_ : Nat) (P0_0_ : Nat → Prop) (A0_0 : Option Addr) (c0_0 : Nat) (l0_0 : List (S93)) (A0_1 : Option Addr) (c0_1 : Nat) (l0_1 : List (List Int)) (a1 : Int) (r : List (S99)) (w : World) (hp0 : w.heap[g0_]? = some (.cells #[.slice A0_0 l0_0.length c0_0, .slice A0_1 l0_1.length c0_1] 144 (0, 0))) (hs0_0 : Kd.V k93 93 w w.heap.size (fun k_ => P0_0_ k_) (.slice A0_0 l0_0.length c0_0) l0_0) (hr0_1 : Kd.C (Kd.slice 2 (Kd.int .i64)) w A0_1 l0_1.length l0_1) (hc0_1 : l0_1.length ≤ c0_1) (h : impl_prog_code.f l0_0 l0_1 a1 = some r) :
  Calls Try.prog 91 #[.pointer (some ⟨g0_, 0, none⟩), .int .i64 a1] w fun e w' => ∃ v0_ : Value, e = .returned (v0_) ∧ Kd.V k99 99 w' w.heap.size (fun k_ => (P0_0_ k_ ∨ w.heap.size ≤ k_)) v0_ r ∧ Below w.heap.size w w' := by
 have HP0_ := am hp0
 clear hp0
 have HO0_0 := am (show Kd.V k93 93 w w.heap.size (fun k_ => (P0_0_ k_ ∨ w.heap.size ≤ k_)) (.slice A0_0 l0_0.length c0_0) l0_0 from Kd.V_mono hs0_0 (fun k_ hk => .inl hk))
 have HR0_1 := am hr0_1
 have HC0_1 := am hc0_1
 clear hr0_1 hc0_1
 have HB := am (Below.refl w.heap.size w)
 have H : (if 0 ≤ a1 then (if a1 < (l0_0.length : Int) then (some ((rd_T93 l0_0 a1).f2)) else (none)) else (none)) = some r := h
 clear h
 refine iM H ?_; clear H; intro c3b0 H
 refine iM H ?_; clear H; intro c4b0 H
 obtain rfl := Option.some.inj H
 have hcz5 := bK w HP0_
 have hfz5 := bF HP0_
 have p419 : 0 ≤ (a1 : Int) := of_decide_eq_true as1
 have q419 : a1 < (l0_0.length : Int) := of_decide_eq_true as1
 obtain ⟨ad419, A419_2, c419_2, e419, hx419_0, hx419_1, hx419_2, hl419_2, hi419_2⟩ := at_T93 (Kd.V_reads' HO0_0.out).2.2 a1 p419 q419
 cases e419
 obtain ⟨ce419, hce419, hMe419, hcc419⟩ := Kd.V_get HO0_0.out z93 a1 p419 (by first | exact q419 | exact of_decide_eq_true as1 | (have e_ := (Kd.V_reads' HO0_0.out).1; omega))
 obtain ⟨ua419_2, uc419_2, rfl, ul419_2, ge419_2⟩ := k93_openF hMe419
 have hv419_2 := hcc419 2 _ rfl
 rw [add_field _ _ 2 (by omega)] at hv419_2
 replace hv419_2 := Option.some.inj (hv419_2.symm.trans hx419_2)
 injection hv419_2 with hva_ hvn_ hvc_
 rw [hva_] at ge419_2
 rw [hvc_] at ul419_2
 have HL419_2 := am (show Kd.V k99 99 _ w.heap.size _ _ ((rd_T93 l0_0 a1).f2) from Kd.V_mk ul419_2 ge419_2)
 clear hva_ hvn_ hvc_ ge419_2 ul419_2
 clear hcc419 hce419
 have HR419_2 := am hi419_2
 have HC419_2 := am hl419_2
 clear hi419_2 hl419_2
 replace p419 := eq_true p419
 replace q419 := eq_true q419
 go_enter Try.func91, Try.ntmps91
 go_wp2
 go_ret
 exact ⟨_, er, kV HL419_2, bw HB⟩

def impl_bareNop.f  : Option ((List (S185)) × Int × Int × (List (S95)) × Int) := some (([] : List (S185)), 0, (-1), ([] : List (S95)), 0)
theorem impl_bareNop.calls  (r1 : List (S185)) (r2 : Int) (r3 : Int) (r4 : List (S95)) (r5 : Int) (w : World) (h : impl_bareNop.f  = some (r1, r2, r3, r4, r5)) :
  Calls Try.prog 92 #[] w fun e w' => ∃ v0_ v3_ : Value, e = .returned (.agg #[v0_, .int .i64 r2, .int .i64 r3, v3_, .int .i64 r5]) ∧ Kd.R k185 185 w' w.heap.size (fun _ => True) v0_ r1 ∧ Kd.R k95 95 w' w.heap.size (fun _ => True) v3_ r4 ∧ Below w.heap.size w w' := by
 have hu78 := Try.underlying78
 have HB := am (Below.refl w.heap.size w)
 have H : (some (([] : List (S185)), 0, (-1), ([] : List (S95)), 0)) = some (r1, r2, r3, r4, r5) := h
 clear h
 simp only [Option.some.injEq, Prod.mk.injEq] at H
 obtain ⟨rfl, rfl, rfl, rfl, rfl⟩ := H
 go_enter Try.func92, Try.ntmps92
 go_wp2_with (first | ((with_reducible refine gd 0 rfl ?_); refine bX 0 #[.slice none 0 0, .int .i64 0, .int .i64 0, .slice none 0 0, .int .i64 0] 78 HB ?_; clear HB; intro gb420 w1 hg hb BK420 GW420 HB; clear hb hg; have hcz2_0 := bk w1 BK420 0; have hcz2_1 := bk w1 BK420 1; have hcz2_2 := bk w1 BK420 2; have hcz2_3 := bk w1 BK420 3; have hcz2_4 := bk w1 BK420 4; have hfz2_0 := bf BK420 0; have hfz2_1 := bf BK420 1; have hfz2_2 := bf BK420 2; have hfz2_3 := bf BK420 3; have hfz2_4 := bf BK420 4))
 refine bodyPost_ret (results_cell_row rfl _ _ gb420 78 #[.slice none 0 0, .int .i64 0, .int .i64 (-1), .slice none 0 0, .int .i64 0] (0, 0) _ rfl (bt BK420) Try.underlying78 rfl (by kernel_rfl)) rfl ?_
 exact ⟨_, _, er, by first | exact Kd.R_nil _ _ _ _ _ | exact Kd.N_nil _ _ _ _ _ | exact Kd.V_nil _ _ _ _ _ | exact Kd.Q_nil _ _ _ _ _ | exact Kd.S_nil _ _ _ _ _, by first | exact Kd.R_nil _ _ _ _ _ | exact Kd.N_nil _ _ _ _ _ | exact Kd.V_nil _ _ _ _ _ | exact Kd.Q_nil _ _ _ _ _ | exact Kd.S_nil _ _ _ _ _, bw HB⟩

def impl_prog_reached.f (l0_0 : List (S93)) (l0_1 : List (List Int)) (a1 : Int) (a2 : Int) : Option (Bool) := (impl_hasFunc.f l0_0 a1).bind fun t421 => (if t421 = true then (if a2 ≥ 0 then (if 0 ≤ a1 then (if a1 < (l0_1.length : Int) then (if a2 < ((rd_L14 l0_1 a1).length : Int) then (if 0 ≤ a2 then (some (decide ((rd (rd_L14 l0_1 a1) a2) ≥ 0))) else (none)) else (some false)) else (none)) else (none)) else (some false)) else (some false))
theorem impl_prog_reached.calls (g0_ : Nat) (A0_0 : Option Addr) (c0_0 : Nat) (l0_0 : List (S93)) (A0_1 : Option Addr) (c0_1 : Nat) (l0_1 : List (List Int)) (a1 : Int) (a2 : Int) (r : Bool) (w : World) (hp0 : w.heap[g0_]? = some (.cells #[.slice A0_0 l0_0.length c0_0, .slice A0_1 l0_1.length c0_1] 144 (0, 0))) (hr0_0 : Kd.C k93 w A0_0 l0_0.length l0_0) (hc0_0 : l0_0.length ≤ c0_0) (hr0_1 : Kd.C (Kd.slice 2 (Kd.int .i64)) w A0_1 l0_1.length l0_1) (hc0_1 : l0_1.length ≤ c0_1) (h : impl_prog_reached.f l0_0 l0_1 a1 a2 = some r) :
  Calls Try.prog 93 #[.pointer (some ⟨g0_, 0, none⟩), .int .i64 a1, .int .i64 a2] w fun e w' => e = .returned (.bool r) ∧ Below w.heap.size w w' := by
 have hu29 := Try.underlying29
 have HP0_ := am hp0
 clear hp0
 have HR0_0 := am hr0_0
 have HC0_0 := am hc0_0
 clear hr0_0 hc0_0
 have HR0_1 := am hr0_1
 have HC0_1 := am hc0_1
 clear hr0_1 hc0_1
 have HB := am (Below.refl w.heap.size w)
 have H : ((impl_hasFunc.f l0_0 a1).bind fun t421 => (if t421 = true then (if a2 ≥ 0 then (if 0 ≤ a1 then (if a1 < (l0_1.length : Int) then (if a2 < ((rd_L14 l0_1 a1).length : Int) then (if 0 ≤ a2 then (some (decide ((rd (rd_L14 l0_1 a1) a2) ≥ 0))) else (none)) else (some false)) else (none)) else (none)) else (some false)) else (some false))) = some r := h
 clear h
 refine be H ?_; clear H; intro t421 A4 H
 refine qT H ?_ ?_ <;> clear H <;> intro c5 H <;> subst c5
 ·refine qL H ?_ ?_ <;> clear H <;> intro c6b0 H
  ·refine iM H ?_; clear H; intro c7b0 H
   refine iM H ?_; clear H; intro c8b0 H
   refine qI H ?_ ?_ <;> clear H <;> intro c9b0 H
   ·refine iM H ?_; clear H; intro c10b0 H
    obtain rfl := Option.some.inj H
    have hcz11 := bK w HP0_
    have hfz11 := bF HP0_
    go_enter Try.func93, Try.ntmps93
    go_wp2_with (first | ((with_reducible refine gk 90 rfl ?_); refine gB 90 (some 12) Try.func90 #[.agg #[.slice A0_0 l0_0.length c0_0], .int .i64 a1] (impl_hasFunc.calls _ _ l0_0 a1 true _ (by repeat (first | exact HR0_0.out | (with_reducible refine Kd.C_alloc ?_ _) | (with_reducible refine Kd.C_drewN ?_ _) | (with_reducible refine Kd.C_drew ?_))) HC0_0.out A4.out) ?_; intro w12 hb; replace HP0_ := bb HP0_ hb; replace HB := bs HB hb; clear hb; have hcz13 := bK w12 HP0_; have hfz13 := bF HP0_; have p422 : 0 ≤ (a1 : Int) := of_decide_eq_true as1; have q422 : a1 < (l0_1.length : Int) := of_decide_eq_true as1; obtain ⟨ad422, A422_0, c422_0, e422, hx422_0, hl422_0, hi422_0⟩ := at_L14 HR0_1.out a1 p422 q422; cases e422; replace hx422_0 := cl HB hx422_0; have HR422_0 := am hi422_0; have HC422_0 := am hl422_0; clear hi422_0 hl422_0; replace p422 := eq_true p422; replace q422 := eq_true q422; have p423 : 0 ≤ (a1 : Int) := of_decide_eq_true as1; have q423 : a1 < (l0_1.length : Int) := of_decide_eq_true as1; obtain ⟨ad423, A423_0, c423_0, e423, hx423_0, hl423_0, hi423_0⟩ := at_L14 HR0_1.out a1 p423 q423; obtain rfl : ad422 = ad423 := (by injection e423); replace hx423_0 := cl HB hx423_0; have HR423_0 := am hi423_0; have HC423_0 := am hl423_0; clear hi423_0 hl423_0; replace p423 := eq_true p423; replace q423 := eq_true q423; have ea_ := Option.some.inj (hx422_0.symm.trans hx423_0); injection ea_ with ea_ en_ ec_; subst ea_; subst ec_; clear en_; have p424 : 0 ≤ (a2 : Int) := of_decide_eq_true as1; have q424 : a2 < ((rd_L14 l0_1 a1).length : Int) := of_decide_eq_true as1; obtain ⟨ad424, e424, hx424_0⟩ := Kd.at_int HR423_0.out a2 p424 q424; cases e424; replace hx424_0 := cl HB hx424_0; replace p424 := eq_true p424; replace q424 := eq_true q424))
    go_ret
    exact ⟨er, bw HB⟩
   obtain rfl := Option.some.inj H
   have hcz14 := bK w HP0_
   have hfz14 := bF HP0_
   go_enter Try.func93, Try.ntmps93
   go_wp2_with (first | ((with_reducible refine gk 90 rfl ?_); refine gB 90 (some 12) Try.func90 #[.agg #[.slice A0_0 l0_0.length c0_0], .int .i64 a1] (impl_hasFunc.calls _ _ l0_0 a1 true _ (by repeat (first | exact HR0_0.out | (with_reducible refine Kd.C_alloc ?_ _) | (with_reducible refine Kd.C_drewN ?_ _) | (with_reducible refine Kd.C_drew ?_))) HC0_0.out A4.out) ?_; intro w15 hb; replace HP0_ := bb HP0_ hb; replace HB := bs HB hb; clear hb; have hcz16 := bK w15 HP0_; have hfz16 := bF HP0_; have p422 : 0 ≤ (a1 : Int) := of_decide_eq_true as1; have q422 : a1 < (l0_1.length : Int) := of_decide_eq_true as1; obtain ⟨ad422, A422_0, c422_0, e422, hx422_0, hl422_0, hi422_0⟩ := at_L14 HR0_1.out a1 p422 q422; cases e422; replace hx422_0 := cl HB hx422_0; have HR422_0 := am hi422_0; have HC422_0 := am hl422_0; clear hi422_0 hl422_0; replace p422 := eq_true p422; replace q422 := eq_true q422))
   go_ret
   exact ⟨er, bw HB⟩
  obtain rfl := Option.some.inj H
  have hcz17 := bK w HP0_
  have hfz17 := bF HP0_
  go_enter Try.func93, Try.ntmps93
  go_wp2_with (first | ((with_reducible refine gk 90 rfl ?_); refine gB 90 (some 12) Try.func90 #[.agg #[.slice A0_0 l0_0.length c0_0], .int .i64 a1] (impl_hasFunc.calls _ _ l0_0 a1 true _ (by repeat (first | exact HR0_0.out | (with_reducible refine Kd.C_alloc ?_ _) | (with_reducible refine Kd.C_drewN ?_ _) | (with_reducible refine Kd.C_drew ?_))) HC0_0.out A4.out) ?_; intro w18 hb; replace HP0_ := bb HP0_ hb; replace HB := bs HB hb; clear hb))
  go_ret
  exact ⟨er, bw HB⟩
 obtain rfl := Option.some.inj H
 have hcz19 := bK w HP0_
 have hfz19 := bF HP0_
 go_enter Try.func93, Try.ntmps93
 go_wp2_with (first | ((with_reducible refine gk 90 rfl ?_); refine gB 90 (some 12) Try.func90 #[.agg #[.slice A0_0 l0_0.length c0_0], .int .i64 a1] (impl_hasFunc.calls _ _ l0_0 a1 false _ (by repeat (first | exact HR0_0.out | (with_reducible refine Kd.C_alloc ?_ _) | (with_reducible refine Kd.C_drewN ?_ _) | (with_reducible refine Kd.C_drew ?_))) HC0_0.out A4.out) ?_; intro w20 hb; replace HP0_ := bb HP0_ hb; replace HB := bs HB hb; clear hb))
 go_ret
 exact ⟨er, bw HB⟩

def impl_prog_slots.f (l0_0 : List (S93)) (l0_1 : List (List Int)) (a1 : Int) (a2 : Int) : Option (Int) := if 0 ≤ a1 then (if a1 < (l0_0.length : Int) then (if a1 < (l0_1.length : Int) then (if 0 ≤ a2 then (if a2 < ((rd_L14 l0_1 a1).length : Int) then (some (wrap64 (((rd_T93 l0_0 a1).f1) + (rd (rd_L14 l0_1 a1) a2)))) else (none)) else (none)) else (none)) else (none)) else (none)
theorem impl_prog_slots.calls (g0_ : Nat) (A0_0 : Option Addr) (c0_0 : Nat) (l0_0 : List (S93)) (A0_1 : Option Addr) (c0_1 : Nat) (l0_1 : List (List Int)) (a1 : Int) (a2 : Int) (r : Int) (w : World) (hp0 : w.heap[g0_]? = some (.cells #[.slice A0_0 l0_0.length c0_0, .slice A0_1 l0_1.length c0_1] 144 (0, 0))) (hr0_0 : Kd.C k93 w A0_0 l0_0.length l0_0) (hc0_0 : l0_0.length ≤ c0_0) (hr0_1 : Kd.C (Kd.slice 2 (Kd.int .i64)) w A0_1 l0_1.length l0_1) (hc0_1 : l0_1.length ≤ c0_1) (h : impl_prog_slots.f l0_0 l0_1 a1 a2 = some r) :
  Calls Try.prog 94 #[.pointer (some ⟨g0_, 0, none⟩), .int .i64 a1, .int .i64 a2] w fun e w' => e = .returned (.int .i64 r) ∧ Below w.heap.size w w' := by
 have HP0_ := am hp0
 clear hp0
 have HR0_0 := am hr0_0
 have HC0_0 := am hc0_0
 clear hr0_0 hc0_0
 have HR0_1 := am hr0_1
 have HC0_1 := am hc0_1
 clear hr0_1 hc0_1
 have HB := am (Below.refl w.heap.size w)
 have H : (if 0 ≤ a1 then (if a1 < (l0_0.length : Int) then (if a1 < (l0_1.length : Int) then (if 0 ≤ a2 then (if a2 < ((rd_L14 l0_1 a1).length : Int) then (some (wrap64 (((rd_T93 l0_0 a1).f1) + (rd (rd_L14 l0_1 a1) a2)))) else (none)) else (none)) else (none)) else (none)) else (none)) = some r := h
 clear h
 refine iM H ?_; clear H; intro c4b0 H
 refine iM H ?_; clear H; intro c5b0 H
 refine iM H ?_; clear H; intro c6b0 H
 refine iM H ?_; clear H; intro c7b0 H
 refine iM H ?_; clear H; intro c8b0 H
 obtain rfl := Option.some.inj H
 have hcz9 := bK w HP0_
 have hfz9 := bF HP0_
 have p425 : 0 ≤ (a1 : Int) := of_decide_eq_true as1
 have q425 : a1 < (l0_0.length : Int) := of_decide_eq_true as1
 obtain ⟨ad425, A425_2, c425_2, e425, hx425_0, hx425_1, hx425_2, hl425_2, hi425_2⟩ := at_T93 HR0_0.out a1 p425 q425
 cases e425
 have HR425_2 := am hi425_2
 have HC425_2 := am hl425_2
 clear hi425_2 hl425_2
 replace p425 := eq_true p425
 replace q425 := eq_true q425
 have p426 : 0 ≤ (a1 : Int) := of_decide_eq_true as1
 have q426 : a1 < (l0_1.length : Int) := of_decide_eq_true as1
 obtain ⟨ad426, A426_0, c426_0, e426, hx426_0, hl426_0, hi426_0⟩ := at_L14 HR0_1.out a1 p426 q426
 cases e426
 have HR426_0 := am hi426_0
 have HC426_0 := am hl426_0
 clear hi426_0 hl426_0
 replace p426 := eq_true p426
 replace q426 := eq_true q426
 have p427 : 0 ≤ (a2 : Int) := of_decide_eq_true as1
 have q427 : a2 < ((rd_L14 l0_1 a1).length : Int) := of_decide_eq_true as1
 obtain ⟨ad427, e427, hx427_0⟩ := Kd.at_int HR426_0.out a2 p427 q427
 cases e427
 replace p427 := eq_true p427
 replace q427 := eq_true q427
 go_enter Try.func94, Try.ntmps94
 go_wp2
 repeat (go_quiet (fail); try go_wp2)
 go_ret
 exact ⟨er, bw HB⟩

def impl_memory.f (a0 : Int) : Option (Int) := some (wrap64 (6 + a0))
theorem impl_memory.calls (a0 : Int) (r : Int) (w : World) (h : impl_memory.f a0 = some r) :
  Calls Try.prog 97 #[.int .i64 a0] w fun e w' => e = .returned (.int .i64 r) ∧ Drawn0 w w' := by
 have H : (some (wrap64 (6 + a0))) = some r := h
 clear h
 obtain rfl := Option.some.inj H
 go_enter Try.func97, Try.ntmps97
 go_wp2
 go_ret
 exact ⟨by first | rfl | (simp; done) | (simp [*]; done), by repeat (first | exact Drawn0.refl _ | apply Drawn0.step)⟩

def impl_prog_plain_1.f (a0 : Int) (a1_0 : Int) (a1_1 : Int) : Option ((List (S185)) × Int × Int × (List (S95)) × Int) := (impl_memory.f a0).bind fun t430 => (some (([] : List (S185)), 1, t430, (([(⟨a1_0, a1_1⟩ : S95)] : List (S95))), 0))
theorem impl_prog_plain_1.clo (a0 : Int) (a1_0 : Int) (a1_1 : Int) (r1 : List (S185)) (r2 : Int) (r3 : Int) (r4 : List (S95)) (r5 : Int) {gb428 : Nat} {c0_ c1_ c2_ c3_ c4_ : Value} (w : World) (h : impl_prog_plain_1.f a0 a1_0 a1_1 = some (r1, r2, r3, r4, r5)) (hbox_ : w.heap[gb428]? = some (.cells #[c0_, c1_, c2_, c3_, c4_] 78 (0, 0))) :
  Calls Try.prog 96 #[.int .i64 a0, .agg #[.int .i64 a1_0, .int .i64 a1_1], .pointer (some ⟨gb428, 0, none⟩)] w fun e w' => ∃ v0_ v3_ : Value, ∃ w2_ : World, e = .returned (.tuple #[]) ∧ Kd.R k185 185 w2_ w.heap.size (fun _ => True) v0_ r1 ∧ Kd.R k95 95 w2_ w.heap.size (fun _ => True) v3_ r4 ∧ Below w.heap.size w w2_ ∧ w' = (((((w2_.setCell ⟨gb428, 0, none⟩ (v0_)).setCell ⟨gb428, 1, none⟩ (.int .i64 r2)).setCell ⟨gb428, 2, none⟩ (.int .i64 r3)).setCell ⟨gb428, 3, none⟩ (v3_)).setCell ⟨gb428, 4, none⟩ (.int .i64 r5)) := by
 have BK428 := am hbox_
 clear hbox_
 have hu78 := Try.underlying78
 have hu95 := Try.underlying95
 have HB := am (Below.refl w.heap.size w)
 have H : ((impl_memory.f a0).bind fun t430 => (some (([] : List (S185)), 1, t430, (([(⟨a1_0, a1_1⟩ : S95)] : List (S95))), 0))) = some (r1, r2, r3, r4, r5) := h
 clear h
 refine be H ?_; clear H; intro t430 A3 H
 obtain ⟨y431, hy431⟩ : ∃ y_ : List (S95), y_ = (([(⟨a1_0, a1_1⟩ : S95)] : List (S95))) := ⟨_, rfl⟩
 replace H : (some (([] : List (S185)), 1, t430, y431, 0)) = some (r1, r2, r3, r4, r5) := by first | (rw [hy431]; with_reducible exact H) | (have H2_ := (Option.bind_some _ _).symm.trans H; rw [hy431]; with_reducible exact H2_) | (have H2_ := (Option.bind_some _ _).symm.trans H; with_reducible exact H2_) | with_reducible exact H | (rw [hy431]; exact H) | exact H
 have Ny431 := am hy431
 clear hy431
 simp only [Option.some.injEq, Prod.mk.injEq] at H
 obtain ⟨rfl, rfl, rfl, rfl, rfl⟩ := H
 go_enter Try.func96, Try.ntmps96
 try go_wp2_with (first | ((with_reducible refine gd 4 rfl ?_); refine bX 4 #[.int .i64 a1_0, .int .i64 a1_1] 95 HB ?_; clear HB; intro gb429 w5 hg hb BK429 GW429 HB; obtain ⟨NB428_429, NB429_428, BK428⟩ := b3 hg BK428 hb; clear hb hg))
 replace BK428 := am (blk_drew BK428.out)
 replace BK429 := am (blk_drew BK429.out)
 replace HB := am (below_drew1 HB.out)
 refine start_ (n := 6) (S := fun w' => w'.cell? ⟨gb429, 0, none⟩ = some (.int .i64 a1_0) ∧ w'.cell? ⟨gb429, 1, none⟩ = some (.int .i64 a1_1)) (ds := []) (bv 6 0) (by kernel_rfl) rfl (by kernel_rfl) ⟨bc BK429 0, bc BK429 1⟩ (fun hHeld => ?_)
 generalize w5.drew = w6 at BK428 BK429 HB hHeld ⊢
 refine pure_ (i := 0) (N := some 5) (v := ?_) (a' := ?_) (bv 6 1) rfl rfl (by kernel_rfl) (fun _ _ _ h => h) (Or.inl ⟨by rfl, ?_⟩) ?_ ?_
 rotate_left
 ·intro w'
  go_simp
  with_reducible rfl
 rotate_left
 ·simp only [Act.put, sa, sz, ss, i64_w, i32_w]
  rfl
 refine take_ (i := 2) (N := some 7) (v := ?_) (a' := ?_) (bv 6 5) rfl rfl (by kernel_rfl) (fun _ _ _ h => h) (Or.inl ⟨by rfl, ?_⟩) hHeld ?_ ?_
 rotate_left
 ·rintro w' ⟨s0, s1⟩
  go_simp
  with_reducible rfl
 rotate_left
 ·simp only [Act.put, sa, sz, ss, i64_w, i32_w]
  rfl
 refine join_ (σ := Value) 2 (bv 6 15) (fun s_ => [(6, .int .i64 t430), (8, s_)]) (fun s_ w' => (w'.cell? ⟨gb429, 0, none⟩ = some (.int .i64 a1_0) ∧ w'.cell? ⟨gb429, 1, none⟩ = some (.int .i64 a1_1)) ∧ (Kd.R k95 95 w' w.heap.size (fun k_ => k_ ≠ gb429) s_ y431) ∧ (w'.heap[gb428]? = some (.cells #[c0_, c1_, c2_, c3_, c4_] 78 (0, 0))) ∧ (w'.heap[gb429]? = some (.cells #[.int .i64 a1_0, .int .i64 a1_1] 95 (0, 0))) ∧ (Below w.heap.size w w')) ?_ ?_
 rotate_left
 ·intro hCont
  refine two_ (i := 1) (j := 3) (Ni := some 6) (Nj := some 8) (bv 6 7) (bv 6 13) rfl rfl rfl rfl (by kernel_rfl) (by decide) (by decide) (fun K hK => ?_) (fun K hK => ?_)
  ·skip
   refine goes_ Try.func97 (by kernel_rfl) rfl #[.int .i64 a0] (by rfl) rfl rfl gl ?_
   with_reducible refine (impl_memory.calls a0 t430 _ A3.out).mono ?_
   rintro e w' ⟨rfl, ⟨nd, rfl⟩⟩
   refine ⟨_, rfl, ?_⟩
   refine hK.out _ _ ⟨bc BK429 0, bc BK429 1⟩ (fun hHeld => ?_)
   clear hK K
   refine nm (some 6) ?_
   refine one_ (i := 3) (N := some 8) (bv 6 15) rfl rfl (by kernel_rfl) (by decide) (fun K hK => ?_)
   refine Kd.R_lit_step k95 _ 95 ?hg (N := 8) ?hd (xs := ([(⟨a1_0, a1_1⟩ : S95)] : List (S95))) (inner := [.int .i64 a1_0, .int .i64 a1_1]) (ok := fun _ => True) (okp := fun _ => True) ?hr ?hp (fun _ hk => hk) trivial (Below.refl _ _) (Nat.le_refl _) (by simp) ?_; (case hd => rfl); (case hg => rfl); (case hr => exact gs); (case hp => exact (Reps.c2 (show Kd.M k95 _ _ _ (⟨a1_0, a1_1⟩ : S95) [.int .i64 a1_0, .int .i64 a1_1] from (k95_mkM _ _ _ (⟨a1_0, a1_1⟩ : S95) )) (Reps.none _ _)))
   intro v432 w7 ho8 hb hg_ hnew_
   clear hg_ hnew_
   (first | rw [← Ny431.out] at ho8 | (simp only [Int.reduceToNat] at ho8; rw [← Ny431.out] at ho8))
   have n0_ := am (Kd.R_lower (Kd.R_newB ho8 (g := gb429) (o := .cells #[.int .i64 a1_0, .int .i64 a1_1] 95 (0, 0)) (bp BK429)) (below_size (bw HB)))
   have n1_ := bb BK428 hb
   have n2_ := bb BK429 hb
   have n3_ := am (below_step (bw HB) hb)
   clear BK428
   clear BK429
   clear HB
   have HO433 := n0_
   have BK428 := n1_
   have BK429 := n2_
   have HB := n3_
   clear n0_ n1_ n2_ n3_
   clear hb ho8
   obtain ⟨Ao9, co9, eo9⟩ := Kd.R_slice HO433.out
   (first | subst eo9 | (injection eo9 with f1_ f2_ f3_; have f4_ := f1_.symm; have f5_ := f3_.symm; clear f1_ f2_ f3_; subst f4_; subst f5_))
   refine hK.out _ _ ⟨bc BK429 0, bc BK429 1⟩ (fun hHeld => ?_)
   clear hK K
   refine nm (some 8) ?_
   exact norm_ (by simp only [putAll, Act.put, sa, sz, ss]) (hCont (.slice Ao9 y431.length co9) _ ⟨hHeld, (by (with_reducible repeat (first | apply Kd.R_alloc | apply Kd.R_drewN | apply Kd.R_drew)); exact Kd.R_mono HO433.out (fun _ hk => hk.2)), (bp BK428), (bp BK429), (bw HB)⟩)
  skip
  refine Kd.R_lit_step k95 _ 95 ?hg (N := 8) ?hd (xs := ([(⟨a1_0, a1_1⟩ : S95)] : List (S95))) (inner := [.int .i64 a1_0, .int .i64 a1_1]) (ok := fun _ => True) (okp := fun _ => True) ?hr ?hp (fun _ hk => hk) trivial (Below.refl _ _) (Nat.le_refl _) (by simp) ?_; (case hd => rfl); (case hg => rfl); (case hr => exact gs); (case hp => exact (Reps.c2 (show Kd.M k95 _ _ _ (⟨a1_0, a1_1⟩ : S95) [.int .i64 a1_0, .int .i64 a1_1] from (k95_mkM _ _ _ (⟨a1_0, a1_1⟩ : S95) )) (Reps.none _ _)))
  intro v432 w7 ho8 hb hg_ hnew_
  clear hg_ hnew_
  (first | rw [← Ny431.out] at ho8 | (simp only [Int.reduceToNat] at ho8; rw [← Ny431.out] at ho8))
  have n0_ := am (Kd.R_lower (Kd.R_newB ho8 (g := gb429) (o := .cells #[.int .i64 a1_0, .int .i64 a1_1] 95 (0, 0)) (bp BK429)) (below_size (bw HB)))
  have n1_ := bb BK428 hb
  have n2_ := bb BK429 hb
  have n3_ := am (below_step (bw HB) hb)
  clear BK428
  clear BK429
  clear HB
  have HO433 := n0_
  have BK428 := n1_
  have BK429 := n2_
  have HB := n3_
  clear n0_ n1_ n2_ n3_
  clear hb ho8
  refine hK.out _ _ ⟨bc BK429 0, bc BK429 1⟩ (fun hHeld => ?_)
  clear hK K
  refine nm (some 8) ?_
  refine one_ (i := 1) (N := some 6) (bv 6 15) rfl rfl (by kernel_rfl) (by decide) (fun K hK => ?_)
  refine goes_ Try.func97 (by kernel_rfl) rfl #[.int .i64 a0] (by rfl) rfl rfl gl ?_
  with_reducible refine (impl_memory.calls a0 t430 _ A3.out).mono ?_
  rintro e w' ⟨rfl, ⟨nd, rfl⟩⟩
  refine ⟨_, rfl, ?_⟩
  obtain ⟨Ao9, co9, eo9⟩ := Kd.R_slice HO433.out
  (first | subst eo9 | (injection eo9 with f1_ f2_ f3_; have f4_ := f1_.symm; have f5_ := f3_.symm; clear f1_ f2_ f3_; subst f4_; subst f5_))
  refine hK.out _ _ ⟨bc BK429 0, bc BK429 1⟩ (fun hHeld => ?_)
  clear hK K
  refine nm (some 6) ?_
  exact norm_ (by simp only [putAll, Act.put, sa, sz, ss]) (hCont (.slice Ao9 y431.length co9) _ ⟨hHeld, (by (with_reducible repeat (first | apply Kd.R_alloc | apply Kd.R_drewN | apply Kd.R_drew)); exact Kd.R_mono HO433.out (fun _ hk => hk.2)), (bp BK428), (bp BK429), (bw HB)⟩)
 rintro v432 w10 ⟨hS_, h0_, h1_, h2_, h3_⟩
 have n0_ : Aside0 (Kd.R k95 95 w10 w.heap.size (fun k_ => k_ ≠ gb429) v432 y431) := ⟨h0_⟩
 have n1_ : Aside0 (w10.heap[gb428]? = some (.cells #[c0_, c1_, c2_, c3_, c4_] 78 (0, 0))) := ⟨h1_⟩
 have n2_ : Aside0 (w10.heap[gb429]? = some (.cells #[.int .i64 a1_0, .int .i64 a1_1] 95 (0, 0))) := ⟨h2_⟩
 have n3_ : Aside0 (Below w.heap.size w w10) := ⟨h3_⟩
 clear BK428
 clear BK429
 clear HB
 clear h0_ h1_ h2_ h3_
 have HO433 := n0_
 have BK428 := n1_
 have BK429 := n2_
 have HB := n3_
 clear n0_ n1_ n2_ n3_
 have hHeld : w10.cell? ⟨gb429, 0, none⟩ = some (.int .i64 a1_0) ∧ w10.cell? ⟨gb429, 1, none⟩ = some (.int .i64 a1_1) := hS_
 obtain ⟨Ao11, co11, eo11⟩ := Kd.R_slice HO433.out
 (first | subst eo11 | (injection eo11 with f1_ f2_ f3_; have f4_ := f1_.symm; have f5_ := f3_.symm; clear f1_ f2_ f3_; subst f4_; subst f5_))
 refine norm_ (a' := ?_) ?_ ?_
 rotate_left
 ·simp only [putAll, Act.put, sa, sz, ss]
  rfl
 refine pure_ (i := 4) (N := some 9) (v := ?_) (a' := ?_) (bv 6 31) rfl rfl (by kernel_rfl) (fun _ _ _ h => h) (Or.inl ⟨by rfl, ?_⟩) ?_ ?_
 rotate_left
 ·intro w'
  go_simp
  with_reducible rfl
 rotate_left
 ·simp only [Act.put, sa, sz, ss, i64_w, i32_w]
  rfl
 refine one_ (i := 5) (N := none) (bv 6 63) rfl rfl (by kernel_rfl) (by decide) (fun K hK => ?_)
 have hs12 := bk w10 BK428 0
 have hfs12 := bf BK428 0
 have hns12_1 := NB429_428.out
 have hms12_1 := NB428_429.out
 have hs13 := bk w10 BK428 1
 have hfs13 := bf BK428 1
 have hns13_1 := NB429_428.out
 have hms13_1 := NB428_429.out
 have hs14 := bk w10 BK428 2
 have hfs14 := bf BK428 2
 have hns14_1 := NB429_428.out
 have hms14_1 := NB428_429.out
 have hs15 := bk w10 BK428 3
 have hfs15 := bf BK428 3
 have hns15_1 := NB429_428.out
 have hms15_1 := NB428_429.out
 have hs16 := bk w10 BK428 4
 have hfs16 := bf BK428 4
 have hns16_1 := NB429_428.out
 have hms16_1 := NB428_429.out
 refine skip_ (w1 := ?_) (by rfl) rfl ?_ ?_
 rotate_left
 ·go_simp
  rfl
 refine hK.out _ _ ⟨((cell_far (p := ⟨gb428, _, none⟩) NB429_428.out _).trans (((cell_far (p := ⟨gb428, _, none⟩) NB429_428.out _).trans (((cell_far (p := ⟨gb428, _, none⟩) NB429_428.out _).trans (((cell_far (p := ⟨gb428, _, none⟩) NB429_428.out _).trans (((cell_far (p := ⟨gb428, _, none⟩) NB429_428.out _).trans (hHeld.1)))))))))), ((cell_far (p := ⟨gb428, _, none⟩) NB429_428.out _).trans (((cell_far (p := ⟨gb428, _, none⟩) NB429_428.out _).trans (((cell_far (p := ⟨gb428, _, none⟩) NB429_428.out _).trans (((cell_far (p := ⟨gb428, _, none⟩) NB429_428.out _).trans (((cell_far (p := ⟨gb428, _, none⟩) NB429_428.out _).trans (hHeld.2))))))))))⟩ (fun hHeld => ?_)
 clear hK K
 refine done_ (by kernel_rfl) ?_
 try go_wp2
 go_end0
 exact ⟨_, _, _, rfl, (by first | exact Kd.R_nil _ _ _ _ _ | exact Kd.R_mono HO433.out (fun _ _ => trivial)), (by first | exact Kd.R_nil _ _ _ _ _ | exact Kd.R_mono HO433.out (fun _ _ => trivial)), HB.out, rfl⟩

def impl_constant.f (a0 : Int) : Option (Int × Int) := some (2, a0)
theorem impl_constant.calls (a0 : Int) (r1 : Int) (r2 : Int) (w : World) (h : impl_constant.f a0 = some (r1, r2)) :
  Calls Try.prog 98 #[.int .i64 a0] w fun e w' => e = .returned (.agg #[.int .i64 r1, .int .i64 r2]) ∧ Below w.heap.size w w' := by
 have hu95 := Try.underlying95
 have HB := am (Below.refl w.heap.size w)
 have H : (some (2, a0)) = some (r1, r2) := h
 clear h
 simp only [Option.some.injEq, Prod.mk.injEq] at H
 obtain ⟨rfl, rfl⟩ := H
 go_enter Try.func98, Try.ntmps98
 go_wp2_with (first | ((with_reducible refine gd 2 rfl ?_); refine bX 2 #[.int .i64 0, .int .i64 0] 95 HB ?_; clear HB; intro gb434 w2 hg hb BK434 GW434 HB; clear hb hg; have hcz3 := bK w2 BK434; have hfz3 := bF BK434))
 refine bodyPost_ret (results_cell_row rfl _ _ gb434 95 #[.int .i64 2, .int .i64 a0] (0, 0) _ rfl (bt BK434) Try.underlying95 rfl (by kernel_rfl)) rfl ?_
 exact ⟨er, bw HB⟩

def impl_loc.f (a0 : Int) : Option (Int × Int) := some (1, a0)
theorem impl_loc.calls (a0 : Int) (r1 : Int) (r2 : Int) (w : World) (h : impl_loc.f a0 = some (r1, r2)) :
  Calls Try.prog 99 #[.int .i64 a0] w fun e w' => e = .returned (.agg #[.int .i64 r1, .int .i64 r2]) ∧ Below w.heap.size w w' := by
 have hu95 := Try.underlying95
 have HB := am (Below.refl w.heap.size w)
 have H : (some (1, a0)) = some (r1, r2) := h
 clear h
 simp only [Option.some.injEq, Prod.mk.injEq] at H
 obtain ⟨rfl, rfl⟩ := H
 go_enter Try.func99, Try.ntmps99
 go_wp2_with (first | ((with_reducible refine gd 2 rfl ?_); refine bX 2 #[.int .i64 0, .int .i64 0] 95 HB ?_; clear HB; intro gb435 w2 hg hb BK435 GW435 HB; clear hb hg; have hcz3 := bK w2 BK435; have hfz3 := bF BK435))
 refine bodyPost_ret (results_cell_row rfl _ _ gb435 95 #[.int .i64 1, .int .i64 a0] (0, 0) _ rfl (bt BK435) Try.underlying95 rfl (by kernel_rfl)) rfl ?_
 exact ⟨er, bw HB⟩

def impl_memories.l0 : Nat → Int → Int → List (S95) → Int → Option ((List (S95)))
 | 0, _, _, _, _ => none
 | k + 1, x0, x1, x5, x6 => if x6 < (wrap64 (x0 + x1)) then ((impl_memory.f x6).bind fun t436 => ((impl_loc.f t436).bind fun bt437 => (if x5.length < 8796093022208 then (impl_memories.l0 k x0 x1 (x5 ++ [(⟨bt437.1, bt437.2⟩ : S95)]) (wrap64 (x6 + 1))) else (none)))) else (some x5)
def impl_memories.f (k : Nat) (a0 : Int) (a1 : Int) : Option ((List (S95))) := impl_memories.l0 k a0 a1 ([] : List (S95)) a0
theorem impl_memories.mono_l : ∀ k, (∀ y0 y1 y2 y3, LeO (impl_memories.l0 k y0 y1 y2 y3) (impl_memories.l0 (k + 1) y0 y1 y2 y3))
 | 0 => fun _ _ _ _ r h => by simp [impl_memories.l0] at h
 | k + 1 => by
  have ih0 := impl_memories.mono_l k
  ·intro y0 y1 y2 y3
   unfold impl_memories.l0
   with_reducible repeat' first | exact ih0 .. | exact LeO.refl _ | exact LeO.none _ | refine LeO.ite ?_ ?_ | refine LeO.bind ?_ (fun _ => ?_)
theorem impl_memories.mono : ∀ a0 a1 k, LeO (impl_memories.f k a0 a1) (impl_memories.f (k + 1) a0 a1) := by
 intro a0 a1 k
 have ih0 := impl_memories.mono_l k
 unfold impl_memories.f
 with_reducible repeat' first | exact ih0 .. | exact LeO.refl _ | exact LeO.none _ | refine LeO.ite ?_ ?_ | refine LeO.bind ?_ (fun _ => ?_)
theorem impl_memories.calls (k : Nat) (a0 : Int) (a1 : Int) (r : List (S95)) (w : World) (h : impl_memories.f k a0 a1 = some r) :
  Calls Try.prog 100 #[.int .i64 a0, .int .i64 a1] w fun e w' => ∃ v0_ : Value, e = .returned (v0_) ∧ Kd.R k95 95 w' w.heap.size (fun _ => True) v0_ r ∧ Below w.heap.size w w' := by
 have HB := am (Below.refl w.heap.size w)
 have H : (impl_memories.l0 k a0 a1 ([] : List (S95)) a0) = some r := h
 clear h
 have H' := am H
 clear H
 go_enter Try.func100, Try.ntmps100
 go_wp2
 go_loopg [5, 6] k (fun kq v5 v6 w' => ∃ (x5_1 : List (S95)) (x6_1 : Int), v6 = .int .i64 x6_1 ∧ Aside0 (impl_memories.l0 kq a0 a1 x5_1 x6_1 = some r) ∧ Aside0 (kq ≤ k) ∧ Aside0 (Kd.R k95 95 w' w.heap.size (fun _ => True) v5 x5_1) ∧ Aside0 (Below w.heap.size w w'))
 case atStart => exact ⟨(([] : List (S95))), (a0), dr, H', ⟨Nat.le_refl _⟩, ⟨by first | exact Kd.R_nil _ _ _ _ _ | exact Kd.N_nil _ _ _ _ _ | exact Kd.V_nil _ _ _ _ _ | exact Kd.Q_nil _ _ _ _ _ | exact Kd.S_nil _ _ _ _ _⟩, ⟨bw HB⟩⟩
 clear H'
 (try clear c1); (try clear p2)
 obtain ⟨x5_1, x6_1, rfl, HA, HK1, HO_5, HB⟩ := hrel
 rcases gk with _ | k1
 ·exact absurd HA.out (by simp [impl_memories.l0])
 have H := HA.out
 clear HA
 simp only [impl_memories.l0] at H
 refine qI H ?_ ?_ <;> clear H <;> intro c3b0 H
 ·refine be H ?_; clear H; intro t436 A4 H
  replace H := Option.bind_eq_some_iff.mp H
  obtain ⟨⟨t437, t438⟩, A50, H⟩ := H
  replace H : (if x5_1.length < 8796093022208 then (impl_memories.l0 k1 a0 a1 (x5_1 ++ [(⟨t437, t438⟩ : S95)]) (wrap64 (x6_1 + 1))) else (none)) = some r := H
  have A5 := am A50
  clear A50
  refine iN H ?_; clear H; intro c6 H
  have LMc6 := am c6
  clear c6
  obtain ⟨y439, hy439⟩ : ∃ y_ : List (S95), y_ = (x5_1 ++ [(⟨t437, t438⟩ : S95)]) := ⟨_, rfl⟩
  replace H : (impl_memories.l0 k1 a0 a1 y439 (wrap64 (x6_1 + 1))) = some r := by first | (rw [hy439]; with_reducible exact H) | (have H2_ := (Option.bind_some _ _).symm.trans H; rw [hy439]; with_reducible exact H2_) | (have H2_ := (Option.bind_some _ _).symm.trans H; with_reducible exact H2_) | with_reducible exact H | (rw [hy439]; exact H) | exact H
  have Ny439 := am hy439
  clear hy439
  have H' := am H
  clear H
  go_wp2_with (first | ((with_reducible refine gate_callee (f := 97) rfl ?_); refine goesL_ (some 17) rfl rfl Try.func97 (by kernel_rfl) rfl #[.int .i64 x6_1] rfl gl ?_; (with_reducible refine (impl_memory.calls x6_1 t436 _ A4.out).mono ?_); rintro e w' ⟨rfl, ⟨nd, rfl⟩⟩; refine ⟨_, rfl, ?_⟩) | ((with_reducible refine gate_callee (f := 99) rfl ?_); refine goesL_ (some 18) rfl rfl Try.func99 (by kernel_rfl) rfl #[.int .i64 t436] rfl gl ?_; (with_reducible refine (impl_loc.calls t436 t437 t438 _ A5.out).mono ?_); rintro e w7 ⟨rfl, hb⟩; refine ⟨_, rfl, ?_⟩; replace HO_5 := am (Kd.R_below (kR HO_5) hb); replace HB := bs HB hb; clear hb) | ((with_reducible refine gate_builtin (b := .append) (xs := #[.tmp 15, .tmp 19]) rfl ?_); at_builtin; refine Kd.R_append k95 (w0 := w) w.heap.size rfl (.tmp 15) (.tmp 19) 76 95 (.agg #[(.int .i64 0), (.int .i64 0)]) 16 rfl Try.underlying76 info95 rfl (by decide) (by omega) u5 x5_1 (⟨t437, t438⟩ : S95) [.int .i64 t437, .int .i64 t438] (fun _ => True) (fun _ => False) rfl rfl ?aP (fun _ hk => hk.elim) ?aF ?aO ?aB ?aS ?aL ?_; (case aP => exact k95_mkM _ _ _ (⟨t437, t438⟩ : S95)); (case aB => exact (bw HB)); (case aF => exact (fun _ _ => trivial)); (case aO => exact (kR HO_5)); (case aS => exact (below_size (bw HB))); (case aL => have := LMc6.out; omega); intro v440 w8 ho hb hg hat; rw [← Ny439.out] at ho; replace HB := am (hb); have HO441 := am (ho); clear HO_5; clear ho hb hg hat))
  go_roundg k1
  case measure => have := HK1.out; omega
  case rel => exact ⟨(y439), (wrap64 (x6_1 + 1)), dr, H', ⟨by have := HK1.out; omega⟩, ⟨kR HO441⟩, ⟨bw HB⟩⟩
 obtain rfl := Option.some.inj H
 go_wp2
 go_ret
 exact ⟨_, er, kR HO_5, bw HB⟩

end Go.Proofs.Ythdfokebbcheoaa.QFnExactPlainSize
