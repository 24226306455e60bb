import Derived.Test.YtkhpiicijkhpkaaCFnExactAsmBytesx0
import Derived.Test.YtkhpiicijkhpkaaCFnExactAsmBytesx14
import Derived.Test.YtkhpiicijkhpkaaCFnExactAsmBytesx15
import Derived.Test.YtkhpiicijkhpkaaCFnExactAsmBytesx17
namespace Go.Proofs.Ytkhpiicijkhpkaa.QFnExactAsmBytes
open Go.RowKit Go.Proofs.YtkhpiicijkhpkaaW
open PrintWords PrintLast PrintMore PrintShort PrintIsh
attribute [local go_sem] max2_int min2_int max_two min_two max_three min_three max_four min_four
set_option linter.unusedVariables false
set_option maxHeartbeats 8000000
set_option maxRecDepth 100000
set_option linter.unusedSimpArgs false

mutual
def impl_verify.j0 : Nat → Bool → List (S121) → Option (Int × Int × Int × (List (List Int)))
 | 0, _, _ => none
 | k + 1, x21, x508000 => if x21 = true then (some (0, 0, 1, ([] : List (List Int)))) else (impl_verify.l0 k ([] : List (List Int)) x508000 (x508000.length : Int) 0 x508000)
def impl_verify.l0 : Nat → List (List Int) → List (S121) → Int → Int → List (S121) → Option (Int × Int × Int × (List (List Int)))
 | 0, _, _, _, _, _ => none
 | k + 1, x4, x24, x25, x26, x508000 => if x26 < x25 then (if 0 ≤ x26 then (if x26 < (x24.length : Int) then ((impl_in.f ((rd_T121 x24 x26).f0) 0 4).bind fun t511 => (if t511 = true then ((impl_in.f ((rd_T121 x24 x26).f1) ((rd_T121 x24 x26).f0) 8).bind fun t512 => (if t512 = true then ((impl_in.f (((rd_T121 x24 x26).f2).length : Int) 1 60).bind fun t513 => (impl_verify.j2 k x4 x26 x24 x25 x26 (!t513) x508000 ((rd_T121 x24 x26).f0) ((rd_T121 x24 x26).f1) ((rd_T121 x24 x26).f2))) else (impl_verify.j2 k x4 x26 x24 x25 x26 true x508000 ((rd_T121 x24 x26).f0) ((rd_T121 x24 x26).f1) ((rd_T121 x24 x26).f2)))) else (impl_verify.j2 k x4 x26 x24 x25 x26 true x508000 ((rd_T121 x24 x26).f0) ((rd_T121 x24 x26).f1) ((rd_T121 x24 x26).f2)))) else (none)) else (none)) else (some (0, 0, 0, x4))
def impl_verify.j2 : Nat → List (List Int) → Int → List (S121) → Int → Int → Bool → List (S121) → Int → Int → List (S153) → Option (Int × Int × Int × (List (List Int)))
 | 0, _, _, _, _, _, _, _, _, _, _ => none
 | k + 1, x4, x5, x24, x25, x26, x49, x508000, x511000, x511001, x511002 => if x49 = true then (some (x5, 0, 1, ([] : List (List Int)))) else (impl_verify.l1 k x4 x5 x24 x25 x26 x511002 (x511002.length : Int) 0 x508000)
def impl_verify.l1 : Nat → List (List Int) → Int → List (S121) → Int → Int → List (S153) → Int → Int → List (S121) → Option (Int × Int × Int × (List (List Int)))
 | 0, _, _, _, _, _, _, _, _, _ => none
 | k + 1, x4, x5, x24, x25, x26, x53, x54, x55, x508000 => if x55 < x54 then (if 0 ≤ x55 then (if x55 < (x53.length : Int) then ((impl_InsRight.f k x508000 x5 ((rd_T153 x53 x55).f0) ((rd_T153 x53 x55).f1)).bind fun t516 => (if t516 = true then (impl_verify.l1 k x4 x5 x24 x25 x26 x53 x54 (wrap64 (x55 + 1)) x508000) else (some (x5, x55, 1, ([] : List (List Int)))))) else (none)) else (none)) else ((impl_heightsOf.f k x508000 x5).bind fun bt517 => (if bt517.2.2 = 0 then (if x4.length < 5864062014805 then (impl_verify.l0 k (x4 ++ [bt517.1]) x24 x25 (wrap64 (x26 + 1)) x508000) else (none)) else (some (x5, bt517.2.1, bt517.2.2, ([] : List (List Int))))))
end
def impl_verify.f (k : Nat) (l0_0 : List (S121)) : Option (Int × Int × Int × (List (List Int))) := if (l0_0.length : Int) < 1 then (impl_verify.j0 k true l0_0) else (impl_verify.j0 k (decide ((l0_0.length : Int) > 6)) l0_0)
theorem impl_verify.calls (k : Nat) (A0_0 : Option Addr) (c0_0 : Nat) (l0_0 : List (S121)) (r1 : Int) (r2 : Int) (r3 : Int) (r4 : List (List Int)) (w : World) (hr0_0 : Kd.C k121 w A0_0 l0_0.length l0_0) (hc0_0 : l0_0.length ≤ c0_0) (h : impl_verify.f k l0_0 = some (r1, r2, r3, r4)) :
  Calls Try.prog 94 #[.agg #[.slice A0_0 l0_0.length c0_0]] w fun e w' => ∃ v3_ : Value, e = .returned (.tuple #[.agg #[.int .i64 r1, .int .i64 r2, .int .i64 r3], v3_]) ∧ Kd.S (Kd.slice 2 (Kd.int .i64)) 88 w' w.heap.size (fun _ => True) v3_ r4 ∧ Below w.heap.size w w' := by
 have hu32 := Try.underlying32
 have hu138 := Try.underlying138
 have hu121 := Try.underlying121
 have hu153 := Try.underlying153
 have HR0_0 := am hr0_0
 have HC0_0 := am hc0_0
 clear hr0_0 hc0_0
 have HB := am (Below.refl w.heap.size w)
 have H : (if (l0_0.length : Int) < 1 then (impl_verify.j0 k true l0_0) else (impl_verify.j0 k (decide ((l0_0.length : Int) > 6)) l0_0)) = some (r1, r2, r3, r4) := h
 clear h
 have HC2 := am H
 clear H
 go_enter Try.func94, Try.ntmps94
 go_upto_region 1 with (first | ((with_reducible refine gate_dst (N := 1) rfl ?_); (try (refine gate_guard (by rfl) ?_; dsimp only)); refine box_event ?hg (N := 1) ?hd (cs := #[.slice A0_0 l0_0.length c0_0]) (t := 32) ?hr ?_; (case hd => rfl); (case hg => rfl); (case hr => exact gs); intro gb507 hg w3 hbox hb; have BK507 := am (hbox); have GW507 := gw hg HB; replace HB := bs HB hb; clear hb hbox hg) | ((with_reducible refine gate_dst (N := 2) rfl ?_); (try (refine gate_guard (by rfl) ?_; dsimp only)); refine box_event ?hg (N := 2) ?hd (cs := #[.int .i64 0, .int .i64 0, .int .i64 0]) (t := 138) ?hr ?_; (case hd => rfl); (case hg => rfl); (case hr => exact gs); intro gb508 hg w4 hbox hb; have BK508 := am (hbox); have GW508 := gw hg HB; replace HB := bs HB hb; obtain ⟨NB507_508, NB508_507, BK507⟩ := b3 hg BK507 hb; clear hb hbox hg))
 (try simp only [Act.put, sa, sz, ss])
 go_cut [21] (fun v21 wc => ∃ (kq : Nat) (x21_1 : Bool), v21 = .bool x21_1 ∧ Aside0 (impl_verify.j0 kq x21_1 l0_0 = some (r1, r2, r3, r4)) ∧ Aside0 (kq ≤ k) ∧ Aside0 (wc.heap[gb507]? = some (.cells #[(.slice A0_0 l0_0.length c0_0)] 32 (0, 0))) ∧ Aside0 (wc.heap[gb508]? = some (.cells #[.int .i64 0, .int .i64 0, .int .i64 0] 138 (0, 0))) ∧ Aside0 (Below w.heap.size w wc))
 case first =>
  have H := HC2.out
  clear HC2
  refine qI H ?_ ?_ <;> clear H <;> intro c5b0 H
  ·have c5 := of_decide_eq_true c5b0
   have c5b1 : decide (l0_0.length < 1) = true := decide_eq_true (by omega)
   clear c5
   (first | rw [c5b0] | (simp only [i64_w, i32_w]; rw [c5b0]) | skip)
   have H' := am H
   clear H
   have hnb6 := NB507_508.out
   have hnc6 := NB508_507.out
   have hcz7 := bK w4 BK507
   have hfz7 := bF BK507
   go_wp2
   go_meet
   case rel => exact ⟨_, (true), dr, H', ⟨lk0⟩, ⟨bp BK507⟩, ⟨bp BK508⟩, ⟨bw HB⟩⟩
  have c5 := of_decide_eq_false c5b0
  have c5b1 : decide (l0_0.length < 1) = false := decide_eq_false (by omega)
  clear c5
  (first | rw [c5b0] | (simp only [i64_w, i32_w]; rw [c5b0]) | skip)
  have H' := am H
  clear H
  have hnb8 := NB507_508.out
  have hnc8 := NB508_507.out
  have hcz9 := bK w4 BK507
  have hfz9 := bF BK507
  go_wp2
  go_meet
  case rel => exact ⟨_, (decide ((l0_0.length : Int) > 6)), dr, H', ⟨lk0⟩, ⟨bp BK507⟩, ⟨bp BK508⟩, ⟨bw HB⟩⟩
 clear HC2
 obtain ⟨kq, x21_1, rfl, HA, HJ1, BK507, BK508, HB⟩ := hcut
 rcases kq with _ | kj1
 ·exact absurd HA.out (by simp [impl_verify.j0])
 have H := HA.out
 clear HA
 simp only [impl_verify.j0] at H
 refine qT H ?_ ?_ <;> clear H <;> intro c10 H <;> subst c10
 ·simp only [Option.some.injEq, Prod.mk.injEq] at H
  obtain ⟨rfl, rfl, rfl, rfl⟩ := H
  have hnb11 := NB508_507.out
  have hnc11 := NB507_508.out
  have hcz12 := bK wc BK508
  have hfz12 := bF BK508
  go_wp2
  refine bodyPost_ret (results_ct rfl _ _ gb508 138 #[.int .i64 0, .int .i64 0, .int .i64 1] (0, 0) _ rfl (bt BK508) Try.underlying138 rfl (by kernel_rfl)) rfl ?_
  exact ⟨_, er, by first | exact Kd.S_nil _ _ _ _ _ | exact Kd.N_nil _ _ _ _ _ | exact Kd.V_nil _ _ _ _ _ | exact Kd.Q_nil _ _ _ _ _ | exact Kd.R_nil _ _ _ _ _, bw HB⟩
 have H' := am H
 clear H
 have hnb13 := NB507_508.out
 have hnc13 := NB508_507.out
 have hcz14 := bK wc BK507
 have hfz14 := bF BK507
 go_wp2
 go_loopg [4, 26] kj1 (fun kq v4 v26 w' => ∃ (x4_2 : List (List Int)) (x26_2 : Int) (x509000_2 : Int) (x509001_2 : Int) (x509002_2 : Int), v26 = .int .i64 x26_2 ∧ Aside0 (impl_verify.l0 kq x4_2 l0_0 (l0_0.length : Int) x26_2 l0_0 = some (r1, r2, r3, r4)) ∧ Aside0 (kq ≤ kj1) ∧ Aside0 (Kd.S (Kd.slice 2 (Kd.int .i64)) 88 w' w.heap.size (fun _ => True) v4 x4_2) ∧ Aside0 (w'.heap[gb507]? = some (.cells #[(.slice A0_0 l0_0.length c0_0)] 32 (0, 0))) ∧ Aside0 (w'.heap[gb508]? = some (.cells #[.int .i64 x509000_2, .int .i64 x509001_2, .int .i64 x509002_2] 138 (0, 0))) ∧ Aside0 (Below w.heap.size w w'))
 case atStart => exact ⟨(([] : List (List Int))), (0), (0), (0), (0), dr, H', ⟨Nat.le_refl _⟩, ⟨by first | exact Kd.S_nil _ _ _ _ _ | exact Kd.N_nil _ _ _ _ _ | exact Kd.V_nil _ _ _ _ _ | exact Kd.Q_nil _ _ _ _ _ | exact Kd.R_nil _ _ _ _ _⟩, ⟨bp BK507⟩, ⟨bp BK508⟩, ⟨bw HB⟩⟩
 clear H'
 obtain ⟨x4_2, x26_2, x509000_2, x509001_2, x509002_2, rfl, HA, HK2, HO_4, BK507, BK508, HB⟩ := hrel
 rcases gk with _ | k2
 ·exact absurd HA.out (by simp [impl_verify.l0])
 have H := HA.out
 clear HA
 simp only [impl_verify.l0] at H
 by_cases c15 : x26_2 < (l0_0.length : Int)
 ·rw [if_pos c15] at H
  have c15b0 := decide_eq_true c15
  clear c15
  refine iN H ?_; clear H; intro c16 H
  have c16b0 := decide_eq_true c16
  clear c16
  refine iN H ?_; clear H; intro c17 H
  have c17b0 := decide_eq_true c17
  clear c17
  have HC18 := am H
  clear H
  have p509 : 0 ≤ (x26_2 : Int) := dt
  have q509 : x26_2 < (l0_0.length : Int) := dt
  obtain ⟨ad509, A509_2, c509_2, e509, hx509_0, hx509_1, hx509_2, hl509_2, hi509_2⟩ := at_T121 HR0_0.out x26_2 p509 q509
  cases e509
  replace hx509_0 := cl HB hx509_0
  replace hx509_1 := cl HB hx509_1
  replace hx509_2 := cl HB hx509_2
  have HR509_2 := am hi509_2
  have HC509_2 := am hl509_2
  clear hi509_2 hl509_2
  replace p509 := eq_true p509
  replace q509 := eq_true q509
  go_upto_region 7 with (first | ((with_reducible refine gate_dst (N := 6) rfl ?_); (try (refine gate_guard (by rfl) ?_; dsimp only)); refine box_event ?hg (N := 6) ?hd (cs := #[.int .i64 0, .int .i64 0, .slice none 0 0]) (t := 121) ?hr ?_; (case hd => rfl); (case hg => rfl); (case hr => exact gs); intro gb510 hg w19 hbox hb; replace HO_4 := am (Kd.S_below (kS HO_4) hb); have BK510 := am (hbox); have GW510 := gw hg HB; replace HB := bs HB hb; obtain ⟨NB507_510, NB510_507, BK507⟩ := b3 hg BK507 hb; obtain ⟨NB508_510, NB510_508, BK508⟩ := b3 hg BK508 hb; clear hb hbox hg; have hnb20 := NB510_507.out; have hnc20 := NB507_510.out; have hnb21 := NB510_508.out; have hnc21 := NB508_510.out; have hcz22 := bK w19 BK510; have hfz22 := bF BK510))
  (try simp only [Act.put, sa, sz, ss])
  go_cut [49] (fun v49 wc => ∃ (kq : Nat) (x49_17 : Bool), v49 = .bool x49_17 ∧ Aside0 (impl_verify.j2 kq x4_2 x26_2 l0_0 (l0_0.length : Int) x26_2 x49_17 l0_0 ((rd_T121 l0_0 x26_2).f0) ((rd_T121 l0_0 x26_2).f1) ((rd_T121 l0_0 x26_2).f2) = some (r1, r2, r3, r4)) ∧ Aside0 (kq ≤ k2) ∧ Aside0 (Kd.S (Kd.slice 2 (Kd.int .i64)) 88 wc w.heap.size (fun _ => True) u4 x4_2) ∧ Aside0 (wc.heap[gb507]? = some (.cells #[(.slice (some ad509) l0_0.length c0_0)] 32 (0, 0))) ∧ Aside0 (wc.heap[gb508]? = some (.cells #[.int .i64 x509000_2, .int .i64 x509001_2, .int .i64 x509002_2] 138 (0, 0))) ∧ Aside0 (wc.heap[gb510]? = some (.cells #[.int .i64 ((rd_T121 l0_0 x26_2).f0), .int .i64 ((rd_T121 l0_0 x26_2).f1), (.slice A509_2 ((rd_T121 l0_0 x26_2).f2).length c509_2)] 121 (0, 0))) ∧ Aside0 (Below w.heap.size w wc))
  case first =>
   have H := HC18.out
   clear HC18
   refine be H ?_; clear H; intro t511 A23 H
   refine qT H ?_ ?_ <;> clear H <;> intro c24 H <;> subst c24
   ·refine be H ?_; clear H; intro t512 A25 H
    refine qT H ?_ ?_ <;> clear H <;> intro c26 H <;> subst c26
    ·refine be H ?_; clear H; intro t513 A27 H
     have H' := am H
     clear H
     have hnb28 := NB510_507.out
     have hnc28 := NB507_510.out
     have hnb29 := NB510_508.out
     have hnc29 := NB508_510.out
     have hcz30 := bK w19 BK510
     have hfz30 := bF BK510
     go_wp2_with (first | ((with_reducible refine gate_callee (f := 113) rfl ?_); refine goesL_ (some 33) rfl rfl Try.func113 (by kernel_rfl) rfl #[.int .i64 ((rd_T121 l0_0 x26_2).f0), .int .i64 0, .int .i64 4] rfl gl ?_; (with_reducible refine (impl_in.calls ((rd_T121 l0_0 x26_2).f0) 0 4 true _ A23.out).mono ?_); rintro e w' ⟨rfl, ⟨nd, rfl⟩⟩; refine ⟨_, rfl, ?_⟩) | (go_at_call 113; (with_reducible refine (impl_in.calls ((rd_T121 l0_0 x26_2).f1) ((rd_T121 l0_0 x26_2).f0) 8 true _ A25.out).mono ?_); rintro e w' ⟨rfl, ⟨nd, rfl⟩⟩) | (go_at_call 113; (with_reducible refine (impl_in.calls (((rd_T121 l0_0 x26_2).f2).length : Int) 1 60 t513 _ A27.out).mono ?_); rintro e w' ⟨rfl, ⟨nd, rfl⟩⟩))
     go_meet
     case rel => exact ⟨_, (!t513), dr, H', ⟨lk2 HJ1 HK2⟩, ⟨by (with_reducible repeat (first | apply Kd.S_alloc | apply Kd.S_drewN | apply Kd.S_drew)); exact Kd.S_mono (Kd.S_far (p := ⟨gb510, 2, none⟩) (Kd.S_far (p := ⟨gb510, 1, none⟩) (Kd.S_far (p := ⟨gb510, 0, none⟩) (Kd.S_types HO_4.out BK510.out (by decide)) (fun _ hk => hk.2) (.int .i64 ((rd_T121 l0_0 x26_2).f0))) (fun _ hk => hk.2) (.int .i64 ((rd_T121 l0_0 x26_2).f1))) (fun _ hk => hk.2) (.slice A509_2 ((rd_T121 l0_0 x26_2).f2).length c509_2)) (fun _ hk => trivial)⟩, ⟨by (with_reducible repeat (first | apply dN | apply dW | apply dA)); refine blk_far ?_ NB507_510.out _; (with_reducible repeat (first | apply dN | apply dW | apply dA)); refine blk_far ?_ NB507_510.out _; (with_reducible repeat (first | apply dN | apply dW | apply dA)); refine blk_far ?_ NB507_510.out _; exact bp BK507⟩, ⟨by (with_reducible repeat (first | apply dN | apply dW | apply dA)); refine blk_far ?_ NB508_510.out _; (with_reducible repeat (first | apply dN | apply dW | apply dA)); refine blk_far ?_ NB508_510.out _; (with_reducible repeat (first | apply dN | apply dW | apply dA)); refine blk_far ?_ NB508_510.out _; exact bp BK508⟩, ⟨by (with_reducible repeat (first | apply dN | apply dW | apply dA)); refine blk_put (cs := #[.int .i64 ((rd_T121 l0_0 x26_2).f0), .int .i64 ((rd_T121 l0_0 x26_2).f1), .slice none 0 0]) ?_ 2 _ rfl; (with_reducible repeat (first | apply dN | apply dW | apply dA)); refine blk_put (cs := #[.int .i64 ((rd_T121 l0_0 x26_2).f0), .int .i64 0, .slice none 0 0]) ?_ 1 _ rfl; (with_reducible repeat (first | apply dN | apply dW | apply dA)); refine blk_put (cs := #[.int .i64 0, .int .i64 0, .slice none 0 0]) ?_ 0 _ rfl; exact bp BK510⟩, ⟨bw HB⟩⟩
    have H' := am H
    clear H
    have hnb31 := NB510_507.out
    have hnc31 := NB507_510.out
    have hnb32 := NB510_508.out
    have hnc32 := NB508_510.out
    have hcz33 := bK w19 BK510
    have hfz33 := bF BK510
    go_wp2_with (first | ((with_reducible refine gate_callee (f := 113) rfl ?_); refine goesL_ (some 33) rfl rfl Try.func113 (by kernel_rfl) rfl #[.int .i64 ((rd_T121 l0_0 x26_2).f0), .int .i64 0, .int .i64 4] rfl gl ?_; (with_reducible refine (impl_in.calls ((rd_T121 l0_0 x26_2).f0) 0 4 true _ A23.out).mono ?_); rintro e w' ⟨rfl, ⟨nd, rfl⟩⟩; refine ⟨_, rfl, ?_⟩) | (go_at_call 113; (with_reducible refine (impl_in.calls ((rd_T121 l0_0 x26_2).f1) ((rd_T121 l0_0 x26_2).f0) 8 false _ A25.out).mono ?_); rintro e w' ⟨rfl, ⟨nd, rfl⟩⟩))
    go_meet
    case rel => exact ⟨_, (true), dr, H', ⟨lk2 HJ1 HK2⟩, ⟨by (with_reducible repeat (first | apply Kd.S_alloc | apply Kd.S_drewN | apply Kd.S_drew)); exact Kd.S_mono (Kd.S_far (p := ⟨gb510, 2, none⟩) (Kd.S_far (p := ⟨gb510, 1, none⟩) (Kd.S_far (p := ⟨gb510, 0, none⟩) (Kd.S_types HO_4.out BK510.out (by decide)) (fun _ hk => hk.2) (.int .i64 ((rd_T121 l0_0 x26_2).f0))) (fun _ hk => hk.2) (.int .i64 ((rd_T121 l0_0 x26_2).f1))) (fun _ hk => hk.2) (.slice A509_2 ((rd_T121 l0_0 x26_2).f2).length c509_2)) (fun _ hk => trivial)⟩, ⟨by (with_reducible repeat (first | apply dN | apply dW | apply dA)); refine blk_far ?_ NB507_510.out _; (with_reducible repeat (first | apply dN | apply dW | apply dA)); refine blk_far ?_ NB507_510.out _; (with_reducible repeat (first | apply dN | apply dW | apply dA)); refine blk_far ?_ NB507_510.out _; exact bp BK507⟩, ⟨by (with_reducible repeat (first | apply dN | apply dW | apply dA)); refine blk_far ?_ NB508_510.out _; (with_reducible repeat (first | apply dN | apply dW | apply dA)); refine blk_far ?_ NB508_510.out _; (with_reducible repeat (first | apply dN | apply dW | apply dA)); refine blk_far ?_ NB508_510.out _; exact bp BK508⟩, ⟨by (with_reducible repeat (first | apply dN | apply dW | apply dA)); refine blk_put (cs := #[.int .i64 ((rd_T121 l0_0 x26_2).f0), .int .i64 ((rd_T121 l0_0 x26_2).f1), .slice none 0 0]) ?_ 2 _ rfl; (with_reducible repeat (first | apply dN | apply dW | apply dA)); refine blk_put (cs := #[.int .i64 ((rd_T121 l0_0 x26_2).f0), .int .i64 0, .slice none 0 0]) ?_ 1 _ rfl; (with_reducible repeat (first | apply dN | apply dW | apply dA)); refine blk_put (cs := #[.int .i64 0, .int .i64 0, .slice none 0 0]) ?_ 0 _ rfl; exact bp BK510⟩, ⟨bw HB⟩⟩
   have H' := am H
   clear H
   have hnb34 := NB510_507.out
   have hnc34 := NB507_510.out
   have hnb35 := NB510_508.out
   have hnc35 := NB508_510.out
   have hcz36 := bK w19 BK510
   have hfz36 := bF BK510
   go_wp2_with (first | ((with_reducible refine gate_callee (f := 113) rfl ?_); refine goesL_ (some 33) rfl rfl Try.func113 (by kernel_rfl) rfl #[.int .i64 ((rd_T121 l0_0 x26_2).f0), .int .i64 0, .int .i64 4] rfl gl ?_; (with_reducible refine (impl_in.calls ((rd_T121 l0_0 x26_2).f0) 0 4 false _ A23.out).mono ?_); rintro e w' ⟨rfl, ⟨nd, rfl⟩⟩; refine ⟨_, rfl, ?_⟩))
   go_meet
   case rel => exact ⟨_, (true), dr, H', ⟨lk2 HJ1 HK2⟩, ⟨by (with_reducible repeat (first | apply Kd.S_alloc | apply Kd.S_drewN | apply Kd.S_drew)); exact Kd.S_mono (Kd.S_far (p := ⟨gb510, 2, none⟩) (Kd.S_far (p := ⟨gb510, 1, none⟩) (Kd.S_far (p := ⟨gb510, 0, none⟩) (Kd.S_types HO_4.out BK510.out (by decide)) (fun _ hk => hk.2) (.int .i64 ((rd_T121 l0_0 x26_2).f0))) (fun _ hk => hk.2) (.int .i64 ((rd_T121 l0_0 x26_2).f1))) (fun _ hk => hk.2) (.slice A509_2 ((rd_T121 l0_0 x26_2).f2).length c509_2)) (fun _ hk => trivial)⟩, ⟨by (with_reducible repeat (first | apply dN | apply dW | apply dA)); refine blk_far ?_ NB507_510.out _; (with_reducible repeat (first | apply dN | apply dW | apply dA)); refine blk_far ?_ NB507_510.out _; (with_reducible repeat (first | apply dN | apply dW | apply dA)); refine blk_far ?_ NB507_510.out _; exact bp BK507⟩, ⟨by (with_reducible repeat (first | apply dN | apply dW | apply dA)); refine blk_far ?_ NB508_510.out _; (with_reducible repeat (first | apply dN | apply dW | apply dA)); refine blk_far ?_ NB508_510.out _; (with_reducible repeat (first | apply dN | apply dW | apply dA)); refine blk_far ?_ NB508_510.out _; exact bp BK508⟩, ⟨by (with_reducible repeat (first | apply dN | apply dW | apply dA)); refine blk_put (cs := #[.int .i64 ((rd_T121 l0_0 x26_2).f0), .int .i64 ((rd_T121 l0_0 x26_2).f1), .slice none 0 0]) ?_ 2 _ rfl; (with_reducible repeat (first | apply dN | apply dW | apply dA)); refine blk_put (cs := #[.int .i64 ((rd_T121 l0_0 x26_2).f0), .int .i64 0, .slice none 0 0]) ?_ 1 _ rfl; (with_reducible repeat (first | apply dN | apply dW | apply dA)); refine blk_put (cs := #[.int .i64 0, .int .i64 0, .slice none 0 0]) ?_ 0 _ rfl; exact bp BK510⟩, ⟨bw HB⟩⟩
  clear HC18
  obtain ⟨kq, x49_17, rfl, HA, HJ17, HO_4, BK507, BK508, BK510, HB⟩ := hcut
  rcases kq with _ | kj17
  ·exact absurd HA.out (by simp [impl_verify.j2])
  have H := HA.out
  clear HA
  simp only [impl_verify.j2] at H
  refine qT H ?_ ?_ <;> clear H <;> intro c37 H <;> subst c37
  ·simp only [Option.some.injEq, Prod.mk.injEq] at H
   obtain ⟨rfl, rfl, rfl, rfl⟩ := H
   have hnb38 := NB508_507.out
   have hnc38 := NB507_508.out
   have hnb39 := NB508_510.out
   have hnc39 := NB510_508.out
   have hcz40 := bK wc BK508
   have hfz40 := bF BK508
   go_wp2
   refine bodyPost_ret (results_ct rfl _ _ gb508 138 #[.int .i64 x26_2, .int .i64 0, .int .i64 1] (0, 0) _ rfl (bt BK508) Try.underlying138 rfl (by kernel_rfl)) rfl ?_
   exact ⟨_, er, by first | exact Kd.S_nil _ _ _ _ _ | exact Kd.N_nil _ _ _ _ _ | exact Kd.V_nil _ _ _ _ _ | exact Kd.Q_nil _ _ _ _ _ | exact Kd.R_nil _ _ _ _ _, bw HB⟩
  have H' := am H
  clear H
  have hnb41 := NB510_507.out
  have hnc41 := NB507_510.out
  have hnb42 := NB510_508.out
  have hnc42 := NB508_510.out
  have hcz43 := bK wc BK510
  have hfz43 := bF BK510
  go_wp2
  go_loopg [55] kj17 (fun kq v55 w' => ∃ (x55_4 : Int) (x509000_4 : Int) (x509001_4 : Int) (x509002_4 : Int), v55 = .int .i64 x55_4 ∧ Aside0 (impl_verify.l1 kq x4_2 x26_2 l0_0 (l0_0.length : Int) x26_2 ((rd_T121 l0_0 x26_2).f2) (((rd_T121 l0_0 x26_2).f2).length : Int) x55_4 l0_0 = some (r1, r2, r3, r4)) ∧ Aside0 (kq ≤ kj17) ∧ Aside0 (Kd.S (Kd.slice 2 (Kd.int .i64)) 88 w' w.heap.size (fun _ => True) u4 x4_2) ∧ Aside0 (w'.heap[gb507]? = some (.cells #[(.slice (some ad509) l0_0.length c0_0)] 32 (0, 0))) ∧ Aside0 (w'.heap[gb508]? = some (.cells #[.int .i64 x509000_4, .int .i64 x509001_4, .int .i64 x509002_4] 138 (0, 0))) ∧ Aside0 (w'.heap[gb510]? = some (.cells #[.int .i64 ((rd_T121 l0_0 x26_2).f0), .int .i64 ((rd_T121 l0_0 x26_2).f1), (.slice A509_2 ((rd_T121 l0_0 x26_2).f2).length c509_2)] 121 (0, 0))) ∧ Aside0 (Below w.heap.size w w'))
  case atStart => exact ⟨(0), (x509000_2), (x509001_2), (x509002_2), dr, H', ⟨Nat.le_refl _⟩, ⟨kS HO_4⟩, ⟨bp BK507⟩, ⟨bp BK508⟩, ⟨bp BK510⟩, ⟨bw HB⟩⟩
  clear H'
  obtain ⟨x55_4, x509000_4, x509001_4, x509002_4, rfl, HA, HK4, HO_4, BK507, BK508, BK510, HB⟩ := hrel
  rcases gk with _ | k4
  ·exact absurd HA.out (by simp [impl_verify.l1])
  have H := HA.out
  clear HA
  simp only [impl_verify.l1] at H
  refine qI H ?_ ?_ <;> clear H <;> intro c44b0 H
  ·refine iM H ?_; clear H; intro c45b0 H
   refine iM H ?_; clear H; intro c46b0 H
   refine be H ?_; clear H; intro t516 A47 H
   have HC48 := am H
   clear H
   have p514 : 0 ≤ (x55_4 : Int) := dt
   have q514 : x55_4 < (((rd_T121 l0_0 x26_2).f2).length : Int) := dt
   obtain ⟨ad514, e514, hx514_0, hx514_1⟩ := at_T153 HR509_2.out x55_4 p514 q514
   cases e514
   replace hx514_0 := cl HB hx514_0
   replace hx514_1 := cl HB hx514_1
   replace p514 := eq_true p514
   replace q514 := eq_true q514
   go_upto_if 64 with (first | ((with_reducible refine gate_dst (N := 8) rfl ?_); (try (refine gate_guard (by rfl) ?_; dsimp only)); refine box_event ?hg (N := 8) ?hd (cs := #[.int .i64 0, .int .i64 0]) (t := 153) ?hr ?_; (case hd => rfl); (case hg => rfl); (case hr => exact gs); intro gb515 hg w49 hbox hb; replace HO_4 := am (Kd.S_below (kS HO_4) hb); have BK515 := am (hbox); have GW515 := gw hg HB; replace HB := bs HB hb; obtain ⟨NB507_515, NB515_507, BK507⟩ := b3 hg BK507 hb; obtain ⟨NB508_515, NB515_508, BK508⟩ := b3 hg BK508 hb; obtain ⟨NB510_515, NB515_510, BK510⟩ := b3 hg BK510 hb; clear hb hbox hg; have hnb50 := NB515_507.out; have hnc50 := NB507_515.out; have hnb51 := NB515_508.out; have hnc51 := NB508_515.out; have hnb52 := NB515_510.out; have hnc52 := NB510_515.out; have hcz53 := bK w49 BK515; have hfz53 := bF BK515; have hnb54 := NB507_508.out; have hnc54 := NB508_507.out; have hnb55 := NB507_510.out; have hnc55 := NB510_507.out; have hcz56 := bK w49 BK507; have hfz56 := bF BK507) | ((with_reducible refine gk 137 rfl ?_); refine gB 137 (some 63) Try.func137 #[.agg #[.slice (some ad509) l0_0.length c0_0], .int .i64 x26_2, .agg #[.int .i64 ((rd_T153 ((rd_T121 l0_0 x26_2).f2) x55_4).f0), .int .i64 ((rd_T153 ((rd_T121 l0_0 x26_2).f2) x55_4).f1)]] (impl_InsRight.calls k4 _ _ l0_0 x26_2 ((rd_T153 ((rd_T121 l0_0 x26_2).f2) x55_4).f0) ((rd_T153 ((rd_T121 l0_0 x26_2).f2) x55_4).f1) t516 _ (Kd.C_below HR0_0.out (bw HB)) HC0_0.out A47.out) ?_; intro w57 hb; replace HO_4 := am (Kd.S_below (by (with_reducible repeat (first | apply Kd.S_alloc | apply Kd.S_drewN | apply Kd.S_drew)); exact (Kd.S_mono (Kd.S_far (p := ⟨gb515, 1, none⟩) (Kd.S_far (p := ⟨gb515, 0, none⟩) (Kd.S_types HO_4.out BK515.out (by decide)) (fun _ hk => hk.2) (.int .i64 ((rd_T153 ((rd_T121 l0_0 x26_2).f2) x55_4).f0))) (fun _ hk => hk.2) (.int .i64 ((rd_T153 ((rd_T121 l0_0 x26_2).f2) x55_4).f1))) (fun _ h_ => h_.1))) hb); replace BK507 := bb2 BK507 hb; replace BK508 := bb2 BK508 hb; replace BK510 := bb2 BK510 hb; replace BK515 := bo #[.int .i64 ((rd_T153 ((rd_T121 l0_0 x26_2).f2) x55_4).f0), .int .i64 ((rd_T153 ((rd_T121 l0_0 x26_2).f2) x55_4).f1)] BK515 hb; replace HB := bs HB hb; clear hb))
   (try simp only [Act.put, sa, sz, ss])
   have H := HC48.out
   clear HC48
   refine qT H ?_ ?_ <;> clear H <;> intro c58 H <;> subst c58
   ·have H' := am H
    clear H
    go_wp2
    go_roundg k4
    case measure => have := HJ1.out; have := HK2.out; have := HJ17.out; have := HK4.out; omega
    case rel => exact ⟨(wrap64 (x55_4 + 1)), (x509000_4), (x509001_4), (x509002_4), dr, H', ⟨by have := HJ1.out; have := HK2.out; have := HJ17.out; have := HK4.out; omega⟩, ⟨kS HO_4⟩, ⟨bp BK507⟩, ⟨bp BK508⟩, ⟨bp BK510⟩, ⟨bw HB⟩⟩
   simp only [Option.some.injEq, Prod.mk.injEq] at H
   obtain ⟨rfl, rfl, rfl, rfl⟩ := H
   have hnb59 := NB508_507.out
   have hnc59 := NB507_508.out
   have hnb60 := NB508_510.out
   have hnc60 := NB510_508.out
   have hnb61 := NB508_515.out
   have hnc61 := NB515_508.out
   have hcz62 := bK w57 BK508
   have hfz62 := bF BK508
   go_wp2
   refine bodyPost_ret (results_ct rfl _ _ gb508 138 #[.int .i64 x26_2, .int .i64 x55_4, .int .i64 1] (0, 0) _ rfl (bt BK508) Try.underlying138 rfl (by kernel_rfl)) rfl ?_
   exact ⟨_, er, by first | exact Kd.S_nil _ _ _ _ _ | exact Kd.N_nil _ _ _ _ _ | exact Kd.V_nil _ _ _ _ _ | exact Kd.Q_nil _ _ _ _ _ | exact Kd.R_nil _ _ _ _ _, bw HB⟩
  replace H := Option.bind_eq_some_iff.mp H
  obtain ⟨⟨t517, t520, t521⟩, A630, H⟩ := H
  replace H : (if t521 = 0 then (if x4_2.length < 5864062014805 then (impl_verify.l0 k4 (x4_2 ++ [t517]) l0_0 (l0_0.length : Int) (wrap64 (x26_2 + 1)) l0_0) else (none)) else (some (x26_2, t520, t521, ([] : List (List Int))))) = some (r1, r2, r3, r4) := H
  have A63 := am A630
  clear A630
  have HC64 := am H
  clear H
  have hnb65 := NB507_508.out
  have hnc65 := NB508_507.out
  have hnb66 := NB507_510.out
  have hnc66 := NB510_507.out
  have hcz67 := bK wr BK507
  have hfz67 := bF BK507
  go_upto_if 77 with (first | ((with_reducible refine gk 138 rfl ?_); refine gC 138 (some 72) Try.func138 #[.agg #[.slice (some ad509) l0_0.length c0_0], .int .i64 x26_2] ((impl_heightsOf.calls k4 _ _ l0_0 x26_2 t517 t520 t521 _ (cc (Kd.C_below HR0_0.out HB.out)) HC0_0.out A63.out).mono ?_); rintro e w68 ⟨v518, rfl, ho0, hb⟩; refine ⟨_, rfl, ?_⟩; replace HO_4 := am (Kd.S_elder' (kS HO_4) (Kd.R_base ho0) hb); have HO519 := am (Kd.R_lower ho0 (below_size (bw HB))); replace BK507 := bb BK507 hb; replace BK508 := bb BK508 hb; replace BK510 := bb BK510 hb; replace HB := bs HB hb; clear hb))
  (try simp only [Act.put, sa, sz, ss])
  have H := HC64.out
  clear HC64
  refine qE H ?_ ?_ <;> clear H
  ·intro c69b0 c69b1 H
   (first | rw [c69b0] | (simp only [i64_w, i32_w]; rw [c69b0]) | skip)
   refine iN H ?_; clear H; intro c70 H
   have LMc70 := am c70
   clear c70
   obtain ⟨y522, hy522⟩ : ∃ y_ : List (List Int), y_ = (x4_2 ++ [t517]) := ⟨_, rfl⟩
   replace H : (impl_verify.l0 k4 y522 l0_0 (l0_0.length : Int) (wrap64 (x26_2 + 1)) l0_0) = some (r1, r2, r3, r4) := cg hy522 H
   have Ny522 := am hy522
   clear hy522
   have H' := am H
   clear H
   obtain ⟨Ao72, co72, eo72⟩ := Kd.R_slice HO519.out
   subst eo72
   go_wp2_with (first | ((with_reducible refine gate_builtin (b := .append) (xs := #[.tmp 82, .tmp 84]) rfl ?_); (try (refine gate_guard (by rfl) ?_; dsimp only)); at_builtin; refine Kd.S_append (Kd.slice 2 (Kd.int .i64)) (w0 := w) w.heap.size rfl (.tmp 82) (.tmp 84) 154 88 (.slice none 0 0) 24 rfl Try.underlying154 info88 rfl (by decide) (by omega) u4 x4_2 t517 [.slice Ao72 t517.length co72] (fun _ => True) (fun k_ => some k_ = (.slice Ao72 t517.length co72 : Value).ownBlock) rfl rfl ?aP (fun k_ hk_ => ((Kd.R_mono (ok' := fun k_ => ((fun _ => True)) k_ ∧ some k_ ≠ (u4 : Value).ownBlock) (Kd.R_apart' (HO519.out) (Kd.S_typed HO_4.out) (by decide)) (fun k_ hk => ⟨trivial, hk.2⟩))).1 k_ hk_.symm) ?aF ?aO ?aB ?aS ?aL ?_; (case aP => exact Kd.M_row (Kd.R_mono (Kd.R_tight rfl (Kd.R_mono (ok' := fun k_ => ((fun _ => True)) k_ ∧ some k_ ≠ (u4 : Value).ownBlock) (Kd.R_apart' (HO519.out) (Kd.S_typed HO_4.out) (by decide)) (fun k_ hk => ⟨trivial, hk.2⟩))) (fun _ h_ => h_))); (case aB => exact (bw HB)); (case aF => exact (fun _ _ => trivial)); (case aO => exact (by (with_reducible repeat (first | apply Kd.S_alloc | apply Kd.S_drewN | apply Kd.S_drew)); exact Kd.S_mono HO_4.out (fun k_ hk => ⟨trivial, fun e_ => hk.2 e_⟩))); (case aS => exact (below_size (bw HB))); (case aL => have := LMc70.out; omega); intro v523 w71 ho hb hg hat; rw [← Ny522.out] at ho; replace BK507 := bg BK507 hg (Kd.S_ne HO_4.out BK507.out (by decide)); replace BK508 := bg BK508 hg (Kd.S_ne HO_4.out BK508.out (by decide)); replace BK510 := bg BK510 hg (Kd.S_ne HO_4.out BK510.out (by decide)); replace HB := am (hb); have HO524 := am (ho); clear HO_4; clear HO519; clear ho hb hg hat))
   go_roundg k4
   case measure => have := HJ1.out; have := HK2.out; have := HJ17.out; have := HK4.out; omega
   case rel => exact ⟨(y522), (wrap64 (x26_2 + 1)), (x509000_4), (x509001_4), (x509002_4), dr, H', ⟨by have := HJ1.out; have := HK2.out; have := HJ17.out; have := HK4.out; omega⟩, ⟨kS HO524⟩, ⟨bp BK507⟩, ⟨bp BK508⟩, ⟨bw HB⟩⟩
  intro c69 c69b0 c69b1 H
  (first | rw [c69b0] | (simp only [i64_w, i32_w]; rw [c69b0]) | skip)
  simp only [Option.some.injEq, Prod.mk.injEq] at H
  obtain ⟨rfl, rfl, rfl, rfl⟩ := H
  have hnb73 := NB508_507.out
  have hnc73 := NB507_508.out
  have hnb74 := NB508_510.out
  have hnc74 := NB510_508.out
  have hcz75 := bK w68 BK508
  have hfz75 := bF BK508
  go_wp2
  refine bodyPost_ret (results_ct rfl _ _ gb508 138 #[.int .i64 x26_2, .int .i64 t520, .int .i64 t521] (0, 0) _ rfl (bt BK508) Try.underlying138 rfl (by kernel_rfl)) rfl ?_
  exact ⟨_, er, by first | exact Kd.S_nil _ _ _ _ _ | exact Kd.N_nil _ _ _ _ _ | exact Kd.V_nil _ _ _ _ _ | exact Kd.Q_nil _ _ _ _ _ | exact Kd.R_nil _ _ _ _ _, bw HB⟩
 rw [if_neg c15] at H
 have c15b0 := decide_eq_false c15
 clear c15
 simp only [Option.some.injEq, Prod.mk.injEq] at H
 obtain ⟨rfl, rfl, rfl, rfl⟩ := H
 have hnb76 := NB508_507.out
 have hnc76 := NB507_508.out
 have hcz77 := bK wr BK508
 have hfz77 := bF BK508
 go_wp2
 refine bodyPost_ret (results_ct rfl _ _ gb508 138 #[.int .i64 0, .int .i64 0, .int .i64 0] (0, 0) _ rfl (bt BK508) Try.underlying138 rfl (by kernel_rfl)) rfl ?_
 exact ⟨_, er, by (with_reducible repeat (first | apply Kd.S_alloc | apply Kd.S_drewN | apply Kd.S_drew)); exact Kd.S_mono (Kd.S_far (p := ⟨gb508, 2, none⟩) (Kd.S_far (p := ⟨gb508, 1, none⟩) (Kd.S_far (p := ⟨gb508, 0, none⟩) (Kd.S_types HO_4.out BK508.out (by decide)) (fun _ hk => hk.2) (.int .i64 0)) (fun _ hk => hk.2) (.int .i64 0)) (fun _ hk => hk.2) (.int .i64 0)) (fun _ hk => trivial), bw HB⟩

def impl_known.f (k : Nat) (l0_0 : List (S121)) : Option ((List (S121)) × (List (List Int)) × Bool) := (impl_verify.f k l0_0).bind fun bt526 => (some (l0_0, bt526.2.2.2, (bt526.2.2.1 == 0)))
def impl_known.T2 : Bool × List (List Nat × List Nat) := (true, [([], []), ([], []), ([0, 1], [0, 1]), ([2], [2]), ([], []), ([4], [4]), ([5], [5]), ([3, 0, 1, 2, 3], [3]), ([6, 7, 0, 1, 2, 3, 4, 5, 6, 7], [6])])
def impl_known.B2 : List Nat := [0, 0, 3, 7, 0, 16, 48, 15, 255]
theorem impl_known.tab2 : rtab .any (opsOf Try.f55 2) = impl_known.T2 := by kernel_rfl
theorem impl_known.bits2 : waitsOk impl_known.T2.2 impl_known.B2 = true := by kernel_rfl
theorem impl_known.calls (k : Nat) (P0_0_ : Nat → Prop) (A0_0 : Option Addr) (c0_0 : Nat) (l0_0 : List (S121)) (r1 : List (S121)) (r2 : List (List Int)) (r3 : Bool) (w : World) (hs0_0 : Kd.V k121 121 w w.heap.size (fun k_ => P0_0_ k_) (.slice A0_0 l0_0.length c0_0) l0_0) (h : impl_known.f k l0_0 = some (r1, r2, r3)) :
  Calls Try.prog 55 #[.agg #[.slice A0_0 l0_0.length c0_0]] w fun e w' => ∃ v0_ v1_ : Value, ∃ g_ : Nat, e = .returned (.tuple #[.pointer (some ⟨g_, 0, none⟩), .bool r3]) ∧ Kd.V k121 121 w' w.heap.size (fun k_ => (P0_0_ k_ ∨ w.heap.size ≤ k_) ∧ some k_ ≠ (v1_ : Value).ownBlock) v0_ r1 ∧ Kd.S (Kd.slice 2 (Kd.int .i64)) 88 w' w.heap.size (fun k_ => (w.heap.size ≤ k_)) v1_ r2 ∧ w'.heap[g_]? = some (.cells #[v0_, v1_] 158 (0, 0)) ∧ w.heap.size ≤ g_ ∧ Below w.heap.size w w' := by
 have hu32 := Try.underlying32
 have hu138 := Try.underlying138
 have hu158 := Try.underlying158
 have HO0_0 := am (show Kd.V k121 121 w w.heap.size (fun k_ => (P0_0_ k_ ∨ w.heap.size ≤ k_)) (.slice A0_0 l0_0.length c0_0) l0_0 from Kd.V_mono hs0_0 (fun k_ hk => .inl hk))
 have HB := am (Below.refl w.heap.size w)
 have H : ((impl_verify.f k l0_0).bind fun bt526 => (some (l0_0, bt526.2.2.2, (bt526.2.2.1 == 0)))) = some (r1, r2, r3) := h
 clear h
 replace H := Option.bind_eq_some_iff.mp H
 obtain ⟨⟨t526, t527, t528, t529⟩, A20, H⟩ := H
 replace H : (some (l0_0, t529, (t528 == 0))) = some (r1, r2, r3) := H
 have A2 := am A20
 clear A20
 simp only [Option.some.injEq, Prod.mk.injEq] at H
 obtain ⟨rfl, rfl, rfl⟩ := H
 go_enter Try.func55, Try.ntmps55
 try go_wp2_with (first | ((with_reducible refine gd 1 rfl ?_); refine bX 1 #[.slice A0_0 l0_0.length c0_0] 32 HB ?_; clear HB; intro gb525 w3 hg hb BK525 GW525 HB; replace HO0_0 := am (Kd.V_below (Kd.V_elderB (kV HO0_0) gb525 (Nat.le_of_eq hg.symm)) hb); clear hb hg; have hcz4 := bK w3 BK525; have hfz4 := bF BK525) | ((with_reducible refine gk 94 rfl ?_); refine gC 94 (some 8) Try.func94 #[.agg #[.slice A0_0 l0_0.length c0_0]] ((impl_verify.calls k _ _ l0_0 t526 t527 t528 t529 _ (cc (Kd.V_reads' HO0_0.out).2.2) ((Kd.V_reads' HO0_0.out).2.1) A2.out).mono ?_); rintro e w5 ⟨v530, rfl, ho0, hb⟩; refine ⟨_, rfl, ?_⟩; replace HO0_0 := am (Kd.V_elder' (kV HO0_0) (Kd.S_base ho0) hb); have HO531 := am (Kd.S_lower (Kd.S_newM (M := fun k_ => (w.heap.size ≤ k_)) ho0 (below_size (bw HB)) (fun k_ h_ => h_)) (below_size (bw HB))); replace BK525 := bb BK525 hb; replace HB := bs HB hb; clear hb) | ((with_reducible refine gd 4 rfl ?_); refine bX 4 #[.int .i64 0, .int .i64 0, .int .i64 0] 138 HB ?_; clear HB; intro gb532 w6 hg hb BK532 GW532 HB; replace HO0_0 := am (Kd.V_below (Kd.V_elderB (kV HO0_0) gb532 (Nat.le_of_eq hg.symm)) hb); replace HO531 := am (Kd.S_below (kS HO531) hb); obtain ⟨NB525_532, NB532_525, BK525⟩ := b3 hg BK525 hb; clear hb hg; have hnb7 := NB532_525.out; have hnc7 := NB525_532.out; have hcz8 := bK w6 BK532; have hfz8 := bF BK532))
 replace HO0_0 : Aside0 (Kd.V k121 121 (((w6.setCell ⟨gb532, 0, none⟩ (.int .i64 t526)).setCell ⟨gb532, 1, none⟩ (.int .i64 t527)).setCell ⟨gb532, 2, none⟩ (.int .i64 t528)) w.heap.size (fun k_ => (P0_0_ k_ ∨ w.heap.size ≤ k_) ∧ some k_ ≠ (v530 : Value).ownBlock ∧ k_ ≠ gb525 ∧ k_ ≠ gb532) (.slice A0_0 l0_0.length c0_0) l0_0) := ⟨by (with_reducible repeat (first | apply Kd.V_alloc | apply Kd.V_drewN | apply Kd.V_drew)); exact Kd.V_mono (Kd.V_far (p := ⟨gb532, 2, none⟩) (Kd.V_far (p := ⟨gb532, 1, none⟩) (Kd.V_far (p := ⟨gb532, 0, none⟩) (Kd.V_mono HO0_0.out (fun k_ hk => (⟨hk, hk.2⟩ : _ ∧ k_ ≠ gb532))) (fun _ hk => hk.2) (.int .i64 t526)) (fun _ hk => hk.2) (.int .i64 t527)) (fun _ hk => hk.2) (.int .i64 t528)) (fun _ hk => ⟨hk.1.1.1.1, ⟨hk.1.1.2, ⟨hk.1.1.1.2, hk.1.2⟩⟩⟩)⟩
 replace HO531 : Aside0 (Kd.S (Kd.slice 2 (Kd.int .i64)) 88 (((w6.setCell ⟨gb532, 0, none⟩ (.int .i64 t526)).setCell ⟨gb532, 1, none⟩ (.int .i64 t527)).setCell ⟨gb532, 2, none⟩ (.int .i64 t528)) w.heap.size (fun k_ => (w.heap.size ≤ k_)) v530 t529) := ⟨by (with_reducible repeat (first | apply Kd.S_alloc | apply Kd.S_drewN | apply Kd.S_drew)); exact Kd.S_mono (Kd.S_far (p := ⟨gb532, 2, none⟩) (Kd.S_far (p := ⟨gb532, 1, none⟩) (Kd.S_far (p := ⟨gb532, 0, none⟩) (Kd.S_types HO531.out BK532.out (by decide)) (fun _ hk => hk.2) (.int .i64 t526)) (fun _ hk => hk.2) (.int .i64 t527)) (fun _ hk => hk.2) (.int .i64 t528)) (fun _ hk => hk.1.1)⟩
 replace BK525 : Aside0 ((((w6.setCell ⟨gb532, 0, none⟩ (.int .i64 t526)).setCell ⟨gb532, 1, none⟩ (.int .i64 t527)).setCell ⟨gb532, 2, none⟩ (.int .i64 t528)).heap[gb525]? = some (.cells #[.slice A0_0 l0_0.length c0_0] 32 (0, 0))) := ⟨by (with_reducible repeat (first | apply dN | apply dW | apply dA)); refine blk_far ?_ NB525_532.out _; (with_reducible repeat (first | apply dN | apply dW | apply dA)); refine blk_far ?_ NB525_532.out _; (with_reducible repeat (first | apply dN | apply dW | apply dA)); refine blk_far ?_ NB525_532.out _; exact bp BK525⟩
 replace BK532 : Aside0 ((((w6.setCell ⟨gb532, 0, none⟩ (.int .i64 t526)).setCell ⟨gb532, 1, none⟩ (.int .i64 t527)).setCell ⟨gb532, 2, none⟩ (.int .i64 t528)).heap[gb532]? = some (.cells #[.int .i64 t526, .int .i64 t527, .int .i64 t528] 138 (0, 0))) := ⟨by (with_reducible repeat (first | apply dN | apply dW | apply dA)); refine blk_put (cs := #[.int .i64 t526, .int .i64 t527, .int .i64 0]) ?_ 2 _ rfl; (with_reducible repeat (first | apply dN | apply dW | apply dA)); refine blk_put (cs := #[.int .i64 t526, .int .i64 0, .int .i64 0]) ?_ 1 _ rfl; (with_reducible repeat (first | apply dN | apply dW | apply dA)); refine blk_put (cs := #[.int .i64 0, .int .i64 0, .int .i64 0]) ?_ 0 _ rfl; exact bp BK532⟩
 replace HB : Aside0 (Below w.heap.size w (((w6.setCell ⟨gb532, 0, none⟩ (.int .i64 t526)).setCell ⟨gb532, 1, none⟩ (.int .i64 t527)).setCell ⟨gb532, 2, none⟩ (.int .i64 t528))) := ⟨bw HB⟩
 generalize (((w6.setCell ⟨gb532, 0, none⟩ (.int .i64 t526)).setCell ⟨gb532, 1, none⟩ (.int .i64 t527)).setCell ⟨gb532, 2, none⟩ (.int .i64 t528)) = w9 at HO0_0 HO531 BK525 BK532 HB ⊢
 replace HO0_0 := am (Kd.V_drew HO0_0.out)
 replace HO531 := am (Kd.S_drew HO531.out)
 replace BK525 := am (blk_drew BK525.out)
 replace BK532 := am (blk_drew BK532.out)
 replace HB := am (below_drew1 HB.out)
 obtain ⟨Ao11, co11, eo11⟩ := Kd.S_slice HO531.out
 (first | subst eo11 | (injection eo11 with f1_ f2_ f3_; have f4_ := f1_.symm; have f5_ := f3_.symm; clear f1_ f2_ f3_; subst f4_; subst f5_))
 refine start_ (n := 9) (S := fun w' => w'.cell? ⟨gb525, 0, none⟩ = some (.slice A0_0 l0_0.length c0_0) ∧ w'.cell? ⟨gb532, 0, none⟩ = some (.int .i64 t526) ∧ w'.cell? ⟨gb532, 1, none⟩ = some (.int .i64 t527) ∧ w'.cell? ⟨gb532, 2, none⟩ = some (.int .i64 t528)) (ds := []) (bv 9 0) (by kernel_rfl) rfl (by kernel_rfl) ⟨bc BK525 0, bc BK532 0, bc BK532 1, bc BK532 2⟩ (fun hHeld => ?_); refine with_tabW impl_known.tab2 impl_known.bits2 (fun HT_ HW_ => ?_)
 generalize w9.drew = w10 at HO0_0 HO531 BK525 BK532 HB hHeld ⊢
 refine pu 1 12 9 2 HT_ ?_
 refine pu 4 15 9 18 HT_ ?_
 refine tk 0 11 9 19 HT_ HW_ hHeld ?_
 refine pu 2 13 9 23 HT_ ?_
 refine tk 5 16 9 55 HT_ HW_ hHeld ?_
 refine pu 6 17 9 119 HT_ ?_
 refine on 3 (some 14) 9 127 HT_ fun K hK => ?_
 refine box_step ?hg (N := 14) ?hd (cs := #[.slice A0_0 l0_0.length c0_0, .slice Ao11 t529.length co11]) (t := 158) ?hr ?_; (case hd => rfl); (case hg => rfl); (case hr => exact gs)
 intro gb533 hg w12 hbox hb
 have n0_ := am (Kd.V_below (Kd.V_elderB (kV HO0_0) gb533 (Nat.le_of_eq hg.symm)) hb)
 have n1_ := am (Kd.S_below (kS HO531) hb)
 have n2_ := bb BK525 hb
 have n3_ := bb BK532 hb
 have n4_ := am (below_step (bw HB) hb)
 have n5_ := am (hbox)
 have n6_ := gw hg HB
 have n7_ := gw hg HB
 have n8_ := am ((by rw [hg]; exact Nat.ne_of_lt (blk_lt (g := gb525) (o := .cells #[.slice A0_0 l0_0.length c0_0] 32 (0, 0)) (bp BK525)) : gb525 ≠ gb533))
 have n9_ := am ((by rw [hg]; exact Nat.ne_of_gt (blk_lt (g := gb525) (o := .cells #[.slice A0_0 l0_0.length c0_0] 32 (0, 0)) (bp BK525)) : gb533 ≠ gb525))
 have n10_ := am ((by rw [hg]; exact Nat.ne_of_lt (blk_lt (g := gb532) (o := .cells #[.int .i64 t526, .int .i64 t527, .int .i64 t528] 138 (0, 0)) (bp BK532)) : gb532 ≠ gb533))
 have n11_ := am ((by rw [hg]; exact Nat.ne_of_gt (blk_lt (g := gb532) (o := .cells #[.int .i64 t526, .int .i64 t527, .int .i64 t528] 138 (0, 0)) (bp BK532)) : gb533 ≠ gb532))
 clear HO0_0
 clear HO531
 clear BK525
 clear BK532
 clear HB
 have HO0_0 := n0_
 have HO531 := n1_
 have BK525 := n2_
 have BK532 := n3_
 have HB := n4_
 have BK533 := n5_
 have GW533 := n6_
 have GE533 := n7_
 have NB525_533 := n8_
 have NB533_525 := n9_
 have NB532_533 := n10_
 have NB533_532 := n11_
 clear n0_ n1_ n2_ n3_ n4_ n5_ n6_ n7_ n8_ n9_ n10_ n11_
 clear hb hbox hg
 refine hK.out _ _ ⟨bc BK525 0, bc BK532 0, bc BK532 1, bc BK532 2⟩ (fun hHeld => ?_)
 clear hK K
 refine nm (some 14) ?_
 refine pu 7 2 9 255 HT_ ?_
 refine pu 8 3 9 511 HT_ ?_
 refine done_ (done_of HT_.out (by kernel_rfl)) ?_
 try go_wp2
 go_ret2
 exact ⟨_, _, gb533, er, by (with_reducible repeat (first | apply Kd.V_alloc | apply Kd.V_drewN | apply Kd.V_drew)); exact Kd.V_mono HO0_0.out (fun _ hk => ⟨hk.1.1, hk.1.2.1⟩), kS HO531, (bp BK533), GW533.out, bw HB⟩

def impl_prog_code.f (l0_0 : List (S121)) (l0_1 : List (List Int)) (a1 : Int) : Option ((List (S153))) := if 0 ≤ a1 then (if a1 < (l0_0.length : Int) then (some ((rd_T121 l0_0 a1).f2)) else (none)) else (none)
theorem impl_prog_code.calls (g0_ : Nat) (P0_0_ : Nat → Prop) (A0_0 : Option Addr) (c0_0 : Nat) (l0_0 : List (S121)) (A0_1 : Option Addr) (c0_1 : Nat) (l0_1 : List (List Int)) (a1 : Int) (r : List (S153)) (w : World) (hp0 : w.heap[g0_]? = some (.cells #[.slice A0_0 l0_0.length c0_0, .slice A0_1 l0_1.length c0_1] 158 (0, 0))) (hs0_0 : Kd.V k121 121 w w.heap.size (fun k_ => P0_0_ k_) (.slice A0_0 l0_0.length c0_0) l0_0) (hr0_1 : Kd.C (Kd.slice 2 (Kd.int .i64)) w A0_1 l0_1.length l0_1) (hc0_1 : l0_1.length ≤ c0_1) (h : impl_prog_code.f l0_0 l0_1 a1 = some r) :
  Calls Try.prog 96 #[.pointer (some ⟨g0_, 0, none⟩), .int .i64 a1] w fun e w' => ∃ v0_ : Value, e = .returned (v0_) ∧ Kd.V k153 153 w' w.heap.size (fun k_ => (P0_0_ k_ ∨ w.heap.size ≤ k_)) v0_ r ∧ Below w.heap.size w w' := by
 have HP0_ := am hp0
 clear hp0
 have HO0_0 := am (show Kd.V k121 121 w w.heap.size (fun k_ => (P0_0_ k_ ∨ w.heap.size ≤ k_)) (.slice A0_0 l0_0.length c0_0) l0_0 from Kd.V_mono hs0_0 (fun k_ hk => .inl hk))
 have HR0_1 := am hr0_1
 have HC0_1 := am hc0_1
 clear hr0_1 hc0_1
 have HB := am (Below.refl w.heap.size w)
 have H : (if 0 ≤ a1 then (if a1 < (l0_0.length : Int) then (some ((rd_T121 l0_0 a1).f2)) else (none)) else (none)) = some r := h
 clear h
 refine iM H ?_; clear H; intro c3b0 H
 refine iM H ?_; clear H; intro c4b0 H
 obtain rfl := oi H
 have hcz5 := bK w HP0_
 have hfz5 := bF HP0_
 have p534 : 0 ≤ (a1 : Int) := dt
 have q534 : a1 < (l0_0.length : Int) := dt
 obtain ⟨ad534, A534_2, c534_2, e534, hx534_0, hx534_1, hx534_2, hl534_2, hi534_2⟩ := at_T121 (Kd.V_reads' HO0_0.out).2.2 a1 p534 q534
 cases e534
 obtain ⟨ce534, hce534, hMe534, hcc534⟩ := Kd.V_get HO0_0.out z121 a1 p534 (by first | exact q534 | exact of_decide_eq_true as1 | (have e_ := (Kd.V_reads' HO0_0.out).1; omega))
 obtain ⟨ua534_2, uc534_2, rfl, ul534_2, ge534_2⟩ := k121_openF hMe534
 have hv534_2 := hcc534 2 _ rfl
 rw [add_field _ _ 2 (by omega)] at hv534_2
 replace hv534_2 := Option.some.inj (hv534_2.symm.trans hx534_2)
 injection hv534_2 with hva_ hvn_ hvc_
 rw [hva_] at ge534_2
 rw [hvc_] at ul534_2
 have HL534_2 := am (show Kd.V k153 153 _ w.heap.size _ _ ((rd_T121 l0_0 a1).f2) from Kd.V_mk ul534_2 ge534_2)
 clear hva_ hvn_ hvc_ ge534_2 ul534_2
 clear hcc534 hce534
 have HR534_2 := am hi534_2
 have HC534_2 := am hl534_2
 clear hi534_2 hl534_2
 replace p534 := eq_true p534
 replace q534 := eq_true q534
 go_enter Try.func96, Try.ntmps96
 go_wp2
 go_ret
 exact ⟨_, er, kV HL534_2, bw HB⟩

end Go.Proofs.Ytkhpiicijkhpkaa.QFnExactAsmBytes
