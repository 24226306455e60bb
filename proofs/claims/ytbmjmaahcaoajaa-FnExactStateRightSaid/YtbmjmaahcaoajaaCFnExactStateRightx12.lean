import Derived.Test.YtbmjmaahcaoajaaCFnExactStateRightx0
import Derived.Test.YtbmjmaahcaoajaaCFnExactStateRightx10
import Derived.Test.YtbmjmaahcaoajaaCFnExactStateRightx11
namespace Go.Proofs.Ytbmjmaahcaoajaa.QFnExactStateRight
open Go.RowKit Go.Proofs.YtbmjmaahcaoajaaW
open PrintWords PrintLast PrintMore PrintShort
attribute [local go_sem] max2_int min2_int max_two min_two max_three min_three max_four min_four   -- for this text's walks alone
set_option linter.unusedVariables false
set_option maxHeartbeats 8000000
set_option maxRecDepth 100000
set_option linter.unusedSimpArgs false

mutual
def spec_StateRight.j0 : Nat → Bool → List (S100) → List (S129) → List (List Int) → List Int → Int → Bool → Int → Int → Option (Bool)
 | 0, _, _, _, _, _, _, _, _, _ => none
 | k + 1, x20, x285000, x286000, x286001, x286002, x286003, x286004, x286005, x286006 => if x20 = true then (some false) else (if (x286000.length : Int) = 0 then ((spec_l06Ends.f x286004 x286005 x286006).bind fun t288 => (some t288)) else (if x286004 = true then (spec_StateRight.j1 k true x285000 x286000 x286001 x286002 x286003 x286004 x286005 x286006) else (if x286005 = 0 then (if x286006 = 0 then (spec_StateRight.j1 k (decide ((x286000.length : Int) > 10)) x285000 x286000 x286001 x286002 x286003 x286004 x286005 x286006) else (spec_StateRight.j1 k true x285000 x286000 x286001 x286002 x286003 x286004 x286005 x286006)) else (spec_StateRight.j1 k true x285000 x286000 x286001 x286002 x286003 x286004 x286005 x286006))))
def spec_StateRight.j1 : Nat → Bool → List (S100) → List (S129) → List (List Int) → List Int → Int → Bool → Int → Int → Option (Bool)
 | 0, _, _, _, _, _, _, _, _, _ => none
 | k + 1, x49, x285000, x286000, x286001, x286002, x286003, x286004, x286005, x286006 => if x49 = true then (some false) else (spec_StateRight.l0 k 0 x285000 x286000 x286001 x286002 x286003 x286004 x286005 x286006)
def spec_StateRight.l0 : Nat → Int → List (S100) → List (S129) → List (List Int) → List Int → Int → Bool → Int → Int → Option (Bool)
 | 0, _, _, _, _, _, _, _, _, _ => none
 | k + 1, x5, x285000, x286000, x286001, x286002, x286003, x286004, x286005, x286006 => if x5 < (x286000.length : Int) then (if 0 ≤ x5 then (if (wrap64 (x5 + 1)) < (x286000.length : Int) then (if 0 ≤ (wrap64 (x5 + 1)) then (spec_StateRight.j3 k x5 ((rd_T129 x286000 (wrap64 (x5 + 1))).f0) x285000 x286000 x286001 x286002 x286003 x286004 x286005 x286006 ((rd_T129 x286000 x5).f0) ((rd_T129 x286000 x5).f1) ((rd_T129 x286000 x5).f2) ((rd_T129 x286000 x5).f3)) else (none)) else (spec_StateRight.j3 k x5 (-1) x285000 x286000 x286001 x286002 x286003 x286004 x286005 x286006 ((rd_T129 x286000 x5).f0) ((rd_T129 x286000 x5).f1) ((rd_T129 x286000 x5).f2) ((rd_T129 x286000 x5).f3))) else (none)) else (some true)
def spec_StateRight.j3 : Nat → Int → Int → List (S100) → List (S129) → List (List Int) → List Int → Int → Bool → Int → Int → Int → Int → List Int → List Int → Option (Bool)
 | 0, _, _, _, _, _, _, _, _, _, _, _, _, _, _ => none
 | k + 1, x5, x7, x285000, x286000, x286001, x286002, x286003, x286004, x286005, x286006, x291000, x291001, x291002, x291003 => (spec_l06Stands.f k x285000 x291000 x291001 (x291002.length : Int) (x291003.length : Int) x7).bind fun t292 => (if t292 = true then (spec_StateRight.l0 k (wrap64 (x5 + 1)) x285000 x286000 x286001 x286002 x286003 x286004 x286005 x286006) else (some false))
end
def spec_StateRight.f (k : Nat) (l0_0 : List (S100)) (l1_0 : List (S129)) (l1_1 : List (List Int)) (l1_2 : List Int) (a1_3 : Int) (a1_4 : Bool) (a1_5 : Int) (a1_6 : Int) : Option (Bool) := (spec_l04Right.f k l0_0).bind fun t286 => (if t286 = true then ((spec_l06Rest.f k a1_3 l1_1 l1_2).bind fun t287 => (spec_StateRight.j0 k (!t287) l0_0 l1_0 l1_1 l1_2 a1_3 a1_4 a1_5 a1_6)) else (spec_StateRight.j0 k true l0_0 l1_0 l1_1 l1_2 a1_3 a1_4 a1_5 a1_6))
theorem spec_StateRight.mono_l : ∀ k, (∀ y0 y1 y2 y3 y4 y5 y6 y7 y8, LeO (spec_StateRight.j0 k y0 y1 y2 y3 y4 y5 y6 y7 y8) (spec_StateRight.j0 (k + 1) y0 y1 y2 y3 y4 y5 y6 y7 y8)) ∧ (∀ y0 y1 y2 y3 y4 y5 y6 y7 y8, LeO (spec_StateRight.j1 k y0 y1 y2 y3 y4 y5 y6 y7 y8) (spec_StateRight.j1 (k + 1) y0 y1 y2 y3 y4 y5 y6 y7 y8)) ∧ (∀ y0 y1 y2 y3 y4 y5 y6 y7 y8, LeO (spec_StateRight.l0 k y0 y1 y2 y3 y4 y5 y6 y7 y8) (spec_StateRight.l0 (k + 1) y0 y1 y2 y3 y4 y5 y6 y7 y8)) ∧ (∀ y0 y1 y2 y3 y4 y5 y6 y7 y8 y9 y10 y11 y12 y13, LeO (spec_StateRight.j3 k y0 y1 y2 y3 y4 y5 y6 y7 y8 y9 y10 y11 y12 y13) (spec_StateRight.j3 (k + 1) y0 y1 y2 y3 y4 y5 y6 y7 y8 y9 y10 y11 y12 y13))
 | 0 => ⟨fun _ _ _ _ _ _ _ _ _ r h => by simp [spec_StateRight.j0] at h, fun _ _ _ _ _ _ _ _ _ r h => by simp [spec_StateRight.j1] at h, fun _ _ _ _ _ _ _ _ _ r h => by simp [spec_StateRight.l0] at h, fun _ _ _ _ _ _ _ _ _ _ _ _ _ _ r h => by simp [spec_StateRight.j3] at h⟩
 | k + 1 => by
  obtain ⟨ih0, ih1, ih2, ih3⟩ := spec_StateRight.mono_l k
  refine ⟨?_, ?_, ?_, ?_⟩
  ·intro y0 y1 y2 y3 y4 y5 y6 y7 y8
   unfold spec_StateRight.j0
   with_reducible repeat' first | exact ih0 .. | exact ih1 .. | exact ih2 .. | exact ih3 .. | exact spec_l04Right.mono .. | exact spec_l06Rest.mono .. | exact spec_l06Stands.mono .. | exact LeO.refl _ | exact LeO.none _ | refine LeO.ite ?_ ?_ | refine LeO.bind ?_ (fun _ => ?_)
  ·intro y0 y1 y2 y3 y4 y5 y6 y7 y8
   unfold spec_StateRight.j1
   with_reducible repeat' first | exact ih0 .. | exact ih1 .. | exact ih2 .. | exact ih3 .. | exact spec_l04Right.mono .. | exact spec_l06Rest.mono .. | exact spec_l06Stands.mono .. | exact LeO.refl _ | exact LeO.none _ | refine LeO.ite ?_ ?_ | refine LeO.bind ?_ (fun _ => ?_)
  ·intro y0 y1 y2 y3 y4 y5 y6 y7 y8
   unfold spec_StateRight.l0
   with_reducible repeat' first | exact ih0 .. | exact ih1 .. | exact ih2 .. | exact ih3 .. | exact spec_l04Right.mono .. | exact spec_l06Rest.mono .. | exact spec_l06Stands.mono .. | exact LeO.refl _ | exact LeO.none _ | refine LeO.ite ?_ ?_ | refine LeO.bind ?_ (fun _ => ?_)
  ·intro y0 y1 y2 y3 y4 y5 y6 y7 y8 y9 y10 y11 y12 y13
   unfold spec_StateRight.j3
   with_reducible repeat' first | exact ih0 .. | exact ih1 .. | exact ih2 .. | exact ih3 .. | exact spec_l04Right.mono .. | exact spec_l06Rest.mono .. | exact spec_l06Stands.mono .. | exact LeO.refl _ | exact LeO.none _ | refine LeO.ite ?_ ?_ | refine LeO.bind ?_ (fun _ => ?_)
theorem spec_StateRight.mono : ∀ a0 a1 a2 a3 a4 a5 a6 a7 k, LeO (spec_StateRight.f k a0 a1 a2 a3 a4 a5 a6 a7) (spec_StateRight.f (k + 1) a0 a1 a2 a3 a4 a5 a6 a7) := by
 intro a0 a1 a2 a3 a4 a5 a6 a7 k
 obtain ⟨ih0, ih1, ih2, ih3⟩ := spec_StateRight.mono_l k
 unfold spec_StateRight.f
 with_reducible repeat' first | exact ih0 .. | exact ih1 .. | exact ih2 .. | exact ih3 .. | exact spec_l04Right.mono .. | exact spec_l06Rest.mono .. | exact spec_l06Stands.mono .. | exact LeO.refl _ | exact LeO.none _ | refine LeO.ite ?_ ?_ | refine LeO.bind ?_ (fun _ => ?_)
theorem spec_StateRight.calls (k : Nat) (A0_0 : Option Addr) (c0_0 : Nat) (l0_0 : List (S100)) (A1_0 : Option Addr) (c1_0 : Nat) (l1_0 : List (S129)) (A1_1 : Option Addr) (c1_1 : Nat) (l1_1 : List (List Int)) (A1_2 : Option Addr) (c1_2 : Nat) (l1_2 : List Int) (a1_3 : Int) (a1_4 : Bool) (a1_5 : Int) (a1_6 : Int) (r : Bool) (w : World) (hr0_0 : Kd.C k100 w A0_0 l0_0.length l0_0) (hc0_0 : l0_0.length ≤ c0_0) (hr1_0 : Kd.C k129 w A1_0 l1_0.length l1_0) (hc1_0 : l1_0.length ≤ c1_0) (hr1_1 : Kd.C (Kd.slice 2 (Kd.int .i64)) w A1_1 l1_1.length l1_1) (hc1_1 : l1_1.length ≤ c1_1) (hr1_2 : Kd.C (Kd.int .i64) w A1_2 l1_2.length l1_2) (hc1_2 : l1_2.length ≤ c1_2) (h : spec_StateRight.f k l0_0 l1_0 l1_1 l1_2 a1_3 a1_4 a1_5 a1_6 = some r) :
  Calls Try.prog 53 #[.agg #[.slice A0_0 l0_0.length c0_0], .agg #[.slice A1_0 l1_0.length c1_0, .slice A1_1 l1_1.length c1_1, .slice A1_2 l1_2.length c1_2, .int .i64 a1_3, .bool a1_4, .int .i64 a1_5, .int .i64 a1_6]] w fun e w' => e = .returned (.bool r) ∧ Below w.heap.size w w' := by
 have hu30 := Try.underlying30
 have hu52 := Try.underlying52
 have hu129 := Try.underlying129
 have HR0_0 := am hr0_0
 have HC0_0 := am hc0_0
 clear hr0_0 hc0_0
 have HR1_0 := am hr1_0
 have HC1_0 := am hc1_0
 clear hr1_0 hc1_0
 have HR1_1 := am hr1_1
 have HC1_1 := am hc1_1
 clear hr1_1 hc1_1
 have HR1_2 := am hr1_2
 have HC1_2 := am hc1_2
 clear hr1_2 hc1_2
 have HB := am (Below.refl w.heap.size w)
 have H : ((spec_l04Right.f k l0_0).bind fun t286 => (if t286 = true then ((spec_l06Rest.f k a1_3 l1_1 l1_2).bind fun t287 => (spec_StateRight.j0 k (!t287) l0_0 l1_0 l1_1 l1_2 a1_3 a1_4 a1_5 a1_6)) else (spec_StateRight.j0 k true l0_0 l1_0 l1_1 l1_2 a1_3 a1_4 a1_5 a1_6))) = some r := h
 clear h
 have HC3 := am H
 clear H
 go_enter Try.func53, Try.ntmps53
 go_upto_region 1 with (first | ((with_reducible refine gate_dst (N := 2) rfl ?_); (try (refine gate_guard (by rfl) ?_; dsimp only)); refine box_event ?hg (N := 2) ?hd (cs := #[.slice A0_0 l0_0.length c0_0]) (t := 30) ?hr ?_; (case hd => rfl); (case hg => rfl); (case hr => exact gs); intro gb284 hg w4 hbox hb; have BK284 := am (hbox); have GW284 := gw hg HB; replace HB := bs HB hb; clear hb hbox hg) | ((with_reducible refine gate_dst (N := 3) rfl ?_); (try (refine gate_guard (by rfl) ?_; dsimp only)); refine box_event ?hg (N := 3) ?hd (cs := #[.slice A1_0 l1_0.length c1_0, .slice A1_1 l1_1.length c1_1, .slice A1_2 l1_2.length c1_2, .int .i64 a1_3, .bool a1_4, .int .i64 a1_5, .int .i64 a1_6]) (t := 52) ?hr ?_; (case hd => rfl); (case hg => rfl); (case hr => exact gs); intro gb285 hg w5 hbox hb; have BK285 := am (hbox); have GW285 := gw hg HB; replace HB := bs HB hb; obtain ⟨NB284_285, NB285_284, BK284⟩ := b3 hg BK284 hb; clear hb hbox hg))
 (try simp only [Act.put, sa, sz, ss])
 go_cut [20] (fun v20 wc => ∃ (kq : Nat) (x20_2 : Bool), v20 = .bool x20_2 ∧ Aside0 (spec_StateRight.j0 kq x20_2 l0_0 l1_0 l1_1 l1_2 a1_3 a1_4 a1_5 a1_6 = some r) ∧ Aside0 (kq ≤ k) ∧ Aside0 (wc.heap[gb284]? = some (.cells #[(.slice A0_0 l0_0.length c0_0)] 30 (0, 0))) ∧ Aside0 (wc.heap[gb285]? = some (.cells #[(.slice A1_0 l1_0.length c1_0), (.slice A1_1 l1_1.length c1_1), (.slice A1_2 l1_2.length c1_2), .int .i64 a1_3, .bool a1_4, .int .i64 a1_5, .int .i64 a1_6] 52 (0, 0))) ∧ Aside0 (Below w.heap.size w wc))
 case first =>
  have H := HC3.out
  clear HC3
  refine be H ?_; clear H; intro t286 A6 H
  refine qT H ?_ ?_ <;> clear H <;> intro c7 H <;> subst c7
  ·refine be H ?_; clear H; intro t287 A8 H
   have H' := am H
   clear H
   have hnb9 := NB284_285.out
   have hnc9 := NB285_284.out
   have hcz10 := bK w5 BK284
   have hfz10 := bF BK284
   go_wp2_with (first | ((with_reducible refine gk 63 rfl ?_); refine gB 63 (some 9) Try.func63 #[.agg #[.slice A0_0 l0_0.length c0_0]] (spec_l04Right.calls k _ _ l0_0 true _ (cc (Kd.C_below HR0_0.out HB.out)) HC0_0.out A6.out) ?_; intro w11 hb; replace BK284 := bb BK284 hb; replace BK285 := bb BK285 hb; replace HB := bs HB hb; clear hb; have hcz12_0 := bk w11 BK285 0; have hcz12_1 := bk w11 BK285 1; have hcz12_2 := bk w11 BK285 2; have hcz12_3 := bk w11 BK285 3; have hcz12_4 := bk w11 BK285 4; have hcz12_5 := bk w11 BK285 5; have hcz12_6 := bk w11 BK285 6; have hfz12_0 := bf BK285 0; have hfz12_1 := bf BK285 1; have hfz12_2 := bf BK285 2; have hfz12_3 := bf BK285 3; have hfz12_4 := bf BK285 4; have hfz12_5 := bf BK285 5; have hfz12_6 := bf BK285 6) | (go_at_call 111; refine (spec_l06Rest.calls k a1_3 _ _ l1_1 _ _ l1_2 t287 _ (cc (Kd.C_below HR1_1.out HB.out)) HC1_1.out (cc (Kd.C_below HR1_2.out HB.out)) HC1_2.out A8.out).mono ?_; rintro e w' ⟨rfl, ⟨nd, rfl⟩⟩))
   go_meet
   case rel => exact ⟨_, (!t287), dr, H', ⟨lk0⟩, ⟨bp BK284⟩, ⟨bp BK285⟩, ⟨bw HB⟩⟩
  have H' := am H
  clear H
  have hnb13 := NB284_285.out
  have hnc13 := NB285_284.out
  have hcz14 := bK w5 BK284
  have hfz14 := bF BK284
  go_wp2_with (first | ((with_reducible refine gk 63 rfl ?_); refine gB 63 (some 9) Try.func63 #[.agg #[.slice A0_0 l0_0.length c0_0]] (spec_l04Right.calls k _ _ l0_0 false _ (cc (Kd.C_below HR0_0.out HB.out)) HC0_0.out A6.out) ?_; intro w15 hb; replace BK284 := bb BK284 hb; replace BK285 := bb BK285 hb; replace HB := bs HB hb; clear hb))
  go_meet
  case rel => exact ⟨_, (true), dr, H', ⟨lk0⟩, ⟨bp BK284⟩, ⟨bp BK285⟩, ⟨bw HB⟩⟩
 clear HC3
 (try clear c1); (try clear p2); (try clear c5); (try clear c6); (try clear c7); (try clear c9); (try clear c13); (try clear hcz10); (try clear hcz12_0); (try clear hcz12_1); (try clear hcz12_2); (try clear hcz12_3); (try clear hcz12_4); (try clear hcz12_5); (try clear hcz12_6); (try clear hcz14); (try clear hfz10); (try clear hfz12_0); (try clear hfz12_1); (try clear hfz12_2); (try clear hfz12_3); (try clear hfz12_4); (try clear hfz12_5); (try clear hfz12_6); (try clear hfz14)
 obtain ⟨kq, x20_2, rfl, HA, HJ2, BK284, BK285, HB⟩ := hcut
 rcases kq with _ | kj2
 ·exact absurd HA.out (by simp [spec_StateRight.j0])
 have H := HA.out
 clear HA
 simp only [spec_StateRight.j0] at H
 refine qT H ?_ ?_ <;> clear H <;> intro c16 H <;> subst c16
 ·obtain rfl := Option.some.inj H
  go_wp2
  go_ret
  exact ⟨er, bw HB⟩
 by_cases c17 : (l1_0.length : Int) = 0
 ·rw [if_pos c17] at H
  have c17b0 : ((l1_0.length : Int) == 0) = true := beq_iff_eq.mpr c17
  have c17b1 : ((l1_0.length : Int) != 0) = false := bne_eq_false_iff_eq.mpr c17
  clear c17
  refine be H ?_; clear H; intro t288 A18 H
  obtain rfl := Option.some.inj H
  have hnb19 := NB285_284.out
  have hnc19 := NB284_285.out
  have hcz20_0 := bk wc BK285 0
  have hcz20_1 := bk wc BK285 1
  have hcz20_2 := bk wc BK285 2
  have hcz20_3 := bk wc BK285 3
  have hcz20_4 := bk wc BK285 4
  have hcz20_5 := bk wc BK285 5
  have hcz20_6 := bk wc BK285 6
  have hfz20_0 := bf BK285 0
  have hfz20_1 := bf BK285 1
  have hfz20_2 := bf BK285 2
  have hfz20_3 := bf BK285 3
  have hfz20_4 := bf BK285 4
  have hfz20_5 := bf BK285 5
  have hfz20_6 := bf BK285 6
  go_wp2_with (first | ((with_reducible refine gate_callee (f := 112) rfl ?_); refine goesL_ (some 31) rfl rfl Try.func112 (by kernel_rfl) rfl #[.bool a1_4, .int .i64 a1_5, .int .i64 a1_6] rfl gl ?_; (with_reducible refine (spec_l06Ends.calls a1_4 a1_5 a1_6 t288 _ A18.out).mono ?_); rintro e w' ⟨rfl, ⟨nd, rfl⟩⟩; refine ⟨_, rfl, ?_⟩))
  go_ret
  exact ⟨er, bw HB⟩
 rw [if_neg c17] at H
 have c17b0 : ((l1_0.length : Int) == 0) = false := beq_eq_false_iff_ne.mpr c17
 have c17b1 : ((l1_0.length : Int) != 0) = true := bne_iff_ne.mpr c17
 have c17b2 : ¬ (l1_0 = []) := fun h_ => c17 (by rw [h_]; rfl)
 have HC21 := am H
 clear H
 have hnb22 := NB285_284.out
 have hnc22 := NB284_285.out
 have hcz23_0 := bk wc BK285 0
 have hcz23_1 := bk wc BK285 1
 have hcz23_2 := bk wc BK285 2
 have hcz23_3 := bk wc BK285 3
 have hcz23_4 := bk wc BK285 4
 have hcz23_5 := bk wc BK285 5
 have hcz23_6 := bk wc BK285 6
 have hfz23_0 := bf BK285 0
 have hfz23_1 := bf BK285 1
 have hfz23_2 := bf BK285 2
 have hfz23_3 := bf BK285 3
 have hfz23_4 := bf BK285 4
 have hfz23_5 := bf BK285 5
 have hfz23_6 := bf BK285 6
 go_upto_region 5 with (fail)
 go_cut [49] (fun v49 wc => ∃ (kq : Nat) (x49_20 : Bool), v49 = .bool x49_20 ∧ Aside0 (spec_StateRight.j1 kq x49_20 l0_0 l1_0 l1_1 l1_2 a1_3 a1_4 a1_5 a1_6 = some r) ∧ Aside0 (kq ≤ kj2) ∧ Aside0 (wc.heap[gb284]? = some (.cells #[(.slice A0_0 l0_0.length c0_0)] 30 (0, 0))) ∧ Aside0 (wc.heap[gb285]? = some (.cells #[(.slice A1_0 l1_0.length c1_0), (.slice A1_1 l1_1.length c1_1), (.slice A1_2 l1_2.length c1_2), .int .i64 a1_3, .bool a1_4, .int .i64 a1_5, .int .i64 a1_6] 52 (0, 0))) ∧ Aside0 (Below w.heap.size w wc))
 case first =>
  have H := HC21.out
  clear HC21
  refine qT H ?_ ?_ <;> clear H <;> intro c24 H <;> subst c24
  ·have H' := am H
   clear H
   have hnb25 := NB285_284.out
   have hnc25 := NB284_285.out
   have hcz26_0 := bk wc BK285 0
   have hcz26_1 := bk wc BK285 1
   have hcz26_2 := bk wc BK285 2
   have hcz26_3 := bk wc BK285 3
   have hcz26_4 := bk wc BK285 4
   have hcz26_5 := bk wc BK285 5
   have hcz26_6 := bk wc BK285 6
   have hfz26_0 := bf BK285 0
   have hfz26_1 := bf BK285 1
   have hfz26_2 := bf BK285 2
   have hfz26_3 := bf BK285 3
   have hfz26_4 := bf BK285 4
   have hfz26_5 := bf BK285 5
   have hfz26_6 := bf BK285 6
   go_wp2
   go_meet
   case rel => exact ⟨_, (true), dr, H', ⟨lk1 HJ2⟩, ⟨bp BK284⟩, ⟨bp BK285⟩, ⟨bw HB⟩⟩
  refine qE H ?_ ?_ <;> clear H
  ·intro c27b0 c27b1 H
   (first | rw [c27b0] | (simp only [i64_w, i32_w]; rw [c27b0]) | skip)
   refine qE H ?_ ?_ <;> clear H
   ·intro c28b0 c28b1 H
    have H' := am H
    clear H
    have hnb29 := NB285_284.out
    have hnc29 := NB284_285.out
    have hcz30_0 := bk wc BK285 0
    have hcz30_1 := bk wc BK285 1
    have hcz30_2 := bk wc BK285 2
    have hcz30_3 := bk wc BK285 3
    have hcz30_4 := bk wc BK285 4
    have hcz30_5 := bk wc BK285 5
    have hcz30_6 := bk wc BK285 6
    have hfz30_0 := bf BK285 0
    have hfz30_1 := bf BK285 1
    have hfz30_2 := bf BK285 2
    have hfz30_3 := bf BK285 3
    have hfz30_4 := bf BK285 4
    have hfz30_5 := bf BK285 5
    have hfz30_6 := bf BK285 6
    go_wp2
    go_meet
    case rel => exact ⟨_, (decide ((l1_0.length : Int) > 10)), dr, H', ⟨lk1 HJ2⟩, ⟨bp BK284⟩, ⟨bp BK285⟩, ⟨bw HB⟩⟩
   intro c28 c28b0 c28b1 H
   have H' := am H
   clear H
   have hnb31 := NB285_284.out
   have hnc31 := NB284_285.out
   have hcz32_0 := bk wc BK285 0
   have hcz32_1 := bk wc BK285 1
   have hcz32_2 := bk wc BK285 2
   have hcz32_3 := bk wc BK285 3
   have hcz32_4 := bk wc BK285 4
   have hcz32_5 := bk wc BK285 5
   have hcz32_6 := bk wc BK285 6
   have hfz32_0 := bf BK285 0
   have hfz32_1 := bf BK285 1
   have hfz32_2 := bf BK285 2
   have hfz32_3 := bf BK285 3
   have hfz32_4 := bf BK285 4
   have hfz32_5 := bf BK285 5
   have hfz32_6 := bf BK285 6
   go_wp2
   go_meet
   case rel => exact ⟨_, (true), dr, H', ⟨lk1 HJ2⟩, ⟨bp BK284⟩, ⟨bp BK285⟩, ⟨bw HB⟩⟩
  intro c27 c27b0 c27b1 H
  (first | rw [c27b0] | (simp only [i64_w, i32_w]; rw [c27b0]) | skip)
  have H' := am H
  clear H
  have hnb33 := NB285_284.out
  have hnc33 := NB284_285.out
  have hcz34_0 := bk wc BK285 0
  have hcz34_1 := bk wc BK285 1
  have hcz34_2 := bk wc BK285 2
  have hcz34_3 := bk wc BK285 3
  have hcz34_4 := bk wc BK285 4
  have hcz34_5 := bk wc BK285 5
  have hcz34_6 := bk wc BK285 6
  have hfz34_0 := bf BK285 0
  have hfz34_1 := bf BK285 1
  have hfz34_2 := bf BK285 2
  have hfz34_3 := bf BK285 3
  have hfz34_4 := bf BK285 4
  have hfz34_5 := bf BK285 5
  have hfz34_6 := bf BK285 6
  go_wp2
  go_meet
  case rel => exact ⟨_, (true), dr, H', ⟨lk1 HJ2⟩, ⟨bp BK284⟩, ⟨bp BK285⟩, ⟨bw HB⟩⟩
 clear HC21
 (try clear c2); (try clear c3); (try clear c11); (try clear c16); (try clear c17); (try clear c17b0); (try clear c17b1); (try clear c17b2); (try clear c19); (try clear c22); (try clear c24); (try clear c25); (try clear c27); (try clear c27b0); (try clear c27b1); (try clear c28); (try clear c28b0); (try clear c28b1); (try clear c29); (try clear c31); (try clear c33); (try clear hcz20_0); (try clear hcz20_1); (try clear hcz20_2); (try clear hcz20_3); (try clear hcz20_4); (try clear hcz20_5); (try clear hcz20_6); (try clear hcz23_0); (try clear hcz23_1); (try clear hcz23_2); (try clear hcz23_3); (try clear hcz23_4); (try clear hcz23_5); (try clear hcz23_6); (try clear hcz26_0); (try clear hcz26_1); (try clear hcz26_2); (try clear hcz26_3); (try clear hcz26_4); (try clear hcz26_5); (try clear hcz26_6); (try clear hcz30_0); (try clear hcz30_1); (try clear hcz30_2); (try clear hcz30_3); (try clear hcz30_4); (try clear hcz30_5); (try clear hcz30_6); (try clear hcz32_0); (try clear hcz32_1); (try clear hcz32_2); (try clear hcz32_3); (try clear hcz32_4); (try clear hcz32_5); (try clear hcz32_6); (try clear hcz34_0); (try clear hcz34_1); (try clear hcz34_2); (try clear hcz34_3); (try clear hcz34_4); (try clear hcz34_5); (try clear hcz34_6); (try clear hfz20_0); (try clear hfz20_1); (try clear hfz20_2); (try clear hfz20_3); (try clear hfz20_4); (try clear hfz20_5); (try clear hfz20_6); (try clear hfz23_0); (try clear hfz23_1); (try clear hfz23_2); (try clear hfz23_3); (try clear hfz23_4); (try clear hfz23_5); (try clear hfz23_6); (try clear hfz26_0); (try clear hfz26_1); (try clear hfz26_2); (try clear hfz26_3); (try clear hfz26_4); (try clear hfz26_5); (try clear hfz26_6); (try clear hfz30_0); (try clear hfz30_1); (try clear hfz30_2); (try clear hfz30_3); (try clear hfz30_4); (try clear hfz30_5); (try clear hfz30_6); (try clear hfz32_0); (try clear hfz32_1); (try clear hfz32_2); (try clear hfz32_3); (try clear hfz32_4); (try clear hfz32_5); (try clear hfz32_6); (try clear hfz34_0); (try clear hfz34_1); (try clear hfz34_2); (try clear hfz34_3); (try clear hfz34_4); (try clear hfz34_5); (try clear hfz34_6)
 obtain ⟨kq, x49_20, rfl, HA, HJ20, BK284, BK285, HB⟩ := hcut
 rcases kq with _ | kj20
 ·exact absurd HA.out (by simp [spec_StateRight.j1])
 have H := HA.out
 clear HA
 simp only [spec_StateRight.j1] at H
 refine qT H ?_ ?_ <;> clear H <;> intro c35 H <;> subst c35
 ·obtain rfl := Option.some.inj H
  go_wp2
  go_ret
  exact ⟨er, bw HB⟩
 have H' := am H
 clear H
 go_wp2
 go_loopg [5] kj20 (fun kq v5 w' => ∃ (x5_3 : Int), v5 = .int .i64 x5_3 ∧ Aside0 (spec_StateRight.l0 kq x5_3 l0_0 l1_0 l1_1 l1_2 a1_3 a1_4 a1_5 a1_6 = some r) ∧ Aside0 (kq ≤ kj20) ∧ Aside0 (w'.heap[gb284]? = some (.cells #[(.slice A0_0 l0_0.length c0_0)] 30 (0, 0))) ∧ Aside0 (w'.heap[gb285]? = some (.cells #[(.slice A1_0 l1_0.length c1_0), (.slice A1_1 l1_1.length c1_1), (.slice A1_2 l1_2.length c1_2), .int .i64 a1_3, .bool a1_4, .int .i64 a1_5, .int .i64 a1_6] 52 (0, 0))) ∧ Aside0 (Below w.heap.size w w'))
 case atStart => exact ⟨(0), dr, H', ⟨Nat.le_refl _⟩, ⟨bp BK284⟩, ⟨bp BK285⟩, ⟨bw HB⟩⟩
 clear H'
 (try clear c35)
 obtain ⟨x5_3, rfl, HA, HK3, BK284, BK285, HB⟩ := hrel
 rcases gk with _ | k3
 ·exact absurd HA.out (by simp [spec_StateRight.l0])
 have H := HA.out
 clear HA
 simp only [spec_StateRight.l0] at H
 by_cases c36 : x5_3 < (l1_0.length : Int)
 ·rw [if_pos c36] at H
  have c36b0 := decide_eq_true c36
  clear c36
  refine iN H ?_; clear H; intro c37 H
  have c37b0 := decide_eq_true c37
  clear c37
  have HC38 := am H
  clear H
  have hnb39 := NB285_284.out
  have hnc39 := NB284_285.out
  have hcz40_0 := bk wr BK285 0
  have hcz40_1 := bk wr BK285 1
  have hcz40_2 := bk wr BK285 2
  have hcz40_3 := bk wr BK285 3
  have hcz40_4 := bk wr BK285 4
  have hcz40_5 := bk wr BK285 5
  have hcz40_6 := bk wr BK285 6
  have hfz40_0 := bf BK285 0
  have hfz40_1 := bf BK285 1
  have hfz40_2 := bf BK285 2
  have hfz40_3 := bf BK285 3
  have hfz40_4 := bf BK285 4
  have hfz40_5 := bf BK285 5
  have hfz40_6 := bf BK285 6
  have p289 : 0 ≤ (x5_3 : Int) := of_decide_eq_true as1
  have q289 : x5_3 < (l1_0.length : Int) := of_decide_eq_true as1
  obtain ⟨ad289, A289_2, c289_2, A289_3, c289_3, e289, hx289_0, hx289_1, hx289_2, hx289_3, hl289_2, hi289_2, hl289_3, hi289_3⟩ := at_T129 HR1_0.out x5_3 p289 q289
  cases e289
  replace hx289_0 := cl HB hx289_0
  replace hx289_1 := cl HB hx289_1
  replace hx289_2 := cl HB hx289_2
  replace hx289_3 := cl HB hx289_3
  have HR289_2 := am hi289_2
  have HC289_2 := am hl289_2
  clear hi289_2 hl289_2
  have HR289_3 := am hi289_3
  have HC289_3 := am hl289_3
  clear hi289_3 hl289_3
  replace p289 := eq_true p289
  replace q289 := eq_true q289
  go_upto_if 67 with (first | ((with_reducible refine gate_dst (N := 6) rfl ?_); (try (refine gate_guard (by rfl) ?_; dsimp only)); refine box_event ?hg (N := 6) ?hd (cs := #[.int .i64 0, .int .i64 0, .slice none 0 0, .slice none 0 0]) (t := 129) ?hr ?_; (case hd => rfl); (case hg => rfl); (case hr => exact gs); intro gb290 hg w41 hbox hb; have BK290 := am (hbox); have GW290 := gw hg HB; replace HB := bs HB hb; obtain ⟨NB284_290, NB290_284, BK284⟩ := b3 hg BK284 hb; obtain ⟨NB285_290, NB290_285, BK285⟩ := b3 hg BK285 hb; clear hb hbox hg; have hnb42 := NB290_284.out; have hnc42 := NB284_290.out; have hnb43 := NB290_285.out; have hnc43 := NB285_290.out; have hcz44 := bK w41 BK290; have hfz44 := bF BK290; have hcz45_0 := bk w41 BK285 0; have hcz45_1 := bk w41 BK285 1; have hcz45_2 := bk w41 BK285 2; have hcz45_3 := bk w41 BK285 3; have hcz45_4 := bk w41 BK285 4; have hcz45_5 := bk w41 BK285 5; have hcz45_6 := bk w41 BK285 6; have hfz45_0 := bf BK285 0; have hfz45_1 := bf BK285 1; have hfz45_2 := bf BK285 2; have hfz45_3 := bf BK285 3; have hfz45_4 := bf BK285 4; have hfz45_5 := bf BK285 5; have hfz45_6 := bf BK285 6))
  (try simp only [Act.put, sa, sz, ss])
  go_cut [7] (fun v7 wc => ∃ (kq : Nat) (x7_37 : Int), v7 = .int .i64 x7_37 ∧ Aside0 (spec_StateRight.j3 kq x5_3 x7_37 l0_0 l1_0 l1_1 l1_2 a1_3 a1_4 a1_5 a1_6 ((rd_T129 l1_0 x5_3).f0) ((rd_T129 l1_0 x5_3).f1) ((rd_T129 l1_0 x5_3).f2) ((rd_T129 l1_0 x5_3).f3) = some r) ∧ Aside0 (kq ≤ k3) ∧ Aside0 (wc.heap[gb284]? = some (.cells #[(.slice A0_0 l0_0.length c0_0)] 30 (0, 0))) ∧ Aside0 (wc.heap[gb285]? = some (.cells #[(.slice (some ad289) l1_0.length c1_0), (.slice A1_1 l1_1.length c1_1), (.slice A1_2 l1_2.length c1_2), .int .i64 a1_3, .bool a1_4, .int .i64 a1_5, .int .i64 a1_6] 52 (0, 0))) ∧ Aside0 (wc.heap[gb290]? = some (.cells #[.int .i64 ((rd_T129 l1_0 x5_3).f0), .int .i64 ((rd_T129 l1_0 x5_3).f1), (.slice A289_2 ((rd_T129 l1_0 x5_3).f2).length c289_2), (.slice A289_3 ((rd_T129 l1_0 x5_3).f3).length c289_3)] 129 (0, 0))) ∧ Aside0 (Below w.heap.size w wc))
  case first =>
   have H := HC38.out
   clear HC38
   refine qI H ?_ ?_ <;> clear H <;> intro c46b0 H
   ·(first | rw [c46b0] | (simp only [i64_w, i32_w]; rw [c46b0]) | skip)
    obtain ⟨ji47, hji47⟩ : ∃ j_ : Int, (wrap64 (x5_3 + 1)) = j_ := ⟨_, rfl⟩
    replace H : (if 0 ≤ (ji47) then (spec_StateRight.j3 k3 x5_3 ((rd_T129 l1_0 (ji47)).f0) l0_0 l1_0 l1_1 l1_2 a1_3 a1_4 a1_5 a1_6 ((rd_T129 l1_0 x5_3).f0) ((rd_T129 l1_0 x5_3).f1) ((rd_T129 l1_0 x5_3).f2) ((rd_T129 l1_0 x5_3).f3)) else (none)) = some r := by first | (rw [hji47] at H; exact H) | (simp only [hji47] at H ⊢; exact H)
    (try rw [hji47] at c46b0)
    have hji47w : (IntKind.i64.wrap (x5_3 + 1)) = ji47 := (i64_w _).trans hji47
    refine iM H ?_; clear H; intro c48b0 H
    have H' := am H
    clear H
    have hnb49 := NB285_284.out
    have hnc49 := NB284_285.out
    have hnb50 := NB285_290.out
    have hnc50 := NB290_285.out
    have hcz51_0 := bk w41 BK285 0
    have hcz51_1 := bk w41 BK285 1
    have hcz51_2 := bk w41 BK285 2
    have hcz51_3 := bk w41 BK285 3
    have hcz51_4 := bk w41 BK285 4
    have hcz51_5 := bk w41 BK285 5
    have hcz51_6 := bk w41 BK285 6
    have hfz51_0 := bf BK285 0
    have hfz51_1 := bf BK285 1
    have hfz51_2 := bf BK285 2
    have hfz51_3 := bf BK285 3
    have hfz51_4 := bf BK285 4
    have hfz51_5 := bf BK285 5
    have hfz51_6 := bf BK285 6
    have p291 : 0 ≤ ((ji47) : Int) := of_decide_eq_true as1
    have q291 : (ji47) < (l1_0.length : Int) := of_decide_eq_true as1
    obtain ⟨ad291, A291_2, c291_2, A291_3, c291_3, e291, hx291_0, hx291_1, hx291_2, hx291_3, hl291_2, hi291_2, hl291_3, hi291_3⟩ := at_T129 HR1_0.out (ji47) p291 q291
    obtain rfl : ad289 = ad291 := (by injection e291)
    have hn291_0 : ad289.block ≠ gb290 := Nat.ne_of_lt (Nat.lt_of_lt_of_le (by have := World.block_lt_of_cell? _ _ hx291_0; first | rwa [add_block] at this | exact this) GW290.out)
    have hn291_1 : ad289.block ≠ gb290 := Nat.ne_of_lt (Nat.lt_of_lt_of_le (by have := World.block_lt_of_cell? _ _ hx291_0; first | rwa [add_block] at this | exact this) GW290.out)
    have hn291_2 : ad289.block ≠ gb290 := Nat.ne_of_lt (Nat.lt_of_lt_of_le (by have := World.block_lt_of_cell? _ _ hx291_0; first | rwa [add_block] at this | exact this) GW290.out)
    have hn291_3 : ad289.block ≠ gb290 := Nat.ne_of_lt (Nat.lt_of_lt_of_le (by have := World.block_lt_of_cell? _ _ hx291_0; first | rwa [add_block] at this | exact this) GW290.out)
    replace hx291_0 := cl HB hx291_0
    replace hx291_1 := cl HB hx291_1
    replace hx291_2 := cl HB hx291_2
    replace hx291_3 := cl HB hx291_3
    have HR291_2 := am hi291_2
    have HC291_2 := am hl291_2
    clear hi291_2 hl291_2
    have HR291_3 := am hi291_3
    have HC291_3 := am hl291_3
    clear hi291_3 hl291_3
    replace hx291_0 := (cell_far (p := ⟨gb290, 0, none⟩) (by first | (rw [add_block]; exact hn291_0) | (show (Addr.add _ _).block ≠ _; rw [add_block]; exact hn291_0) | exact hn291_0) (.int .i64 ((rd_T129 l1_0 x5_3).f0))).trans hx291_0
    replace hx291_1 := (cell_far (p := ⟨gb290, 0, none⟩) (by first | (rw [add_block]; exact hn291_0) | (show (Addr.add _ _).block ≠ _; rw [add_block]; exact hn291_0) | exact hn291_0) (.int .i64 ((rd_T129 l1_0 x5_3).f0))).trans hx291_1
    replace hx291_2 := (cell_far (p := ⟨gb290, 0, none⟩) (by first | (rw [add_block]; exact hn291_0) | (show (Addr.add _ _).block ≠ _; rw [add_block]; exact hn291_0) | exact hn291_0) (.int .i64 ((rd_T129 l1_0 x5_3).f0))).trans hx291_2
    replace hx291_3 := (cell_far (p := ⟨gb290, 0, none⟩) (by first | (rw [add_block]; exact hn291_0) | (show (Addr.add _ _).block ≠ _; rw [add_block]; exact hn291_0) | exact hn291_0) (.int .i64 ((rd_T129 l1_0 x5_3).f0))).trans hx291_3
    replace hx291_0 := (cell_far (p := ⟨gb290, 1, none⟩) (by first | (rw [add_block]; exact hn291_1) | (show (Addr.add _ _).block ≠ _; rw [add_block]; exact hn291_1) | exact hn291_1) (.int .i64 ((rd_T129 l1_0 x5_3).f1))).trans hx291_0
    replace hx291_1 := (cell_far (p := ⟨gb290, 1, none⟩) (by first | (rw [add_block]; exact hn291_1) | (show (Addr.add _ _).block ≠ _; rw [add_block]; exact hn291_1) | exact hn291_1) (.int .i64 ((rd_T129 l1_0 x5_3).f1))).trans hx291_1
    replace hx291_2 := (cell_far (p := ⟨gb290, 1, none⟩) (by first | (rw [add_block]; exact hn291_1) | (show (Addr.add _ _).block ≠ _; rw [add_block]; exact hn291_1) | exact hn291_1) (.int .i64 ((rd_T129 l1_0 x5_3).f1))).trans hx291_2
    replace hx291_3 := (cell_far (p := ⟨gb290, 1, none⟩) (by first | (rw [add_block]; exact hn291_1) | (show (Addr.add _ _).block ≠ _; rw [add_block]; exact hn291_1) | exact hn291_1) (.int .i64 ((rd_T129 l1_0 x5_3).f1))).trans hx291_3
    replace hx291_0 := (cell_far (p := ⟨gb290, 2, none⟩) (by first | (rw [add_block]; exact hn291_2) | (show (Addr.add _ _).block ≠ _; rw [add_block]; exact hn291_2) | exact hn291_2) (.slice A289_2 ((rd_T129 l1_0 x5_3).f2).length c289_2)).trans hx291_0
    replace hx291_1 := (cell_far (p := ⟨gb290, 2, none⟩) (by first | (rw [add_block]; exact hn291_2) | (show (Addr.add _ _).block ≠ _; rw [add_block]; exact hn291_2) | exact hn291_2) (.slice A289_2 ((rd_T129 l1_0 x5_3).f2).length c289_2)).trans hx291_1
    replace hx291_2 := (cell_far (p := ⟨gb290, 2, none⟩) (by first | (rw [add_block]; exact hn291_2) | (show (Addr.add _ _).block ≠ _; rw [add_block]; exact hn291_2) | exact hn291_2) (.slice A289_2 ((rd_T129 l1_0 x5_3).f2).length c289_2)).trans hx291_2
    replace hx291_3 := (cell_far (p := ⟨gb290, 2, none⟩) (by first | (rw [add_block]; exact hn291_2) | (show (Addr.add _ _).block ≠ _; rw [add_block]; exact hn291_2) | exact hn291_2) (.slice A289_2 ((rd_T129 l1_0 x5_3).f2).length c289_2)).trans hx291_3
    replace hx291_0 := (cell_far (p := ⟨gb290, 3, none⟩) (by first | (rw [add_block]; exact hn291_3) | (show (Addr.add _ _).block ≠ _; rw [add_block]; exact hn291_3) | exact hn291_3) (.slice A289_3 ((rd_T129 l1_0 x5_3).f3).length c289_3)).trans hx291_0
    replace hx291_1 := (cell_far (p := ⟨gb290, 3, none⟩) (by first | (rw [add_block]; exact hn291_3) | (show (Addr.add _ _).block ≠ _; rw [add_block]; exact hn291_3) | exact hn291_3) (.slice A289_3 ((rd_T129 l1_0 x5_3).f3).length c289_3)).trans hx291_1
    replace hx291_2 := (cell_far (p := ⟨gb290, 3, none⟩) (by first | (rw [add_block]; exact hn291_3) | (show (Addr.add _ _).block ≠ _; rw [add_block]; exact hn291_3) | exact hn291_3) (.slice A289_3 ((rd_T129 l1_0 x5_3).f3).length c289_3)).trans hx291_2
    replace hx291_3 := (cell_far (p := ⟨gb290, 3, none⟩) (by first | (rw [add_block]; exact hn291_3) | (show (Addr.add _ _).block ≠ _; rw [add_block]; exact hn291_3) | exact hn291_3) (.slice A289_3 ((rd_T129 l1_0 x5_3).f3).length c289_3)).trans hx291_3
    clear hn291_0
    clear hn291_1
    clear hn291_2
    clear hn291_3
    replace p291 := eq_true p291
    replace q291 := eq_true q291
    go_wp2
    go_meet
    case rel => exact ⟨_, ((rd_T129 l1_0 (ji47)).f0), (by first | rfl | (simp; done) | (simp only [← hji47] <;> (first | rfl | simp)) | (simp [*]; done)), H', ⟨lk3 HJ2 HJ20 HK3⟩, ⟨by (with_reducible repeat (first | apply dN | apply dW | apply dA)); refine blk_far ?_ NB284_290.out _; (with_reducible repeat (first | apply dN | apply dW | apply dA)); refine blk_far ?_ NB284_290.out _; (with_reducible repeat (first | apply dN | apply dW | apply dA)); refine blk_far ?_ NB284_290.out _; (with_reducible repeat (first | apply dN | apply dW | apply dA)); refine blk_far ?_ NB284_290.out _; exact bp BK284⟩, ⟨by (with_reducible repeat (first | apply dN | apply dW | apply dA)); refine blk_far ?_ NB285_290.out _; (with_reducible repeat (first | apply dN | apply dW | apply dA)); refine blk_far ?_ NB285_290.out _; (with_reducible repeat (first | apply dN | apply dW | apply dA)); refine blk_far ?_ NB285_290.out _; (with_reducible repeat (first | apply dN | apply dW | apply dA)); refine blk_far ?_ NB285_290.out _; exact bp BK285⟩, ⟨by (with_reducible repeat (first | apply dN | apply dW | apply dA)); refine blk_put (cs := #[.int .i64 ((rd_T129 l1_0 x5_3).f0), .int .i64 ((rd_T129 l1_0 x5_3).f1), .slice A289_2 ((rd_T129 l1_0 x5_3).f2).length c289_2, .slice none 0 0]) ?_ 3 _ rfl; (with_reducible repeat (first | apply dN | apply dW | apply dA)); refine blk_put (cs := #[.int .i64 ((rd_T129 l1_0 x5_3).f0), .int .i64 ((rd_T129 l1_0 x5_3).f1), .slice none 0 0, .slice none 0 0]) ?_ 2 _ rfl; (with_reducible repeat (first | apply dN | apply dW | apply dA)); refine blk_put (cs := #[.int .i64 ((rd_T129 l1_0 x5_3).f0), .int .i64 0, .slice none 0 0, .slice none 0 0]) ?_ 1 _ rfl; (with_reducible repeat (first | apply dN | apply dW | apply dA)); refine blk_put (cs := #[.int .i64 0, .int .i64 0, .slice none 0 0, .slice none 0 0]) ?_ 0 _ rfl; exact bp BK290⟩, ⟨bw HB⟩⟩
   (first | rw [c46b0] | (simp only [i64_w, i32_w]; rw [c46b0]) | skip)
   have H' := am H
   clear H
   go_wp2
   go_meet
   case rel => exact ⟨_, ((-1)), dr, H', ⟨lk3 HJ2 HJ20 HK3⟩, ⟨by (with_reducible repeat (first | apply dN | apply dW | apply dA)); refine blk_far ?_ NB284_290.out _; (with_reducible repeat (first | apply dN | apply dW | apply dA)); refine blk_far ?_ NB284_290.out _; (with_reducible repeat (first | apply dN | apply dW | apply dA)); refine blk_far ?_ NB284_290.out _; (with_reducible repeat (first | apply dN | apply dW | apply dA)); refine blk_far ?_ NB284_290.out _; exact bp BK284⟩, ⟨by (with_reducible repeat (first | apply dN | apply dW | apply dA)); refine blk_far ?_ NB285_290.out _; (with_reducible repeat (first | apply dN | apply dW | apply dA)); refine blk_far ?_ NB285_290.out _; (with_reducible repeat (first | apply dN | apply dW | apply dA)); refine blk_far ?_ NB285_290.out _; (with_reducible repeat (first | apply dN | apply dW | apply dA)); refine blk_far ?_ NB285_290.out _; exact bp BK285⟩, ⟨by (with_reducible repeat (first | apply dN | apply dW | apply dA)); refine blk_put (cs := #[.int .i64 ((rd_T129 l1_0 x5_3).f0), .int .i64 ((rd_T129 l1_0 x5_3).f1), .slice A289_2 ((rd_T129 l1_0 x5_3).f2).length c289_2, .slice none 0 0]) ?_ 3 _ rfl; (with_reducible repeat (first | apply dN | apply dW | apply dA)); refine blk_put (cs := #[.int .i64 ((rd_T129 l1_0 x5_3).f0), .int .i64 ((rd_T129 l1_0 x5_3).f1), .slice none 0 0, .slice none 0 0]) ?_ 2 _ rfl; (with_reducible repeat (first | apply dN | apply dW | apply dA)); refine blk_put (cs := #[.int .i64 ((rd_T129 l1_0 x5_3).f0), .int .i64 0, .slice none 0 0, .slice none 0 0]) ?_ 1 _ rfl; (with_reducible repeat (first | apply dN | apply dW | apply dA)); refine blk_put (cs := #[.int .i64 0, .int .i64 0, .slice none 0 0, .slice none 0 0]) ?_ 0 _ rfl; exact bp BK290⟩, ⟨bw HB⟩⟩
  clear HC38
  (try clear q2); (try clear hx2); (try clear c4); (try clear p6); (try clear p28); (try clear q28); (try clear hx28); (try clear p29); (try clear q29); (try clear hx29); (try clear c36); (try clear c36b0); (try clear c37); (try clear c37b0); (try clear c39); (try clear c42); (try clear c43); (try clear c46); (try clear c46b0); (try clear c48); (try clear c48b0); (try clear c49); (try clear c50); (try clear hcz40_0); (try clear hcz40_1); (try clear hcz40_2); (try clear hcz40_3); (try clear hcz40_4); (try clear hcz40_5); (try clear hcz40_6); (try clear hcz44); (try clear hcz45_0); (try clear hcz45_1); (try clear hcz45_2); (try clear hcz45_3); (try clear hcz45_4); (try clear hcz45_5); (try clear hcz45_6); (try clear hcz51_0); (try clear hcz51_1); (try clear hcz51_2); (try clear hcz51_3); (try clear hcz51_4); (try clear hcz51_5); (try clear hcz51_6); (try clear hfz40_0); (try clear hfz40_1); (try clear hfz40_2); (try clear hfz40_3); (try clear hfz40_4); (try clear hfz40_5); (try clear hfz40_6); (try clear hfz44); (try clear hfz45_0); (try clear hfz45_1); (try clear hfz45_2); (try clear hfz45_3); (try clear hfz45_4); (try clear hfz45_5); (try clear hfz45_6); (try clear hfz51_0); (try clear hfz51_1); (try clear hfz51_2); (try clear hfz51_3); (try clear hfz51_4); (try clear hfz51_5); (try clear hfz51_6); (try clear hx289_0); (try clear hx289_1); (try clear hx289_2); (try clear hx289_3); (try clear hx291_0); (try clear hx291_1); (try clear hx291_2); (try clear hx291_3); (try clear p289); (try clear p291); (try clear q289); (try clear q291)
  obtain ⟨kq, x7_37, rfl, HA, HJ37, BK284, BK285, BK290, HB⟩ := hcut
  rcases kq with _ | kj37
  ·exact absurd HA.out (by simp [spec_StateRight.j3])
  have H := HA.out
  clear HA
  simp only [spec_StateRight.j3] at H
  refine be H ?_; clear H; intro t292 A52 H
  have HC53 := am H
  clear H
  have hnb54 := NB284_285.out
  have hnc54 := NB285_284.out
  have hnb55 := NB284_290.out
  have hnc55 := NB290_284.out
  have hcz56 := bK wc BK284
  have hfz56 := bF BK284
  have hnb57 := NB290_285.out
  have hnc57 := NB285_290.out
  have hcz58 := bK wc BK290
  have hfz58 := bF BK290
  go_upto_if 88 with (first | ((with_reducible refine gk 113 rfl ?_); refine gB 113 (some 87) Try.func113 #[.agg #[.slice A0_0 l0_0.length c0_0], .int .i64 ((rd_T129 l1_0 x5_3).f0), .int .i64 ((rd_T129 l1_0 x5_3).f1), .int .i64 (((rd_T129 l1_0 x5_3).f2).length : Int), .int .i64 (((rd_T129 l1_0 x5_3).f3).length : Int), .int .i64 x7_37] (spec_l06Stands.calls kj37 _ _ l0_0 ((rd_T129 l1_0 x5_3).f0) ((rd_T129 l1_0 x5_3).f1) (((rd_T129 l1_0 x5_3).f2).length : Int) (((rd_T129 l1_0 x5_3).f3).length : Int) x7_37 t292 _ (cc (Kd.C_below HR0_0.out HB.out)) HC0_0.out A52.out) ?_; intro w59 hb; replace BK284 := bb BK284 hb; replace BK285 := bb BK285 hb; replace BK290 := bb BK290 hb; replace HB := bs HB hb; clear hb))
  (try simp only [Act.put, sa, sz, ss])
  have H := HC53.out
  clear HC53
  refine qT H ?_ ?_ <;> clear H <;> intro c60 H <;> subst c60
  ·have H' := am H
   clear H
   go_wp2
   go_roundg kj37
   case measure => have := HJ2.out; have := HJ20.out; have := HK3.out; have := HJ37.out; omega
   case rel => exact ⟨(wrap64 (x5_3 + 1)), dr, H', ⟨by have := HJ2.out; have := HJ20.out; have := HK3.out; have := HJ37.out; omega⟩, ⟨bp BK284⟩, ⟨bp BK285⟩, ⟨bw HB⟩⟩
  obtain rfl := Option.some.inj H
  go_wp2
  go_ret
  exact ⟨er, bw HB⟩
 rw [if_neg c36] at H
 have c36b0 := decide_eq_false c36
 clear c36
 obtain rfl := Option.some.inj H
 have hnb61 := NB285_284.out
 have hnc61 := NB284_285.out
 have hcz62_0 := bk wr BK285 0
 have hcz62_1 := bk wr BK285 1
 have hcz62_2 := bk wr BK285 2
 have hcz62_3 := bk wr BK285 3
 have hcz62_4 := bk wr BK285 4
 have hcz62_5 := bk wr BK285 5
 have hcz62_6 := bk wr BK285 6
 have hfz62_0 := bf BK285 0
 have hfz62_1 := bf BK285 1
 have hfz62_2 := bf BK285 2
 have hfz62_3 := bf BK285 3
 have hfz62_4 := bf BK285 4
 have hfz62_5 := bf BK285 5
 have hfz62_6 := bf BK285 6
 go_wp2
 go_ret
 exact ⟨er, bw HB⟩

def laws_toInt64S.l0 : Nat → List Int → List Int → Int → Option (List Int)
 | 0, _, _, _ => none
 | k + 1, x0, x3, x4 => if x4 < (x0.length : Int) then (if 0 ≤ x4 then (if x4 < (x3.length : Int) then (laws_toInt64S.l0 k x0 (x3.set (x4 : Int).toNat (rd x0 x4)) (wrap64 (x4 + 1))) else (none)) else (none)) else (some x3)
def laws_toInt64S.f (k : Nat) (l0 : List Int) : Option (List Int) := if 0 ≤ (l0.length : Int) then (if ((l0.length : Int) : Int).toNat ≤ 35184372088832 then (laws_toInt64S.l0 k l0 (List.replicate ((l0.length : Int) : Int).toNat 0) 0) else (none)) else (none)
theorem laws_toInt64S.mono_l : ∀ k, (∀ y0 y1 y2, LeO (laws_toInt64S.l0 k y0 y1 y2) (laws_toInt64S.l0 (k + 1) y0 y1 y2))
 | 0 => fun _ _ _ r h => by simp [laws_toInt64S.l0] at h
 | k + 1 => by
  have ih0 := laws_toInt64S.mono_l k
  ·intro y0 y1 y2
   unfold laws_toInt64S.l0
   with_reducible repeat' first | exact ih0 .. | exact LeO.refl _ | exact LeO.none _ | refine LeO.ite ?_ ?_ | refine LeO.bind ?_ (fun _ => ?_)
theorem laws_toInt64S.mono : ∀ a0 k, LeO (laws_toInt64S.f k a0) (laws_toInt64S.f (k + 1) a0) := by
 intro a0 k
 have ih0 := laws_toInt64S.mono_l k
 unfold laws_toInt64S.f
 with_reducible repeat' first | exact ih0 .. | exact LeO.refl _ | exact LeO.none _ | refine LeO.ite ?_ ?_ | refine LeO.bind ?_ (fun _ => ?_)
theorem laws_toInt64S.calls (k : Nat) (A0 : Option Addr) (c0 : Nat) (l0 : List Int) (r : List Int) (w : World) (hr0 : Kd.C (Kd.int .i64) w A0 l0.length l0) (hc0 : l0.length ≤ c0) (h : laws_toInt64S.f k l0 = some r) :
  Calls Try.prog 39 #[.slice A0 l0.length c0] w fun e w' => ∃ v0_ : Value, e = .returned (v0_) ∧ Kd.R (Kd.int .i64) 2 w' w.heap.size (fun _ => True) v0_ r ∧ Below w.heap.size w w' := by
 have HR0 := am hr0
 have HC0 := am hc0
 clear hr0 hc0
 have HB := am (Below.refl w.heap.size w)
 have H : (if 0 ≤ (l0.length : Int) then (if ((l0.length : Int) : Int).toNat ≤ 35184372088832 then (laws_toInt64S.l0 k l0 (List.replicate ((l0.length : Int) : Int).toNat 0) 0) else (none)) else (none)) = some r := h
 clear h
 refine iN H ?_; clear H; intro c2 H
 have c2b0 := eq_true c2
 have c2b1 := decide_eq_true c2
 clear c2
 refine iN H ?_; clear H; intro c3 H
 have c3b0 := eq_true c3
 have c3b1 := decide_eq_true c3
 clear c3
 obtain ⟨y293, hy293⟩ : ∃ y_ : List Int, y_ = (List.replicate ((l0.length : Int) : Int).toNat 0) := ⟨_, rfl⟩
 replace H : (laws_toInt64S.l0 k l0 y293 0) = some r := by first | (rw [hy293]; with_reducible exact H) | (have H2_ := (Option.bind_some _ _).symm.trans H; rw [hy293]; with_reducible exact H2_) | (have H2_ := (Option.bind_some _ _).symm.trans H; with_reducible exact H2_) | with_reducible exact H | (rw [hy293]; exact H) | exact H
 have Ny293 := am hy293
 clear hy293
 have H' := am H
 clear H
 go_enter Try.func39, Try.ntmps39
 go_wp2_with (first | ((with_reducible refine gate_dst (N := 7) rfl ?_); refine Kd.R_make (Kd.int .i64) _ 2 rfl (N := 7) rfl 26 _ _ rfl (l0.length : Int) rfl rfl Try.underlying26 (.int .i64 0) 8 info2 rfl (by decide) (by omega) 0 (ok := fun _ => True) (okp := fun _ => True) rfl (fun _ hk => hk) trivial (of_decide_eq_true as1) (Nat.le_trans (Nat.mul_le_mul_right _ (of_decide_eq_true as1 : (l0.length : Int).toNat ≤ 35184372088832)) (by omega)) (Below.refl _ _) (Nat.le_refl _) ?_; intro v294 w4 ho5 hb hg_ hnew_; clear hg_ hnew_; (first | rw [← Ny293.out] at ho5 | (simp only [Int.reduceToNat] at ho5; rw [← Ny293.out] at ho5)); have HO295 := am (Kd.R_lower ho5 (below_size (bw HB))); replace HB := bs HB hb; clear hb ho5))
 go_loopg [4] k (fun kq v4 w' => ∃ (x3_1 : List Int) (x4_1 : Int), v4 = .int .i64 x4_1 ∧ Aside0 (laws_toInt64S.l0 kq l0 x3_1 x4_1 = some r) ∧ Aside0 (kq ≤ k) ∧ Aside0 (Kd.R (Kd.int .i64) 2 w' w.heap.size (fun _ => True) v294 x3_1) ∧ Aside0 (Below w.heap.size w w'))
 case atStart => exact ⟨(y293), (0), dr, H', ⟨Nat.le_refl _⟩, ⟨kR HO295⟩, ⟨bw HB⟩⟩
 clear H'
 (try clear c2); (try clear c2b0); (try clear c2b1); (try clear p2); (try clear c3); (try clear c3b0); (try clear c3b1)
 obtain ⟨x3_1, x4_1, rfl, HA, HK1, HO_3, HB⟩ := hrel
 rcases gk with _ | k1
 ·exact absurd HA.out (by simp [laws_toInt64S.l0])
 have H := HA.out
 clear HA
 simp only [laws_toInt64S.l0] at H
 refine qI H ?_ ?_ <;> clear H <;> intro c6b0 H
 ·refine iM H ?_; clear H; intro c7b0 H
  refine iM H ?_; clear H; intro c8b0 H
  obtain ⟨y297, hy297⟩ : ∃ y_ : List Int, y_ = (x3_1.set (x4_1 : Int).toNat (rd l0 x4_1)) := ⟨_, rfl⟩
  replace H : (laws_toInt64S.l0 k1 l0 y297 (wrap64 (x4_1 + 1))) = some r := by first | (rw [hy297]; with_reducible exact H) | (have H2_ := (Option.bind_some _ _).symm.trans H; rw [hy297]; with_reducible exact H2_) | (have H2_ := (Option.bind_some _ _).symm.trans H; with_reducible exact H2_) | with_reducible exact H | (rw [hy297]; exact H) | exact H
  have Ny297 := am hy297
  clear hy297
  have H' := am H
  clear H
  have p296 : 0 ≤ (x4_1 : Int) := of_decide_eq_true as1
  have q296 : x4_1 < (l0.length : Int) := of_decide_eq_true as1
  obtain ⟨ad296, e296, hx296_0⟩ := Kd.at_int HR0.out x4_1 p296 q296
  cases e296
  replace hx296_0 := cl HB hx296_0
  replace p296 := eq_true p296
  replace q296 := eq_true q296
  have p9 : 0 ≤ (x4_1 : Int) := of_decide_eq_true as1
  have q9 : (x4_1 : Int) < ((x3_1.length : Int) : Int) := of_decide_eq_true as1
  obtain ⟨go9, co9, eo9, gb9, gl9, cl9, HG9⟩ := Kd.R_form HO_3.out (by omega)
  (first | cases eo9 | (injection eo9 with ea_ en_ ec_; (first | subst ea_ | (injection ea_ with ea_; subst ea_)); subst ec_; clear en_))
  have GB9 := am gb9
  have GG9 := am HG9
  clear gb9 gl9 HG9
  obtain ⟨hx9_0, hf9_0⟩ := Kd.R_celln 0 HO_3.out (x4_1 : Int) p9 q9
  replace p9 := eq_true p9
  replace q9 := eq_true q9
  have HP10 := Kd.R_putg HO_3.out (x4_1 : Int) (rd l0 x4_1)
  go_wp2_with (first | ((with_reducible refine gt 2 20 rfl ?_); refine sE 2 20 (wr.setCell ⟨go9, (x4_1 : Int).toNat, none⟩ (.int .i64 (rd l0 x4_1))) ?_; intro w11 hw; have hg : wr.grownBy w11 (some go9) := (by rw [hw]; exact HP10.2); have hp_ : Kd.R (Kd.int .i64) 2 w11 w.heap.size (fun _ => True) (.slice (some ⟨go9, 0, none⟩) x3_1.length co9) y297 := (by rw [hw, Ny297.out]; exact HP10.1); clear HP10; replace HO_3 := am (hp_); replace HB := am ((by rw [hw]; exact below_set (HB.out) GB9.out : Below w.heap.size w w11)); clear hg hw hp_))
  go_roundg k1
  case measure => have := HK1.out; omega
  case rel => exact ⟨(y297), (wrap64 (x4_1 + 1)), dr, H', ⟨by have := HK1.out; omega⟩, ⟨kR HO_3⟩, ⟨bw HB⟩⟩
 obtain rfl := Option.some.inj H
 go_wp2
 go_ret
 exact ⟨_, er, kR HO_3, bw HB⟩

end Go.Proofs.Ytbmjmaahcaoajaa.QFnExactStateRight
