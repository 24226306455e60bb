/- Parts of the drawn program's maker, by what they leave. No condition. -/
import Derived.Test.YtopaefhfjioecaaCFnRangesg6
import Derived.Test.YtopaefhfjioecaaCFnRangesx
import Derived.Deep.RegionHeld3
namespace Go.Proofs.Ytopaefhfjioecaa.QFnRanges
open Go.RowKit Go.Proofs.YtopaefhfjioecaaW.PrintWords Go.Proofs.YtopaefhfjioecaaW.PrintLast Go.Proofs.YtopaefhfjioecaaW.PrintMore Go.Proofs.YtopaefhfjioecaaW.PrintShort
attribute [local go_sem] max2_int min2_int max_two min_two max_three min_three max_four min_four
set_option linter.unusedVariables false
set_option linter.unusedSimpArgs false
def growP (r : Int × Int) (at_ : Int) : Int × Int := (if r.1 < 0 ∨ at_ < r.1 then at_ else r.1, max r.2 at_)
set_option maxHeartbeats 4000000 in
set_option maxRecDepth 100000 in
theorem grow_rel (g : Nat) (s a b at_ : Int) (w : World) (h : w.heap[g]? = some (.cells #[.int .i64 s, .int .i64 a, .int .i64 b] 54 (0, 0))) :
  Calls Try.prog 91 #[.int .i64 at_, .pointer (some ⟨g, 0, none⟩)] w fun e w' => e = .returned (.tuple #[]) ∧ w'.heap[g]? = some (.cells #[.int .i64 s, .int .i64 (growP (a, b) at_).1, .int .i64 (growP (a, b) at_).2] 54 (0, 0)) ∧ KeepBut w w' g none ∧ ∀ n, n ≤ g → Below n w w' := by
 simp only [growP]
 have H := Aside0.mk h
 have h0 : w.cell? ⟨g, 1, none⟩ = some (.int .i64 a) := (blk_cell h 1).trans rfl
 have h1 : w.cell? ⟨g, 2, none⟩ = some (.int .i64 b) := (blk_cell h 2).trans rfl
 have hf_ := blk_frozen h 1
 have hf2_ := blk_frozen h 2
 clear h
 go_enter Try.func91, Try.ntmps91
 go_wp2
 all_goals go_end0
 all_goals refine ⟨rfl, ?_, ?_, ?_⟩
 all_goals first | exact fun n hn => ((Below.refl n w).setCell hn _).setCell hn _ | exact fun n hn => (Below.refl n w).setCell hn _ | exact ((KeepBut.refl w g none).set_ _ _).set_ _ _ | exact (KeepBut.refl w g none).set_ _ _ | skip
 all_goals first | (refine blk_put (blk_put H.out 1 _ rfl) 2 _ ?_; rw [show max b at_ = at_ by omega]; simp [*]; done) | (refine blk_put (blk_put H.out 1 _ rfl) 2 _ ?_; rw [show max b at_ = b by omega]; simp [*]; done) | (refine blk_put H.out 2 _ ?_; rw [show max b at_ = at_ by omega]; simp [*]; done) | (refine blk_put H.out 2 _ ?_; rw [show max b at_ = b by omega]; simp [*]; done)
/-- The bit s of x. -/
def bitB (x s : Int) : Bool := bits BinOp.and IntKind.i64 (x / 2 ^ min s.toNat 64) 1 == 1
def stepP (LV : List Int) (RB : Int → Bool) (WV : Int → Int) (s i : Int) (r : Int × Int) : Int × Int :=
 let r1 := if bitB (rd LV i) s = true then growP r i else r
 if RB i = true ∧ bitB (WV i) s = true ∧ i + 1 < (LV.length : Int) then growP r1 (i + 1) else r1
def runP (LV : List Int) (RB : Int → Bool) (WV : Int → Int) (s : Int) : Nat → Int × Int
 | 0 => (-1, 0)
 | i + 1 => stepP LV RB WV s i (runP LV RB WV s i)
theorem stepP_00 {LV : List Int} {RB : Int → Bool} {WV : Int → Int} {s i : Int} {r : Int × Int} (h1 : bitB (rd LV i) s = false) (h2 : ¬ (RB i = true ∧ bitB (WV i) s = true ∧ i + 1 < (LV.length : Int))) : stepP LV RB WV s i r = r := by unfold stepP; rw [if_neg h2, if_neg (by rw [h1]; simp)]
theorem stepP_01 {LV : List Int} {RB : Int → Bool} {WV : Int → Int} {s i : Int} {r : Int × Int} (h1 : bitB (rd LV i) s = false) (h2 : (RB i = true ∧ bitB (WV i) s = true ∧ i + 1 < (LV.length : Int))) : stepP LV RB WV s i r = growP r (i + 1) := by unfold stepP; rw [if_pos h2, if_neg (by rw [h1]; simp)]
theorem stepP_10 {LV : List Int} {RB : Int → Bool} {WV : Int → Int} {s i : Int} {r : Int × Int} (h1 : bitB (rd LV i) s = true) (h2 : ¬ (RB i = true ∧ bitB (WV i) s = true ∧ i + 1 < (LV.length : Int))) : stepP LV RB WV s i r = growP r i := by unfold stepP; rw [if_neg h2, if_pos h1]
theorem stepP_11 {LV : List Int} {RB : Int → Bool} {WV : Int → Int} {s i : Int} {r : Int × Int} (h1 : bitB (rd LV i) s = true) (h2 : (RB i = true ∧ bitB (WV i) s = true ∧ i + 1 < (LV.length : Int))) : stepP LV RB WV s i r = growP (growP r i) (i + 1) := by unfold stepP; rw [if_pos h2, if_pos h1]
theorem runP_next (LV : List Int) (RB : Int → Bool) (WV : Int → Int) (s i : Int) (h : 0 ≤ i) : runP LV RB WV s (i + 1).toNat = stepP LV RB WV s i (runP LV RB WV s i.toNat) := by
 rw [show (i + 1).toNat = i.toNat + 1 by omega, runP, show ((i.toNat : Nat) : Int) = i by omega]
def rngP (LV : List Int) (RB : Int → Bool) (WV : Int → Int) : Nat → List S54
 | 0 => []
 | s + 1 => rngP LV RB WV s ++ (if 0 ≤ (runP LV RB WV s LV.length).1 then [⟨s, (runP LV RB WV s LV.length).1, (runP LV RB WV s LV.length).2⟩] else [])
theorem rngP_pos {LV : List Int} {RB : Int → Bool} {WV : Int → Int} {s a b : Int} (h : 0 ≤ s) (e : (a, b) = runP LV RB WV s LV.length) (ha : 0 ≤ a) : rngP LV RB WV (s + 1).toNat = rngP LV RB WV s.toNat ++ [⟨s, a, b⟩] := by
 rw [show (s + 1).toNat = s.toNat + 1 by omega, rngP, show ((s.toNat : Nat) : Int) = s by omega, ← e, if_pos ha]
theorem rngP_neg {LV : List Int} {RB : Int → Bool} {WV : Int → Int} {s a b : Int} (h : 0 ≤ s) (e : (a, b) = runP LV RB WV s LV.length) (ha : ¬ 0 ≤ a) : rngP LV RB WV (s + 1).toNat = rngP LV RB WV s.toNat := by
 rw [show (s + 1).toNat = s.toNat + 1 by omega, rngP, show ((s.toNat : Nat) : Int) = s by omega, ← e, if_neg ha, List.append_nil]
theorem info54_ : (Try.prog.info? 54).map (fun i => (i.zero, i.size, i.bytes)) = some (some (.agg #[.int .i64 0, .int .i64 0, .int .i64 0]), 3, 24) := by kernel_rfl
section
variable {w0 : World} {g0_ : Nat} {A0_0 : Option Addr} {c0_0 : Nat} {P : List S35} {A0_1 : Option Addr} {c0_1 : Nat} {HT : List (List Int)}
set_option maxHeartbeats 8000000 in
set_option maxRecDepth 100000 in
theorem ranges_rel (k : Nat) (f : Int) (LV : List Int) (RB : Int → Bool) (WV : Int → Int) (w : World) (hp0 : w.heap[g0_]? = some (.cells #[.slice A0_0 P.length c0_0, .slice A0_1 HT.length c0_1] 67 (0, 0))) (hr0_0 : Kd.C k35 w A0_0 P.length P) (hc0_0 : P.length ≤ c0_0) (hr0_1 : Kd.C (Kd.slice 2 (Kd.int .i64)) w A0_1 HT.length HT) (hc0_1 : HT.length ≤ c0_1) (hf0 : 0 ≤ f) (hf1 : f < (P.length : Int))
  (hlive : impl_prog_live.f k P HT f = some LV) (hn : LV.length ≤ 1048577) (hl : 0 ≤ (rd_T35 P f).f1 ∧ (rd_T35 P f).f1 ≤ 100) (hR : ∀ a : Int, 0 ≤ a → a < (LV.length : Int) → impl_prog_reached.f P HT f a = some (RB a) ∧ (RB a = true → impl_prog_writes.f k P HT f a = some (WV a))) :
  Calls Try.prog 65 #[.pointer (some ⟨g0_, 0, none⟩), .int .i64 f] w fun e w' => ∃ v : Value, e = .returned v ∧ Kd.R k54 54 w' w.heap.size (fun _ => True) v (rngP LV RB WV ((rd_T35 P f).f1 + 8).toNat) ∧ Below w.heap.size w w' := by
 have HP := Aside0.mk hp0
 have H0 := Aside0.mk hr0_0
 have H1 := Aside0.mk hr0_1
 have HC := Aside0.mk (And.intro hc0_0 hc0_1)
 have HV := Aside0.mk hlive
 have HQ := Aside0.mk hR
 have HL := Aside0.mk hl
 have HN := Aside0.mk hn
 have q0 := eq_true hf0
 have q1 := eq_true hf1
 clear hp0 hr0_0 hr0_1 hc0_0 hc0_1 hlive hR hl hn
 go_enter Try.func65, Try.ntmps65
 go_wp2_with (first | ((with_reducible refine gate_callee (f := 90) rfl ?_); refine goesL_ _ rfl rfl Try.func90 (by kernel_rfl) rfl #[.pointer (some ⟨g0_, 0, none⟩), .int .i64 f] rfl gl ?_; refine (impl_prog_live.calls k g0_ A0_0 c0_0 P A0_1 c0_1 HT f LV _ HP.out H0.out HC.out.1 H1.out HC.out.2 HV.out).mono ?_; rintro e w1 ⟨v1, rfl, hv, hb⟩; refine ⟨_, rfl, ?_⟩; have HB := Aside0.mk hb; have HW := Aside0.mk hv; obtain ⟨A1, c1, e1⟩ := Kd.R_slice hv; subst e1; have hc0_ : w1.cell? ⟨g0_, 0, none⟩ = some (.slice A0_0 P.length c0_0) := (blk_cell (blk_below HP.out hb) 0).trans rfl; obtain ⟨adP, AP2, cP2, hA0, hP0, hP1, hP2⟩ := at_T35 (Kd.C_below H0.out hb) f hf0 hf1; subst hA0; clear hb hv))
 have hLl := HL.out
 generalize hLe : (rd_T35 P f).f1 = L at HL hP1 hLl ⊢
 rw [wrap_in (n := L + 8) (by omega) (by omega)]
 obtain ⟨M, hM⟩ : ∃ M, M = L + 8 := ⟨_, rfl⟩
 rw [← hM]
 have HLM := Aside0.mk (And.intro hLl hM)
 have HLe := Aside0.mk hLe
 clear hLl hM hLe hP0 hP1 hP2 HL HV hc0_
 go_loopg [6, 25] M.toNat (fun kq v6 v25 w' => ∃ (s : Int) (v : Value) (rs : List S54), v6 = v ∧ v25 = .int .i64 s ∧ Aside0 (0 ≤ s ∧ s ≤ M ∧ M ≤ s + kq) ∧ Aside0 (rs = rngP LV RB WV s.toNat ∧ (rs.length : Int) ≤ s) ∧ Aside0 (Below w.heap.size w w') ∧ Aside0 (Kd.R (Kd.int .i64) 2 w' w.heap.size (fun _ => True) (.slice A1 LV.length c1) LV) ∧ Aside0 (Kd.R k54 54 w' w.heap.size (fun _ => True) v rs))
 case atStart => exact ⟨0, _, [], rfl, rfl, ⟨by have := HLM.out; omega⟩, ⟨rfl, by simp⟩, HB, HW, ⟨Kd.R_nil _ _ _ _ _⟩⟩
 case round =>
  clear HB HW
  obtain ⟨s, v, rs, rfl, rfl, HK, HRS, HB, HW, HO⟩ := hrel
  by_cases hs : s < M
  · have hsd : decide (s < M) = true := decide_eq_true hs
    have hk0 := HK.out.1
    have HS := Aside0.mk (And.intro hk0 hs)
    obtain ⟨ko, hko⟩ : ∃ ko, gk = ko + 1 := ⟨gk - 1, by have := HK.out; omega⟩
    subst hko
    clear hs hk0
    go_wp2
    have HG := Aside0.mk (below_size HB.out)
    have n0_ := Aside0.mk (below_alloc HB.out (.cells #[.int .i64 s, .int .i64 (-1), .int .i64 0] 54))
    have n1_ := Aside0.mk (Kd.R_mono (ok' := fun k => k ≠ wr.heap.size) (Kd.R_alloc (Kd.R_elderB HW.out wr.heap.size (Nat.le_refl _)) (.cells #[.int .i64 s, .int .i64 (-1), .int .i64 0] 54)) (fun _ h => h.2))
    have n2_ := Aside0.mk (Kd.R_mono (ok' := fun k => k ≠ wr.heap.size) (Kd.R_alloc (Kd.R_elderB HO.out wr.heap.size (Nat.le_refl _)) (.cells #[.int .i64 s, .int .i64 (-1), .int .i64 0] 54)) (fun _ h => h.2))
    have HZ := Aside0.mk (heap_alloc_new wr (.cells #[.int .i64 s, .int .i64 (-1), .int .i64 0] 54))
    clear HB HW HO
    have HB := n0_
    have HW := n1_
    have HO := n2_
    clear n0_ n1_ n2_
    generalize hgb : wr.heap.size = gb at *
    go_loopg [33] LV.length (fun kq v33 w' => ∃ (i a b : Int), v33 = .int .i64 i ∧ Aside0 (0 ≤ i ∧ i ≤ (LV.length : Int) ∧ (LV.length : Int) ≤ i + kq) ∧ Aside0 ((a, b) = runP LV RB WV s i.toNat) ∧ Aside0 (Below w.heap.size w w') ∧ Aside0 (Kd.R (Kd.int .i64) 2 w' w.heap.size (fun k => k ≠ gb) (.slice A1 LV.length c1) LV) ∧ Aside0 (Kd.R k54 54 w' w.heap.size (fun k => k ≠ gb) u6 rs) ∧ Aside0 (w'.heap[gb]? = some (.cells #[.int .i64 s, .int .i64 a, .int .i64 b] 54 (0, 0))))
    case atStart => exact ⟨0, -1, 0, rfl, ⟨by omega⟩, ⟨rfl⟩, HB, HW, HO, HZ⟩
    case round =>
     clear HB HW HO HZ
     obtain ⟨i, a, b, rfl, HI, HA, HB, HW, HO, HZ⟩ := hrel
     by_cases hi : i < (LV.length : Int)
     · have hid : decide (i < (LV.length : Int)) = true := decide_eq_true hi
       have hi0 := HI.out.1
       obtain ⟨ad, ea, hx⟩ := Kd.at_int (Kd.R_reads' HW.out).2.2 i hi0 hi
       subst ea
       have p0 := eq_true hi0
       have p1 := eq_true hi
       have p2 := eq_true HS.out.1
       obtain ⟨hq1, hq2⟩ := HQ.out i hi0 hi
       have HR := Aside0.mk hq1
       have hin : wrap64 (i + 1) = i + 1 := by have := HN.out; exact wrap_in (by omega) (by omega)
       have HIN := Aside0.mk hin
       obtain ⟨kk, hkk⟩ : ∃ kk, gk = kk + 1 := ⟨gk - 1, by have := HI.out; omega⟩
       subst hkk
       clear hq1
       have HQ2 := Aside0.mk hq2
       clear hq2 hin
       rcases hb1 : bitB (rd LV i) s with _ | _
       · have hb1_ := hb1
         unfold bitB at hb1_
         rcases hb2 : RB i with _ | _
         · rw [hb2] at HR
           go_wp2_with (first | ((with_reducible refine gate_callee (f := 92) rfl ?_); refine goesL_ _ rfl rfl Try.func92 (by kernel_rfl) rfl #[.pointer (some ⟨g0_, 0, none⟩), .int .i64 f, .int .i64 i] rfl gl ?_; refine (impl_prog_reached.calls g0_ (some adP) c0_0 P A0_1 c0_1 HT f i false _ (blk_below HP.out HB.out) (Kd.C_below H0.out HB.out) HC.out.1 (Kd.C_below H1.out HB.out) HC.out.2 HR.out).mono ?_; rintro e w9 ⟨rfl, hb⟩; refine ⟨_, rfl, ?_⟩; have n0_ := Aside0.mk (below_step HB.out hb); have n1_ := Aside0.mk (Kd.R_below HW.out hb); have n2_ := Aside0.mk (Kd.R_below HO.out hb); have n3_ := Aside0.mk (blk_below HZ.out hb); clear HB HW HO HZ hb; have HB := n0_; have HW := n1_; have HO := n2_; have HZ := n3_; clear n0_ n1_ n2_ n3_))
           go_roundg kk
           case measure => omega
           case rel => exact ⟨i + 1, ((a, b)).1, ((a, b)).2, by rw [HIN.out], ⟨by have := HI.out; omega⟩, ⟨by rw [runP_next LV RB WV s i hi0, ← HA.out]; exact (stepP_00 hb1 (fun h => by rw [hb2] at h; exact absurd h.1 (by simp))).symm⟩, HB, HW, HO, HZ⟩
         · rw [hb2] at HR
           obtain ⟨x, hx2⟩ : ∃ x, x = WV i := ⟨_, rfl⟩
           have HX := Aside0.mk (HQ2.out hb2)
           rw [← hx2] at HX
           rcases hb3 : bitB x s with _ | _
           · have hb3_ := hb3
             unfold bitB at hb3_
             have HX3 := Aside0.mk (show bitB (WV i) s = false by rw [← hx2]; exact hb3)
             clear hx2
             go_wp2_with (first | ((with_reducible refine gate_callee (f := 92) rfl ?_); refine goesL_ _ rfl rfl Try.func92 (by kernel_rfl) rfl #[.pointer (some ⟨g0_, 0, none⟩), .int .i64 f, .int .i64 i] rfl gl ?_; refine (impl_prog_reached.calls g0_ (some adP) c0_0 P A0_1 c0_1 HT f i true _ (blk_below HP.out HB.out) (Kd.C_below H0.out HB.out) HC.out.1 (Kd.C_below H1.out HB.out) HC.out.2 HR.out).mono ?_; rintro e w9 ⟨rfl, hb⟩; refine ⟨_, rfl, ?_⟩; have n0_ := Aside0.mk (below_step HB.out hb); have n1_ := Aside0.mk (Kd.R_below HW.out hb); have n2_ := Aside0.mk (Kd.R_below HO.out hb); have n3_ := Aside0.mk (blk_below HZ.out hb); clear HB HW HO HZ hb; have HB := n0_; have HW := n1_; have HO := n2_; have HZ := n3_; clear n0_ n1_ n2_ n3_) | ((refine gate_guard (by rfl) ?_); (with_reducible refine gate_callee (f := 93) rfl ?_); refine goesL_ _ rfl rfl Try.func93 (by kernel_rfl) rfl #[.pointer (some ⟨g0_, 0, none⟩), .int .i64 f, .int .i64 i] rfl gl ?_; refine (impl_prog_writes.calls k g0_ (some adP) c0_0 P A0_1 c0_1 HT f i x _ (blk_below HP.out HB.out) (Kd.C_below H0.out HB.out) HC.out.1 (Kd.C_below H1.out HB.out) HC.out.2 HX.out).mono ?_; rintro e w9 ⟨rfl, hb⟩; refine ⟨_, rfl, ?_⟩; have n0_ := Aside0.mk (below_step HB.out hb); have n1_ := Aside0.mk (Kd.R_below HW.out hb); have n2_ := Aside0.mk (Kd.R_below HO.out hb); have n3_ := Aside0.mk (blk_below HZ.out hb); clear HB HW HO HZ hb; have HB := n0_; have HW := n1_; have HO := n2_; have HZ := n3_; clear n0_ n1_ n2_ n3_))
             have hb4 := HX3.out
             go_roundg kk
             case measure => omega
             case rel => exact ⟨i + 1, ((a, b)).1, ((a, b)).2, by rw [HIN.out], ⟨by have := HI.out; omega⟩, ⟨by rw [runP_next LV RB WV s i hi0, ← HA.out]; exact (stepP_00 hb1 (fun h => by rw [HX3.out] at h; exact absurd h.2.1 (by simp))).symm⟩, HB, HW, HO, HZ⟩
           · have hb3_ := hb3
             unfold bitB at hb3_
             have HX3 := Aside0.mk (show bitB (WV i) s = true by rw [← hx2]; exact hb3)
             clear hx2
             by_cases hl1 : i + 1 < (LV.length : Int)
             · have hl1d : decide (wrap64 (i + 1) < (LV.length : Int)) = true := by rw [HIN.out]; exact decide_eq_true hl1
               go_wp2_with (first | ((with_reducible refine gate_callee (f := 92) rfl ?_); refine goesL_ _ rfl rfl Try.func92 (by kernel_rfl) rfl #[.pointer (some ⟨g0_, 0, none⟩), .int .i64 f, .int .i64 i] rfl gl ?_; refine (impl_prog_reached.calls g0_ (some adP) c0_0 P A0_1 c0_1 HT f i true _ (blk_below HP.out HB.out) (Kd.C_below H0.out HB.out) HC.out.1 (Kd.C_below H1.out HB.out) HC.out.2 HR.out).mono ?_; rintro e w9 ⟨rfl, hb⟩; refine ⟨_, rfl, ?_⟩; have n0_ := Aside0.mk (below_step HB.out hb); have n1_ := Aside0.mk (Kd.R_below HW.out hb); have n2_ := Aside0.mk (Kd.R_below HO.out hb); have n3_ := Aside0.mk (blk_below HZ.out hb); clear HB HW HO HZ hb; have HB := n0_; have HW := n1_; have HO := n2_; have HZ := n3_; clear n0_ n1_ n2_ n3_) | ((refine gate_guard (by rfl) ?_); (with_reducible refine gate_callee (f := 93) rfl ?_); refine goesL_ _ rfl rfl Try.func93 (by kernel_rfl) rfl #[.pointer (some ⟨g0_, 0, none⟩), .int .i64 f, .int .i64 i] rfl gl ?_; refine (impl_prog_writes.calls k g0_ (some adP) c0_0 P A0_1 c0_1 HT f i x _ (blk_below HP.out HB.out) (Kd.C_below H0.out HB.out) HC.out.1 (Kd.C_below H1.out HB.out) HC.out.2 HX.out).mono ?_; rintro e w9 ⟨rfl, hb⟩; refine ⟨_, rfl, ?_⟩; have n0_ := Aside0.mk (below_step HB.out hb); have n1_ := Aside0.mk (Kd.R_below HW.out hb); have n2_ := Aside0.mk (Kd.R_below HO.out hb); have n3_ := Aside0.mk (blk_below HZ.out hb); clear HB HW HO HZ hb; have HB := n0_; have HW := n1_; have HO := n2_; have HZ := n3_; clear n0_ n1_ n2_ n3_) | ((with_reducible refine gate_calleeT (q := .tmp 69) rfl ?_); refine goesC_ (q := .tmp 69) (cap := #[.pointer (some ⟨gb, 0, none⟩)]) (some 72) rfl rfl Try.func91 (by kernel_rfl) rfl rfl #[.int .i64 (wrap64 (i + 1))] #[.int .i64 (wrap64 (i + 1)), .pointer (some ⟨gb, 0, none⟩)] rfl (by (try simp only [List.map_toArray, List.map_cons, List.map_nil]); first | done | rfl) (by simp only [List.append_toArray, List.cons_append, List.nil_append]) ?_; refine (grow_rel gb s a b (wrap64 (i + 1)) _ HZ.out).mono ?_; rintro e w9 ⟨rfl, hz, hk, hb⟩; refine ⟨_, rfl, ?_⟩; rw [HIN.out] at hz; have n0_ := Aside0.mk (below_weaken HB.out HG.out (hb gb (Nat.le_refl _))); have n1_ := Aside0.mk (Kd.R_keep HW.out hk (fun _ h => h)); have n2_ := Aside0.mk (Kd.R_keep HO.out hk (fun _ h => h)); have n3_ := Aside0.mk hz; clear HB HW HO HZ hb hz hk; have HB := n0_; have HW := n1_; have HO := n2_; have HZ := n3_; clear n0_ n1_ n2_ n3_))
               go_roundg kk
               case measure => omega
               case rel => exact ⟨i + 1, (growP ((a, b)) (i + 1)).1, (growP ((a, b)) (i + 1)).2, by rw [HIN.out], ⟨by have := HI.out; omega⟩, ⟨by rw [runP_next LV RB WV s i hi0, ← HA.out]; exact (stepP_01 hb1 ⟨hb2, HX3.out, hl1⟩).symm⟩, HB, HW, HO, HZ⟩
             · have hl1d : decide (wrap64 (i + 1) < (LV.length : Int)) = false := by rw [HIN.out]; exact decide_eq_false hl1
               go_wp2_with (first | ((with_reducible refine gate_callee (f := 92) rfl ?_); refine goesL_ _ rfl rfl Try.func92 (by kernel_rfl) rfl #[.pointer (some ⟨g0_, 0, none⟩), .int .i64 f, .int .i64 i] rfl gl ?_; refine (impl_prog_reached.calls g0_ (some adP) c0_0 P A0_1 c0_1 HT f i true _ (blk_below HP.out HB.out) (Kd.C_below H0.out HB.out) HC.out.1 (Kd.C_below H1.out HB.out) HC.out.2 HR.out).mono ?_; rintro e w9 ⟨rfl, hb⟩; refine ⟨_, rfl, ?_⟩; have n0_ := Aside0.mk (below_step HB.out hb); have n1_ := Aside0.mk (Kd.R_below HW.out hb); have n2_ := Aside0.mk (Kd.R_below HO.out hb); have n3_ := Aside0.mk (blk_below HZ.out hb); clear HB HW HO HZ hb; have HB := n0_; have HW := n1_; have HO := n2_; have HZ := n3_; clear n0_ n1_ n2_ n3_) | ((refine gate_guard (by rfl) ?_); (with_reducible refine gate_callee (f := 93) rfl ?_); refine goesL_ _ rfl rfl Try.func93 (by kernel_rfl) rfl #[.pointer (some ⟨g0_, 0, none⟩), .int .i64 f, .int .i64 i] rfl gl ?_; refine (impl_prog_writes.calls k g0_ (some adP) c0_0 P A0_1 c0_1 HT f i x _ (blk_below HP.out HB.out) (Kd.C_below H0.out HB.out) HC.out.1 (Kd.C_below H1.out HB.out) HC.out.2 HX.out).mono ?_; rintro e w9 ⟨rfl, hb⟩; refine ⟨_, rfl, ?_⟩; have n0_ := Aside0.mk (below_step HB.out hb); have n1_ := Aside0.mk (Kd.R_below HW.out hb); have n2_ := Aside0.mk (Kd.R_below HO.out hb); have n3_ := Aside0.mk (blk_below HZ.out hb); clear HB HW HO HZ hb; have HB := n0_; have HW := n1_; have HO := n2_; have HZ := n3_; clear n0_ n1_ n2_ n3_))
               go_roundg kk
               case measure => omega
               case rel => exact ⟨i + 1, ((a, b)).1, ((a, b)).2, by rw [HIN.out], ⟨by have := HI.out; omega⟩, ⟨by rw [runP_next LV RB WV s i hi0, ← HA.out]; exact (stepP_00 hb1 (fun h => absurd h.2.2 (by omega))).symm⟩, HB, HW, HO, HZ⟩
       · have hb1_ := hb1
         unfold bitB at hb1_
         rcases hb2 : RB i with _ | _
         · rw [hb2] at HR
           go_wp2_with (first | ((with_reducible refine gate_calleeT (q := .tmp 45) rfl ?_); refine goesC_ (q := .tmp 45) (cap := #[.pointer (some ⟨gb, 0, none⟩)]) (some 47) rfl rfl Try.func91 (by kernel_rfl) rfl rfl #[.int .i64 (i)] #[.int .i64 (i), .pointer (some ⟨gb, 0, none⟩)] rfl (by (try simp only [List.map_toArray, List.map_cons, List.map_nil]); first | done | rfl) (by simp only [List.append_toArray, List.cons_append, List.nil_append]) ?_; refine (grow_rel gb s a b (i) _ HZ.out).mono ?_; rintro e w9 ⟨rfl, hz, hk, hb⟩; refine ⟨_, rfl, ?_⟩; have n0_ := Aside0.mk (below_weaken HB.out HG.out (hb gb (Nat.le_refl _))); have n1_ := Aside0.mk (Kd.R_keep HW.out hk (fun _ h => h)); have n2_ := Aside0.mk (Kd.R_keep HO.out hk (fun _ h => h)); have n3_ := Aside0.mk hz; clear HB HW HO HZ hb hz hk; have HB := n0_; have HW := n1_; have HO := n2_; have HZ := n3_; clear n0_ n1_ n2_ n3_) | ((with_reducible refine gate_callee (f := 92) rfl ?_); refine goesL_ _ rfl rfl Try.func92 (by kernel_rfl) rfl #[.pointer (some ⟨g0_, 0, none⟩), .int .i64 f, .int .i64 i] rfl gl ?_; refine (impl_prog_reached.calls g0_ (some adP) c0_0 P A0_1 c0_1 HT f i false _ (blk_below HP.out HB.out) (Kd.C_below H0.out HB.out) HC.out.1 (Kd.C_below H1.out HB.out) HC.out.2 HR.out).mono ?_; rintro e w9 ⟨rfl, hb⟩; refine ⟨_, rfl, ?_⟩; have n0_ := Aside0.mk (below_step HB.out hb); have n1_ := Aside0.mk (Kd.R_below HW.out hb); have n2_ := Aside0.mk (Kd.R_below HO.out hb); have n3_ := Aside0.mk (blk_below HZ.out hb); clear HB HW HO HZ hb; have HB := n0_; have HW := n1_; have HO := n2_; have HZ := n3_; clear n0_ n1_ n2_ n3_))
           go_roundg kk
           case measure => omega
           case rel => exact ⟨i + 1, (growP (a, b) i).1, (growP (a, b) i).2, by rw [HIN.out], ⟨by have := HI.out; omega⟩, ⟨by rw [runP_next LV RB WV s i hi0, ← HA.out]; exact (stepP_10 hb1 (fun h => by rw [hb2] at h; exact absurd h.1 (by simp))).symm⟩, HB, HW, HO, HZ⟩
         · rw [hb2] at HR
           obtain ⟨x, hx2⟩ : ∃ x, x = WV i := ⟨_, rfl⟩
           have HX := Aside0.mk (HQ2.out hb2)
           rw [← hx2] at HX
           rcases hb3 : bitB x s with _ | _
           · have hb3_ := hb3
             unfold bitB at hb3_
             have HX3 := Aside0.mk (show bitB (WV i) s = false by rw [← hx2]; exact hb3)
             clear hx2
             go_wp2_with (first | ((with_reducible refine gate_calleeT (q := .tmp 45) rfl ?_); refine goesC_ (q := .tmp 45) (cap := #[.pointer (some ⟨gb, 0, none⟩)]) (some 47) rfl rfl Try.func91 (by kernel_rfl) rfl rfl #[.int .i64 (i)] #[.int .i64 (i), .pointer (some ⟨gb, 0, none⟩)] rfl (by (try simp only [List.map_toArray, List.map_cons, List.map_nil]); first | done | rfl) (by simp only [List.append_toArray, List.cons_append, List.nil_append]) ?_; refine (grow_rel gb s a b (i) _ HZ.out).mono ?_; rintro e w9 ⟨rfl, hz, hk, hb⟩; refine ⟨_, rfl, ?_⟩; have n0_ := Aside0.mk (below_weaken HB.out HG.out (hb gb (Nat.le_refl _))); have n1_ := Aside0.mk (Kd.R_keep HW.out hk (fun _ h => h)); have n2_ := Aside0.mk (Kd.R_keep HO.out hk (fun _ h => h)); have n3_ := Aside0.mk hz; clear HB HW HO HZ hb hz hk; have HB := n0_; have HW := n1_; have HO := n2_; have HZ := n3_; clear n0_ n1_ n2_ n3_) | ((with_reducible refine gate_callee (f := 92) rfl ?_); refine goesL_ _ rfl rfl Try.func92 (by kernel_rfl) rfl #[.pointer (some ⟨g0_, 0, none⟩), .int .i64 f, .int .i64 i] rfl gl ?_; refine (impl_prog_reached.calls g0_ (some adP) c0_0 P A0_1 c0_1 HT f i true _ (blk_below HP.out HB.out) (Kd.C_below H0.out HB.out) HC.out.1 (Kd.C_below H1.out HB.out) HC.out.2 HR.out).mono ?_; rintro e w9 ⟨rfl, hb⟩; refine ⟨_, rfl, ?_⟩; have n0_ := Aside0.mk (below_step HB.out hb); have n1_ := Aside0.mk (Kd.R_below HW.out hb); have n2_ := Aside0.mk (Kd.R_below HO.out hb); have n3_ := Aside0.mk (blk_below HZ.out hb); clear HB HW HO HZ hb; have HB := n0_; have HW := n1_; have HO := n2_; have HZ := n3_; clear n0_ n1_ n2_ n3_) | ((refine gate_guard (by rfl) ?_); (with_reducible refine gate_callee (f := 93) rfl ?_); refine goesL_ _ rfl rfl Try.func93 (by kernel_rfl) rfl #[.pointer (some ⟨g0_, 0, none⟩), .int .i64 f, .int .i64 i] rfl gl ?_; refine (impl_prog_writes.calls k g0_ (some adP) c0_0 P A0_1 c0_1 HT f i x _ (blk_below HP.out HB.out) (Kd.C_below H0.out HB.out) HC.out.1 (Kd.C_below H1.out HB.out) HC.out.2 HX.out).mono ?_; rintro e w9 ⟨rfl, hb⟩; refine ⟨_, rfl, ?_⟩; have n0_ := Aside0.mk (below_step HB.out hb); have n1_ := Aside0.mk (Kd.R_below HW.out hb); have n2_ := Aside0.mk (Kd.R_below HO.out hb); have n3_ := Aside0.mk (blk_below HZ.out hb); clear HB HW HO HZ hb; have HB := n0_; have HW := n1_; have HO := n2_; have HZ := n3_; clear n0_ n1_ n2_ n3_))
             have hb4 := HX3.out
             go_roundg kk
             case measure => omega
             case rel => exact ⟨i + 1, (growP (a, b) i).1, (growP (a, b) i).2, by rw [HIN.out], ⟨by have := HI.out; omega⟩, ⟨by rw [runP_next LV RB WV s i hi0, ← HA.out]; exact (stepP_10 hb1 (fun h => by rw [HX3.out] at h; exact absurd h.2.1 (by simp))).symm⟩, HB, HW, HO, HZ⟩
           · have hb3_ := hb3
             unfold bitB at hb3_
             have HX3 := Aside0.mk (show bitB (WV i) s = true by rw [← hx2]; exact hb3)
             clear hx2
             by_cases hl1 : i + 1 < (LV.length : Int)
             · have hl1d : decide (wrap64 (i + 1) < (LV.length : Int)) = true := by rw [HIN.out]; exact decide_eq_true hl1
               go_wp2_with (first | ((with_reducible refine gate_calleeT (q := .tmp 45) rfl ?_); refine goesC_ (q := .tmp 45) (cap := #[.pointer (some ⟨gb, 0, none⟩)]) (some 47) rfl rfl Try.func91 (by kernel_rfl) rfl rfl #[.int .i64 (i)] #[.int .i64 (i), .pointer (some ⟨gb, 0, none⟩)] rfl (by (try simp only [List.map_toArray, List.map_cons, List.map_nil]); first | done | rfl) (by simp only [List.append_toArray, List.cons_append, List.nil_append]) ?_; refine (grow_rel gb s a b (i) _ HZ.out).mono ?_; rintro e w9 ⟨rfl, hz, hk, hb⟩; refine ⟨_, rfl, ?_⟩; have n0_ := Aside0.mk (below_weaken HB.out HG.out (hb gb (Nat.le_refl _))); have n1_ := Aside0.mk (Kd.R_keep HW.out hk (fun _ h => h)); have n2_ := Aside0.mk (Kd.R_keep HO.out hk (fun _ h => h)); have n3_ := Aside0.mk hz; clear HB HW HO HZ hb hz hk; have HB := n0_; have HW := n1_; have HO := n2_; have HZ := n3_; clear n0_ n1_ n2_ n3_) | ((with_reducible refine gate_callee (f := 92) rfl ?_); refine goesL_ _ rfl rfl Try.func92 (by kernel_rfl) rfl #[.pointer (some ⟨g0_, 0, none⟩), .int .i64 f, .int .i64 i] rfl gl ?_; refine (impl_prog_reached.calls g0_ (some adP) c0_0 P A0_1 c0_1 HT f i true _ (blk_below HP.out HB.out) (Kd.C_below H0.out HB.out) HC.out.1 (Kd.C_below H1.out HB.out) HC.out.2 HR.out).mono ?_; rintro e w9 ⟨rfl, hb⟩; refine ⟨_, rfl, ?_⟩; have n0_ := Aside0.mk (below_step HB.out hb); have n1_ := Aside0.mk (Kd.R_below HW.out hb); have n2_ := Aside0.mk (Kd.R_below HO.out hb); have n3_ := Aside0.mk (blk_below HZ.out hb); clear HB HW HO HZ hb; have HB := n0_; have HW := n1_; have HO := n2_; have HZ := n3_; clear n0_ n1_ n2_ n3_) | ((refine gate_guard (by rfl) ?_); (with_reducible refine gate_callee (f := 93) rfl ?_); refine goesL_ _ rfl rfl Try.func93 (by kernel_rfl) rfl #[.pointer (some ⟨g0_, 0, none⟩), .int .i64 f, .int .i64 i] rfl gl ?_; refine (impl_prog_writes.calls k g0_ (some adP) c0_0 P A0_1 c0_1 HT f i x _ (blk_below HP.out HB.out) (Kd.C_below H0.out HB.out) HC.out.1 (Kd.C_below H1.out HB.out) HC.out.2 HX.out).mono ?_; rintro e w9 ⟨rfl, hb⟩; refine ⟨_, rfl, ?_⟩; have n0_ := Aside0.mk (below_step HB.out hb); have n1_ := Aside0.mk (Kd.R_below HW.out hb); have n2_ := Aside0.mk (Kd.R_below HO.out hb); have n3_ := Aside0.mk (blk_below HZ.out hb); clear HB HW HO HZ hb; have HB := n0_; have HW := n1_; have HO := n2_; have HZ := n3_; clear n0_ n1_ n2_ n3_) | ((with_reducible refine gate_calleeT (q := .tmp 69) rfl ?_); refine goesC_ (q := .tmp 69) (cap := #[.pointer (some ⟨gb, 0, none⟩)]) (some 72) rfl rfl Try.func91 (by kernel_rfl) rfl rfl #[.int .i64 (wrap64 (i + 1))] #[.int .i64 (wrap64 (i + 1)), .pointer (some ⟨gb, 0, none⟩)] rfl (by (try simp only [List.map_toArray, List.map_cons, List.map_nil]); first | done | rfl) (by simp only [List.append_toArray, List.cons_append, List.nil_append]) ?_; refine (grow_rel gb s (growP (a, b) i).1 (growP (a, b) i).2 (wrap64 (i + 1)) _ HZ.out).mono ?_; rintro e w9 ⟨rfl, hz, hk, hb⟩; refine ⟨_, rfl, ?_⟩; rw [HIN.out] at hz; have n0_ := Aside0.mk (below_weaken HB.out HG.out (hb gb (Nat.le_refl _))); have n1_ := Aside0.mk (Kd.R_keep HW.out hk (fun _ h => h)); have n2_ := Aside0.mk (Kd.R_keep HO.out hk (fun _ h => h)); have n3_ := Aside0.mk hz; clear HB HW HO HZ hb hz hk; have HB := n0_; have HW := n1_; have HO := n2_; have HZ := n3_; clear n0_ n1_ n2_ n3_))
               go_roundg kk
               case measure => omega
               case rel => exact ⟨i + 1, (growP (growP (a, b) i) (i + 1)).1, (growP (growP (a, b) i) (i + 1)).2, by rw [HIN.out], ⟨by have := HI.out; omega⟩, ⟨by rw [runP_next LV RB WV s i hi0, ← HA.out]; exact (stepP_11 hb1 ⟨hb2, HX3.out, hl1⟩).symm⟩, HB, HW, HO, HZ⟩
             · have hl1d : decide (wrap64 (i + 1) < (LV.length : Int)) = false := by rw [HIN.out]; exact decide_eq_false hl1
               go_wp2_with (first | ((with_reducible refine gate_calleeT (q := .tmp 45) rfl ?_); refine goesC_ (q := .tmp 45) (cap := #[.pointer (some ⟨gb, 0, none⟩)]) (some 47) rfl rfl Try.func91 (by kernel_rfl) rfl rfl #[.int .i64 (i)] #[.int .i64 (i), .pointer (some ⟨gb, 0, none⟩)] rfl (by (try simp only [List.map_toArray, List.map_cons, List.map_nil]); first | done | rfl) (by simp only [List.append_toArray, List.cons_append, List.nil_append]) ?_; refine (grow_rel gb s a b (i) _ HZ.out).mono ?_; rintro e w9 ⟨rfl, hz, hk, hb⟩; refine ⟨_, rfl, ?_⟩; have n0_ := Aside0.mk (below_weaken HB.out HG.out (hb gb (Nat.le_refl _))); have n1_ := Aside0.mk (Kd.R_keep HW.out hk (fun _ h => h)); have n2_ := Aside0.mk (Kd.R_keep HO.out hk (fun _ h => h)); have n3_ := Aside0.mk hz; clear HB HW HO HZ hb hz hk; have HB := n0_; have HW := n1_; have HO := n2_; have HZ := n3_; clear n0_ n1_ n2_ n3_) | ((with_reducible refine gate_callee (f := 92) rfl ?_); refine goesL_ _ rfl rfl Try.func92 (by kernel_rfl) rfl #[.pointer (some ⟨g0_, 0, none⟩), .int .i64 f, .int .i64 i] rfl gl ?_; refine (impl_prog_reached.calls g0_ (some adP) c0_0 P A0_1 c0_1 HT f i true _ (blk_below HP.out HB.out) (Kd.C_below H0.out HB.out) HC.out.1 (Kd.C_below H1.out HB.out) HC.out.2 HR.out).mono ?_; rintro e w9 ⟨rfl, hb⟩; refine ⟨_, rfl, ?_⟩; have n0_ := Aside0.mk (below_step HB.out hb); have n1_ := Aside0.mk (Kd.R_below HW.out hb); have n2_ := Aside0.mk (Kd.R_below HO.out hb); have n3_ := Aside0.mk (blk_below HZ.out hb); clear HB HW HO HZ hb; have HB := n0_; have HW := n1_; have HO := n2_; have HZ := n3_; clear n0_ n1_ n2_ n3_) | ((refine gate_guard (by rfl) ?_); (with_reducible refine gate_callee (f := 93) rfl ?_); refine goesL_ _ rfl rfl Try.func93 (by kernel_rfl) rfl #[.pointer (some ⟨g0_, 0, none⟩), .int .i64 f, .int .i64 i] rfl gl ?_; refine (impl_prog_writes.calls k g0_ (some adP) c0_0 P A0_1 c0_1 HT f i x _ (blk_below HP.out HB.out) (Kd.C_below H0.out HB.out) HC.out.1 (Kd.C_below H1.out HB.out) HC.out.2 HX.out).mono ?_; rintro e w9 ⟨rfl, hb⟩; refine ⟨_, rfl, ?_⟩; have n0_ := Aside0.mk (below_step HB.out hb); have n1_ := Aside0.mk (Kd.R_below HW.out hb); have n2_ := Aside0.mk (Kd.R_below HO.out hb); have n3_ := Aside0.mk (blk_below HZ.out hb); clear HB HW HO HZ hb; have HB := n0_; have HW := n1_; have HO := n2_; have HZ := n3_; clear n0_ n1_ n2_ n3_))
               go_roundg kk
               case measure => omega
               case rel => exact ⟨i + 1, (growP (a, b) i).1, (growP (a, b) i).2, by rw [HIN.out], ⟨by have := HI.out; omega⟩, ⟨by rw [runP_next LV RB WV s i hi0, ← HA.out]; exact (stepP_10 hb1 (fun h => absurd h.2.2 (by omega))).symm⟩, HB, HW, HO, HZ⟩
     · have hid : decide (i < (LV.length : Int)) = false := decide_eq_false hi
       have hii : i = (LV.length : Int) := by have := HI.out; omega
       subst hii
       have hs0 := HS.out.1
       have hsw : wrap64 (s + 1) = s + 1 := by have := HK.out; have := HLM.out; exact wrap_in (by omega) (by omega)
       have HSW := Aside0.mk hsw
       have hz0 : wr.cell? ⟨gb, 0, none⟩ = some (.int .i64 s) := (blk_cell HZ.out 0).trans rfl
       have hz1 : wr.cell? ⟨gb, 1, none⟩ = some (.int .i64 a) := (blk_cell HZ.out 1).trans rfl
       have hz2 : wr.cell? ⟨gb, 2, none⟩ = some (.int .i64 b) := (blk_cell HZ.out 2).trans rfl
       clear hsw hs0
       by_cases ha : 0 ≤ a
       · have had : decide (a ≥ 0) = true := decide_eq_true ha
         go_wp2_with (first | ((with_reducible refine gate_builtin (b := .append) (xs := #[.tmp 77, .tmp 79]) rfl ?_); at_builtin; refine Kd.R_append k54 (w0 := w) w.heap.size rfl (.tmp 77) (.tmp 79) 50 54 _ 24 rfl Try.underlying50 info54_ rfl (by decide) (by omega) u6 rs ⟨s, a, b⟩ [.int .i64 s, .int .i64 a, .int .i64 b] (fun k => k ≠ gb) (fun _ => False) rfl rfl (k54_mkM _ _ _ _) (fun _ hk => hk.elim) (fun k hk => by have := blk_lt HZ.out; omega) HO.out HB.out (below_size HB.out) (by have := HRS.out.2; have := HK.out; have := HLM.out; omega) ?_; intro v1 w9 ho hb hg hat; have n1_ := Aside0.mk (Kd.R_mono (ok' := fun _ => True) (Kd.R_over' HW.out (Kd.R_typed HO.out) (by decide) hg) (fun _ _ => trivial)); have n2_ := Aside0.mk (Kd.R_mono (ok' := fun _ => True) ho (fun _ _ => trivial)); have n3_ := Aside0.mk hb; clear HB HW HO HZ ho hb hg hat; have HB := n3_; have HW := n1_; have HO := n2_; clear n1_ n2_ n3_))
         go_roundg ko
         case measure => omega
         case rel => exact ⟨s + 1, v1, rs ++ [⟨s, a, b⟩], rfl, by rw [HSW.out], ⟨by have := HK.out; have := HS.out; omega⟩, ⟨by rw [rngP_pos HS.out.1 HA.out ha, HRS.out.1], by have := HRS.out.2; simp; omega⟩, HB, HW, HO⟩
       · have had : decide (a ≥ 0) = false := decide_eq_false ha
         go_wp2
         go_roundg ko
         case measure => omega
         case rel => exact ⟨s + 1, u6, rs, rfl, by rw [HSW.out], ⟨by have := HK.out; have := HS.out; omega⟩, ⟨by rw [rngP_neg HS.out.1 HA.out (by omega)]; exact HRS.out.1, by have := HRS.out.2; omega⟩, HB, ⟨Kd.R_mono HW.out (fun _ _ => trivial)⟩, ⟨Kd.R_mono HO.out (fun _ _ => trivial)⟩⟩
  · have hsd : decide (s < M) = false := decide_eq_false hs
    have hsM : s = M := by have := HK.out; omega
    go_wp2
    go_ret
    exact ⟨u6, rfl, by have := HRS.out.1; rw [this, hsM, HLM.out.2] at HO; rw [HLe.out]; exact HO.out, HB.out⟩
end
/-- What the program's ranges of a function are. -/
def RgH (Q : List S35) (HT : List (List Int)) (k : Nat) (f : Int) (LV : List Int) (RB : Int → Bool) (WV : Int → Int) : Prop :=
 (0 ≤ f ∧ f < (Q.length : Int)) ∧ impl_prog_live.f k Q HT f = some LV ∧ LV.length ≤ 1048577 ∧ (0 ≤ (rd_T35 Q f).f1 ∧ (rd_T35 Q f).f1 ≤ 100) ∧
 ∀ a : Int, 0 ≤ a → a < (LV.length : Int) → impl_prog_reached.f Q HT f a = some (RB a) ∧ (RB a = true → impl_prog_writes.f k Q HT f a = some (WV a))
set_option maxHeartbeats 8000000 in
set_option maxRecDepth 100000 in
theorem Ranges_rel {w : World} {A0 : Option Addr} {c0 : Nat} {P Q : List S35} {HT : List (List Int)} {ok : Bool} (k : Nat) (f : Int) (LV : List Int) (RB : Int → Bool) (WV : Int → Int) (hr : Kd.C k35 w A0 P.length P) (hc : P.length ≤ c0) (hk : impl_knownFunc.f k P f = some (Q, HT, ok)) (hq : ok = true → RgH Q HT k f LV RB WV) :
  Calls Try.prog 26 #[.agg #[.slice A0 P.length c0], .int .i64 f] w fun e w' => ∃ v : Value, e = .returned v ∧ Kd.R k54 54 w' w.heap.size (fun _ => True) v (if ok = true then rngP LV RB WV ((rd_T35 Q f).f1 + 8).toNat else []) ∧ Below w.heap.size w w' := by
 have HR := Aside0.mk hr
 have HC := Aside0.mk hc
 have HK := Aside0.mk hk
 have HQ := Aside0.mk hq
 clear hr hc hk hq
 have hz0 : (w.alloc (.cells #[.slice A0 P.length c0] 25)).cell? ⟨w.heap.size, 0, none⟩ = some (.slice A0 P.length c0) := (blk_cell (heap_alloc_new w (.cells #[.slice A0 P.length c0] 25)) 0).trans rfl
 cases ok with
 | false =>
  go_enter Try.func26, Try.ntmps26
  go_wp2_with (first | ((with_reducible refine gate_callee (f := 35) rfl ?_); refine goesL_ (some 10) rfl rfl Try.func35 (by kernel_rfl) rfl #[.agg #[.slice A0 P.length c0], .int .i64 f] rfl gl ?_; refine (impl_knownFunc.calls k (fun k_ => k_ < w.heap.size) _ _ P f Q HT false _ (Kd.V_mk HC.out (Kd.F_below (Kd.C_F k35_heap HR.out) (below_alloc (Below.refl _ _) _))) HK.out).mono ?_; rintro e w7 ⟨v1, v2, g1, rfl, ho0, ho1, hbx, hgx, hb⟩; refine ⟨_, rfl, ?_⟩; have HB := Aside0.mk (below_step (below_alloc (Below.refl w.heap.size w) (.cells #[.slice A0 P.length c0] 25)) hb); obtain ⟨A1, c1, e1⟩ := Kd.V_slice ho0; obtain ⟨A2, c2, e2⟩ := Kd.S_slice ho1; subst e1; subst e2; have HX := Aside0.mk hbx; have H0 := Aside0.mk (Kd.V_reads' ho0).2; have H1 := Aside0.mk (Kd.R_reads' (Kd.S_R ho1)).2; clear hb ho0 ho1 hbx hgx))
  go_ret
  exact ⟨_, rfl, Kd.R_nil _ _ _ _ _, HB.out⟩
 | true =>
  have HG := Aside0.mk (HQ.out rfl)
  clear HQ
  go_enter Try.func26, Try.ntmps26
  go_wp2_with (first | ((with_reducible refine gate_callee (f := 35) rfl ?_); refine goesL_ (some 10) rfl rfl Try.func35 (by kernel_rfl) rfl #[.agg #[.slice A0 P.length c0], .int .i64 f] rfl gl ?_; refine (impl_knownFunc.calls k (fun k_ => k_ < w.heap.size) _ _ P f Q HT true _ (Kd.V_mk HC.out (Kd.F_below (Kd.C_F k35_heap HR.out) (below_alloc (Below.refl _ _) _))) HK.out).mono ?_; rintro e w7 ⟨v1, v2, g1, rfl, ho0, ho1, hbx, hgx, hb⟩; refine ⟨_, rfl, ?_⟩; have HB := Aside0.mk (below_step (below_alloc (Below.refl w.heap.size w) (.cells #[.slice A0 P.length c0] 25)) hb); obtain ⟨A1, c1, e1⟩ := Kd.V_slice ho0; obtain ⟨A2, c2, e2⟩ := Kd.S_slice ho1; subst e1; subst e2; have HX := Aside0.mk hbx; have H0 := Aside0.mk (Kd.V_reads' ho0).2; have H1 := Aside0.mk (Kd.R_reads' (Kd.S_R ho1)).2; clear hb ho0 ho1 hbx hgx) | ((with_reducible refine gate_callee (f := 65) rfl ?_); refine goesL_ (some 17) rfl rfl Try.func65 (by kernel_rfl) rfl #[.pointer (some ⟨g1, 0, none⟩), .int .i64 f] rfl gl ?_; refine (ranges_rel k f LV RB WV _ HX.out H0.out.2 H0.out.1 H1.out.2 H1.out.1 HG.out.1.1 HG.out.1.2 HG.out.2.1 HG.out.2.2.1 HG.out.2.2.2.1 HG.out.2.2.2.2).mono ?_; rintro e w9 ⟨v9, rfl, hv, hb⟩; refine ⟨_, rfl, ?_⟩; have n0_ := Aside0.mk (below_step HB.out hb); have HV := Aside0.mk (Kd.R_lower hv (below_size HB.out)); clear HB hb hv; have HB := n0_; clear n0_))
  go_ret
  exact ⟨_, rfl, HV.out, HB.out⟩
def hitP (rs : List S54) (kk at_ j : Int) : Bool := (rd_T54 rs j).f0 == kk && (decide ((rd_T54 rs j).f1 ≤ at_) && decide (at_ ≤ (rd_T54 rs j).f2))
def inP (rs : List S54) (kk at_ : Int) : Nat → Bool
 | 0 => false
 | j + 1 => inP rs kk at_ j || hitP rs kk at_ j
theorem inP_next (rs : List S54) (kk at_ j : Int) (h : 0 ≤ j) : inP rs kk at_ (j + 1).toNat = (inP rs kk at_ j.toNat || hitP rs kk at_ j) := by
 rw [show (j + 1).toNat = j.toNat + 1 by omega, inP, show ((j.toNat : Nat) : Int) = j by omega]
/-- What the law asks of a drawn program. -/
def LawR (P : List S35) (f : Int) (k : Nat) (LV : List Int) (Q : List S35) (HT : List (List Int)) (ok : Bool) (LI : List Int) (RB : Int → Bool) (WV : Int → Int) (rs m : List S54) : Prop :=
 (spec_Live.f k P f = some LV ∧ impl_knownFunc.f k P f = some (Q, HT, ok) ∧ (ok = true → RgH Q HT k f LI RB WV) ∧ spec_Ranges.f k P f = some m ∧ rs = (if ok = true then rngP LI RB WV ((rd_T35 Q f).f1 + 8).toNat else [])) ∧
 rs.length = m.length ∧ LV.length ≤ 1048577 ∧ rs.length ≤ 200 ∧
 ∀ a kk : Int, 0 ≤ a → a < (LV.length : Int) → 0 ≤ kk → kk < 16 → bits BinOp.and IntKind.i64 (rd LV a / 2 ^ min kk.toNat 64) 1 ≠ 0 → inP rs kk a rs.length = true
set_option maxHeartbeats 8000000 in
set_option maxRecDepth 100000 in
theorem law_rel {A0 : Option Addr} {c0 : Nat} {l0 : List Int} {w : World} (hr0 : Kd.C (Kd.int .u8) w A0 l0.length l0) (hc0 : l0.length ≤ c0) (hL : ∀ P f, GoodP P → in64 f → ∃ (k : Nat) (LV : List Int) (Q : List S35) (HT : List (List Int)) (ok : Bool) (LI : List Int) (RB : Int → Bool) (WV : Int → Int) (rs m : List S54), LawR P f k LV Q HT ok LI RB WV rs m) :
  Calls Try.prog 6 #[.slice A0 l0.length c0] w fun e w' => e = .returned (.bool true) ∧ Below w.heap.size w w' := by
 have HR := Aside0.mk hr0
 have HC := Aside0.mk hc0
 have HQ := Aside0.mk hL
 clear hr0 hc0 hL
 go_enter Try.func6, Try.ntmps6
 by_cases hlen : (1048576 : Int) < (l0.length : Int)
 · have hld : decide ((1048576 : Int) < (l0.length : Int)) = true := decide_eq_true hlen
   go_wp2
   go_ret
   exact ⟨rfl, Below.refl _ _⟩
 have hld : decide ((1048576 : Int) < (l0.length : Int)) = false := decide_eq_false hlen
 have HN := Aside0.mk (show l0.length ≤ 1048576 by omega)
 clear hlen
 go_wp2_with (first | ((with_reducible refine gate_callee (f := 24) rfl ?_); refine goesL_ _ rfl rfl Try.func24 (by kernel_rfl) rfl #[.slice A0 l0.length c0] rfl gl ?_; refine (draw_rel HR.out HC.out HN.out).mono ?_; rintro e w5 ⟨u, P, f, rfl, hf, hu, hP, hb⟩; refine ⟨_, rfl, ?_⟩; obtain ⟨Au, cu, eu⟩ := Kd.R_slice hu; subst eu; obtain ⟨k, LV, Q, HT, ok, LI, RB, WV, rs, m, hH⟩ := HQ.out P f hP hf; have HH := Aside0.mk hH; have HU := Aside0.mk (Kd.R_alloc hu (.cells #[.slice Au P.length cu] 25)); have HB := Aside0.mk (below_alloc hb (.cells #[.slice Au P.length cu] 25)); have HZ := Aside0.mk (heap_alloc_new w5 (.cells #[.slice Au P.length cu] 25)); have hz := (blk_cell HZ.out 0).trans rfl; clear HR HC HQ HN hf hu hP hb hH) | ((with_reducible refine gate_callee (f := 25) rfl ?_); refine goesL_ _ rfl rfl Try.func25 (by kernel_rfl) rfl #[.agg #[.slice Au P.length cu], .int .i64 f] rfl gl ?_; refine (spec_Live.calls k Au cu P f LV _ (Kd.R_reads' HU.out).2.2 (Kd.R_reads' HU.out).2.1 HH.out.1.1).mono ?_; rintro e w6 ⟨v6, rfl, hv, hb⟩; refine ⟨_, rfl, ?_⟩; have HV := Aside0.mk (Kd.R_lower hv (below_size HB.out)); obtain ⟨Av, cv, ev⟩ := Kd.R_slice hv; subst ev; have n0_ := Aside0.mk (below_step HB.out hb); have n1_ := Aside0.mk (blk_below HZ.out hb); have n2_ := Aside0.mk (Kd.R_below HU.out hb); clear HB HZ HU hb hv hz; have HB := n0_; have HZ := n1_; have HU := n2_; clear n0_ n1_ n2_; have hz := (blk_cell HZ.out 0).trans rfl) | ((with_reducible refine gate_callee (f := 26) rfl ?_); refine goesL_ _ rfl rfl Try.func26 (by kernel_rfl) rfl #[.agg #[.slice Au P.length cu], .int .i64 f] rfl gl ?_; refine (Ranges_rel k f LI RB WV (Kd.R_reads' HU.out).2.2 (Kd.R_reads' HU.out).2.1 HH.out.1.2.1 HH.out.1.2.2.1).mono ?_; rintro e w7 ⟨v7, rfl, hv, hb⟩; refine ⟨_, rfl, ?_⟩; rw [← HH.out.1.2.2.2.2] at hv; have HS := Aside0.mk (Kd.R_lower hv (below_size HB.out)); obtain ⟨As, cs, es⟩ := Kd.R_slice hv; subst es; have n0_ := Aside0.mk (below_step HB.out hb); have n1_ := Aside0.mk (blk_below HZ.out hb); have n2_ := Aside0.mk (Kd.R_below HU.out hb); have n3_ := Aside0.mk (Kd.R_below HV.out hb); clear HB HZ HU HV hb hv hz; have HB := n0_; have HZ := n1_; have HU := n2_; have HV := n3_; clear n0_ n1_ n2_ n3_; have hz := (blk_cell HZ.out 0).trans rfl) | ((with_reducible refine gate_callee (f := 27) rfl ?_); refine goesL_ _ rfl rfl Try.func27 (by kernel_rfl) rfl #[.agg #[.slice Au P.length cu], .int .i64 f] rfl gl ?_; refine (spec_Ranges.calls k Au cu P f m _ (Kd.R_reads' HU.out).2.2 (Kd.R_reads' HU.out).2.1 HH.out.1.2.2.2.1).mono ?_; rintro e w8 ⟨v8, rfl, hv, hb⟩; refine ⟨_, rfl, ?_⟩; obtain ⟨Am, cm, em⟩ := Kd.R_slice hv; subst em; have n0_ := Aside0.mk (below_step HB.out hb); have n3_ := Aside0.mk (Kd.R_below HV.out hb); have n4_ := Aside0.mk (Kd.R_below HS.out hb); clear HB HZ HU HV HS hb hv hz; have HB := n0_; have HV := n3_; have HS := n4_; clear n0_ n3_ n4_; have hlm : (((rs.length : Nat) : Int) != ((m.length : Nat) : Int)) = false := bne_eq_false_iff_eq.mpr (by rw [HH.out.2.1])))
 have HLL := Aside0.mk HH.out.2.2.1
 have HRL := Aside0.mk HH.out.2.2.2.1
 have HY := Aside0.mk HH.out.2.2.2.2
 clear HH hlm
 go_loopg [7] LV.length (fun kq v7 w' => ∃ a : Int, v7 = .int .i64 a ∧ Aside0 (0 ≤ a ∧ a ≤ (LV.length : Int) ∧ (LV.length : Int) ≤ a + kq) ∧ Aside0 (Below w.heap.size w w') ∧ Aside0 (Kd.R (Kd.int .i64) 2 w' w.heap.size (fun _ => True) (.slice Av LV.length cv) LV) ∧ Aside0 (Kd.R k54 54 w' w.heap.size (fun _ => True) (.slice As rs.length cs) rs))
 case atStart => exact ⟨0, rfl, ⟨by omega⟩, HB, HV, HS⟩
 case round =>
  clear HB HV HS
  obtain ⟨a, rfl, HA, HB, HV, HS⟩ := hrel
  by_cases ha : a < (LV.length : Int)
  · have had : decide (a < (LV.length : Int)) = true := decide_eq_true ha
    obtain ⟨ka, hka⟩ : ∃ ka, gk = ka + 1 := ⟨gk - 1, by have := HA.out; omega⟩
    subst hka
    have ha0 := HA.out.1
    have HAD := Aside0.mk (And.intro ha0 ha)
    have haw : wrap64 (a + 1) = a + 1 := by have := HLL.out; exact wrap_in (by omega) (by omega)
    have HAW := Aside0.mk haw
    obtain ⟨ad, ea, hx⟩ := Kd.at_int (Kd.R_reads' HV.out).2.2 a ha0 ha
    subst ea
    clear ha ha0 haw hx
    go_wp2
    go_loopg [8] 16 (fun kq v8 w' => ∃ kk : Int, v8 = .int .i64 kk ∧ Aside0 (0 ≤ kk ∧ kk ≤ 16 ∧ 16 ≤ kk + kq) ∧ Aside0 (Below w.heap.size w w') ∧ Aside0 (Kd.R (Kd.int .i64) 2 w' w.heap.size (fun _ => True) (.slice (some ad) LV.length cv) LV) ∧ Aside0 (Kd.R k54 54 w' w.heap.size (fun _ => True) (.slice As rs.length cs) rs))
    case atStart => exact ⟨0, rfl, ⟨by omega⟩, HB, HV, HS⟩
    case round =>
     clear HB HV HS
     obtain ⟨kk, rfl, HK, HB, HV, HS⟩ := hrel
     by_cases hk : kk < 16
     · have hkd : decide (kk < 16) = true := decide_eq_true hk
       obtain ⟨kb, hkb⟩ : ∃ kb, gk = kb + 1 := ⟨gk - 1, by have := HK.out; omega⟩
       subst hkb
       have hk0 := HK.out.1
       obtain ⟨ad', ea, hx⟩ := Kd.at_int (Kd.R_reads' HV.out).2.2 a HAD.out.1 HAD.out.2
       injection ea with ea
       subst ea
       have p0 := eq_true HAD.out.1
       have p1 := eq_true HAD.out.2
       have p2 := eq_true hk0
       have hkw : wrap64 (kk + 1) = kk + 1 := wrap_in (by omega) (by omega)
       have HKW := Aside0.mk hkw
       have HKD := Aside0.mk (And.intro hk0 hk)
       clear hkw hk0 hk
       have hu : IntKind.u64.wrap kk = kk := by have := HKD.out; show kk % 18446744073709551616 = kk; omega
       have HU2 := Aside0.mk hu
       clear hu
       by_cases hb0 : (bits BinOp.and IntKind.i64 (rd LV a / 2 ^ min (IntKind.u64.wrap kk).toNat 64) 1 == 0) = true
       · go_wp2
         go_roundg kb
         case measure => omega
         case rel => exact ⟨kk + 1, by rw [HKW.out], ⟨by have := HK.out; have := HKD.out; omega⟩, HB, HV, HS⟩
       have hb0f := Bool.eq_false_iff.mpr hb0
       have HYY := Aside0.mk (HY.out a kk HAD.out.1 HAD.out.2 HKD.out.1 HKD.out.2 (by rw [HU2.out] at hb0f; exact fun e => by rw [e] at hb0f; simp at hb0f))
       clear hb0
       go_wp2
       clear hb0f hx
       go_loopg [9, 10] rs.length (fun kq v9 v10 w' => ∃ (b : Bool) (i : Int), v9 = .bool b ∧ v10 = .int .i64 i ∧ Aside0 (0 ≤ i ∧ i ≤ (rs.length : Int) ∧ (rs.length : Int) ≤ i + kq) ∧ Aside0 (b = inP rs kk a i.toNat) ∧ Aside0 (Below w.heap.size w w') ∧ Aside0 (Kd.R (Kd.int .i64) 2 w' w.heap.size (fun _ => True) (.slice (some ad) LV.length cv) LV) ∧ Aside0 (Kd.R k54 54 w' w.heap.size (fun _ => True) (.slice As rs.length cs) rs))
       case atStart => exact ⟨false, 0, rfl, rfl, ⟨by omega⟩, ⟨rfl⟩, HB, HV, HS⟩
       case round =>
        clear HB HV HS
        obtain ⟨b, i, rfl, rfl, HI, HBI, HB, HV, HS⟩ := hrel
        by_cases hi : i < (rs.length : Int)
        · have hid : decide (i < (rs.length : Int)) = true := decide_eq_true hi
          obtain ⟨kc, hkc⟩ : ∃ kc, gk = kc + 1 := ⟨gk - 1, by have := HI.out; omega⟩
          subst hkc
          have hi0 := HI.out.1
          obtain ⟨ad3, ea, hx0, hx1, hx2⟩ := at_T54 (Kd.R_reads' HS.out).2.2 i hi0 hi
          subst ea
          have p3 := eq_true hi0
          have p4 := eq_true hi
          have HID := Aside0.mk (And.intro hi0 hi)
          have hiw : wrap64 (i + 1) = i + 1 := by have := HRL.out; exact wrap_in (by omega) (by omega)
          have HIW := Aside0.mk hiw
          clear hiw hi0 hi
          rcases hbb : b with _ | _
          · subst hbb
            rcases h0 : ((rd_T54 rs i).f0 == kk) with _ | _
            · go_wp2
              go_roundg kc
              case measure => omega
              case rel => exact ⟨false, i + 1, rfl, by rw [HIW.out], ⟨by have := HI.out; have := HID.out; omega⟩, ⟨by rw [inP_next _ _ _ _ HID.out.1, ← HBI.out, hitP, h0]; rfl⟩, HB, HV, HS⟩
            rcases h1 : decide ((rd_T54 rs i).f1 ≤ a) with _ | _
            · go_wp2
              go_roundg kc
              case measure => omega
              case rel => exact ⟨false, i + 1, rfl, by rw [HIW.out], ⟨by have := HI.out; have := HID.out; omega⟩, ⟨by rw [inP_next _ _ _ _ HID.out.1, ← HBI.out, hitP, h0, h1]; rfl⟩, HB, HV, HS⟩
            rcases h2 : decide (a ≤ (rd_T54 rs i).f2) with _ | _
            · go_wp2
              go_roundg kc
              case measure => omega
              case rel => exact ⟨false, i + 1, rfl, by rw [HIW.out], ⟨by have := HI.out; have := HID.out; omega⟩, ⟨by rw [inP_next _ _ _ _ HID.out.1, ← HBI.out, hitP, h0, h1, h2]; rfl⟩, HB, HV, HS⟩
            · go_wp2
              go_roundg kc
              case measure => omega
              case rel => exact ⟨true, i + 1, rfl, by rw [HIW.out], ⟨by have := HI.out; have := HID.out; omega⟩, ⟨by rw [inP_next _ _ _ _ HID.out.1, ← HBI.out, hitP, h0, h1, h2]; rfl⟩, HB, HV, HS⟩
          · subst hbb
            go_wp2
            go_roundg kc
            case measure => omega
            case rel => exact ⟨true, i + 1, rfl, by rw [HIW.out], ⟨by have := HI.out; have := HID.out; omega⟩, ⟨by rw [inP_next _ _ _ _ HID.out.1, ← HBI.out]; rfl⟩, HB, HV, HS⟩
        · have hid : decide (i < (rs.length : Int)) = false := decide_eq_false hi
          have hii : i = (rs.length : Int) := by have := HI.out; omega
          subst hii
          have hbt : b = true := by rw [HBI.out]; exact HYY.out
          subst hbt
          go_wp2
          go_roundg kb
          case measure => omega
          case rel => exact ⟨kk + 1, by rw [HKW.out], ⟨by have := HK.out; have := HKD.out; omega⟩, HB, HV, HS⟩
     · have hkd : decide (kk < 16) = false := decide_eq_false hk
       go_wp2
       go_roundg ka
       case measure => omega
       case rel => exact ⟨a + 1, by rw [HAW.out], ⟨by have := HA.out; have := HAD.out; omega⟩, HB, HV, HS⟩
  · have had : decide (a < (LV.length : Int)) = false := decide_eq_false ha
    go_wp2
    go_ret
    exact ⟨rfl, HB.out⟩
end Go.Proofs.Ytopaefhfjioecaa.QFnRanges
