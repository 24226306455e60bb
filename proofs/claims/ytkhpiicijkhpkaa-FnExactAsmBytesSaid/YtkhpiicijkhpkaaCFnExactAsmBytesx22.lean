import Derived.Test.YtkhpiicijkhpkaaCFnExactAsmBytesx0
import Derived.Test.YtkhpiicijkhpkaaCFnExactAsmBytesx18
import Derived.Test.YtkhpiicijkhpkaaCFnExactAsmBytesx21
namespace Go.Proofs.Ytkhpiicijkhpkaa.QFnExactAsmBytes
open Go.RowKit Go.Proofs.YtkhpiicijkhpkaaW
open PrintWords PrintLast PrintMore PrintShort PrintIsh
attribute [local go_sem] max2_int min2_int max_two min_two max_three min_three max_four min_four
set_option linter.unusedVariables false
set_option maxHeartbeats 8000000
set_option maxRecDepth 100000
set_option linter.unusedSimpArgs false

def impl_AsmRight.f (k : Nat) (l0_0 : List (S121)) (a1_0 : Int) (l1_1 : List (S80)) (l1_2 : List (List (S82))) : Option (Bool) := (impl_known.f k l0_0).bind fun bt605 => (if bt605.2.2 = true then ((impl_prog_asmRight.f k bt605.1 bt605.2.1 a1_0 l1_1 l1_2).bind fun t613 => (some t613)) else (some false))
theorem impl_AsmRight.calls (k : Nat) (A0_0 : Option Addr) (c0_0 : Nat) (l0_0 : List (S121)) (a1_0 : Int) (A1_1 : Option Addr) (c1_1 : Nat) (l1_1 : List (S80)) (A1_2 : Option Addr) (c1_2 : Nat) (l1_2 : List (List (S82))) (r : Bool) (w : World) (hr0_0 : Kd.C k121 w A0_0 l0_0.length l0_0) (hc0_0 : l0_0.length ≤ c0_0) (hr1_1 : Kd.C k80 w A1_1 l1_1.length l1_1) (hc1_1 : l1_1.length ≤ c1_1) (hr1_2 : Kd.C (Kd.slice 82 k82) w A1_2 l1_2.length l1_2) (hc1_2 : l1_2.length ≤ c1_2) (h : impl_AsmRight.f k l0_0 a1_0 l1_1 l1_2 = some r) :
  Calls Try.prog 48 #[.agg #[.slice A0_0 l0_0.length c0_0], .agg #[.int .i64 a1_0, .slice A1_1 l1_1.length c1_1, .slice A1_2 l1_2.length c1_2]] w fun e w' => e = .returned (.bool r) ∧ Below w.heap.size w w' := by
 have hu32 := Try.underlying32
 have hu49 := Try.underlying49
 have HR0_0 := am hr0_0
 have HC0_0 := am hc0_0
 clear hr0_0 hc0_0
 have HR1_1 := am hr1_1
 have HC1_1 := am hc1_1
 clear hr1_1 hc1_1
 have HR1_2 := am hr1_2
 have HC1_2 := am hc1_2
 clear hr1_2 hc1_2
 have HB := am (Below.refl w.heap.size w)
 have H : ((impl_known.f k l0_0).bind fun bt605 => (if bt605.2.2 = true then ((impl_prog_asmRight.f k bt605.1 bt605.2.1 a1_0 l1_1 l1_2).bind fun t613 => (some t613)) else (some false))) = some r := h
 clear h
 replace H := Option.bind_eq_some_iff.mp H
 obtain ⟨⟨t605, t608, t612⟩, A30, H⟩ := H
 replace H : (if t612 = true then ((impl_prog_asmRight.f k t605 t608 a1_0 l1_1 l1_2).bind fun t613 => (some t613)) else (some false)) = some r := H
 have A3 := am A30
 clear A30
 refine qT H ?_ ?_ <;> clear H <;> intro c4 H <;> subst c4
 ·refine be H ?_; clear H; intro t613 A5 H
  obtain rfl := oi H
  go_enter Try.func48, Try.ntmps48
  go_wp2_with (first | ((with_reducible refine gd 2 rfl ?_); refine bX 2 #[.slice A0_0 l0_0.length c0_0] 32 HB ?_; clear HB; intro gb603 w6 hg hb BK603 GW603 HB; clear hb hg) | ((with_reducible refine gd 3 rfl ?_); refine bX 3 #[.int .i64 a1_0, .slice A1_1 l1_1.length c1_1, .slice A1_2 l1_2.length c1_2] 49 HB ?_; clear HB; intro gb604 w7 hg hb BK604 GW604 HB; obtain ⟨NB603_604, NB604_603, BK603⟩ := b3 hg BK603 hb; clear hb hg; have hnb8 := NB603_604.out; have hnc8 := NB604_603.out; have hcz9 := bK w7 BK603; have hfz9 := bF BK603) | ((with_reducible refine gk 55 rfl ?_); refine gC 55 (some 9) Try.func55 #[.agg #[.slice A0_0 l0_0.length c0_0]] ((impl_known.calls k (fun k_ => k_ < w.heap.size) _ _ l0_0 t605 t608 true _ (Kd.V_mk HC0_0.out (Kd.F_below (Kd.C_F k121_heap HR0_0.out) (bw HB))) A3.out).mono ?_); rintro e w10 ⟨v606, v609, gb611, rfl, ho0, ho1, hbx, hgx, hb⟩; refine ⟨_, rfl, ?_⟩; have HO607 := am (Kd.V_lower (Kd.V_mono (ok' := fun k_ => some k_ ≠ (v609 : Value).ownBlock ∧ k_ ≠ gb603 ∧ k_ ≠ gb604) ho0 (fun k_ hk_ => ⟨hk_.2, Or.elim hk_.1 (fun hs_ => fun e_ => Nat.not_le.2 hs_ (by rw [e_]; exact GW603.out)) (fun hn_ => (Kd.freshB (g := gb603) (o := .cells #[.slice A0_0 l0_0.length c0_0] 32 (0, 0)) (bp BK603) k_ hn_)), Or.elim hk_.1 (fun hs_ => fun e_ => Nat.not_le.2 hs_ (by rw [e_]; exact GW604.out)) (fun hn_ => (Kd.freshB (g := gb604) (o := .cells #[.int .i64 a1_0, .slice A1_1 l1_1.length c1_1, .slice A1_2 l1_2.length c1_2] 49 (0, 0)) (bp BK604) k_ hn_))⟩)) (below_size (bw HB))); have HO610 := am (Kd.S_lower (Kd.S_mono (ok' := fun k_ => True) ho1 (fun _ hk_ => trivial)) (below_size (bw HB))); have BK611 := am (hbx); have GW611 := am ((Nat.le_trans (below_size (bw HB)) hgx)); have GE611 := am ((Nat.le_trans (below_size (bw HB)) hgx)); have NB603_611 := am ((Nat.ne_of_lt (Nat.lt_of_lt_of_le (blk_lt (g := gb603) (o := .cells #[.slice A0_0 l0_0.length c0_0] 32 (0, 0)) (bp BK603)) hgx) : gb603 ≠ gb611)); have NB611_603 := am ((Nat.ne_of_gt (Nat.lt_of_lt_of_le (blk_lt (g := gb603) (o := .cells #[.slice A0_0 l0_0.length c0_0] 32 (0, 0)) (bp BK603)) hgx) : gb611 ≠ gb603)); replace BK603 := bb BK603 hb; have NB604_611 := am ((Nat.ne_of_lt (Nat.lt_of_lt_of_le (blk_lt (g := gb604) (o := .cells #[.int .i64 a1_0, .slice A1_1 l1_1.length c1_1, .slice A1_2 l1_2.length c1_2] 49 (0, 0)) (bp BK604)) hgx) : gb604 ≠ gb611)); have NB611_604 := am ((Nat.ne_of_gt (Nat.lt_of_lt_of_le (blk_lt (g := gb604) (o := .cells #[.int .i64 a1_0, .slice A1_1 l1_1.length c1_1, .slice A1_2 l1_2.length c1_2] 49 (0, 0)) (bp BK604)) hgx) : gb611 ≠ gb604)); replace BK604 := bb BK604 hb; replace HB := bs HB hb; clear hb; have hnb11 := NB604_611.out; have hnc11 := NB611_604.out; have hcz12 := bK w10 BK604; have hfz12 := bF BK604; obtain ⟨Ao13, co13, eo13⟩ := Kd.V_slice HO607.out; subst eo13; obtain ⟨Ao14, co14, eo14⟩ := Kd.S_slice HO610.out; subst eo14) | (go_at_call 56; refine (impl_prog_asmRight.calls k gb611 Ao13 co13 t605 Ao14 co14 t608 a1_0 _ _ l1_1 _ _ l1_2 t613 _ (bp BK611) (cc (Kd.V_reads' HO607.out).2.2) ((Kd.V_reads' HO607.out).2.1) (cc (Kd.S_reads' HO610.out).2.2) ((Kd.S_reads' HO610.out).2.1) (cc (Kd.C_below HR1_1.out HB.out)) HC1_1.out (cc (Kd.C_below HR1_2.out HB.out)) HC1_2.out A5.out).mono ?_; rintro e w15 ⟨rfl, hb⟩; replace HO607 := am (Kd.V_below (kV HO607) hb); replace HO610 := am (Kd.S_below (kS HO610) hb); replace BK603 := bb BK603 hb; replace BK604 := bb BK604 hb; replace BK611 := bb BK611 hb; replace HB := bs HB hb; clear hb))
  go_ret
  exact ⟨er, bw HB⟩
 obtain rfl := oi H
 go_enter Try.func48, Try.ntmps48
 go_wp2_with (first | ((with_reducible refine gd 2 rfl ?_); refine bX 2 #[.slice A0_0 l0_0.length c0_0] 32 HB ?_; clear HB; intro gb603 w16 hg hb BK603 GW603 HB; clear hb hg) | ((with_reducible refine gd 3 rfl ?_); refine bX 3 #[.int .i64 a1_0, .slice A1_1 l1_1.length c1_1, .slice A1_2 l1_2.length c1_2] 49 HB ?_; clear HB; intro gb604 w17 hg hb BK604 GW604 HB; obtain ⟨NB603_604, NB604_603, BK603⟩ := b3 hg BK603 hb; clear hb hg; have hnb18 := NB603_604.out; have hnc18 := NB604_603.out; have hcz19 := bK w17 BK603; have hfz19 := bF BK603) | ((with_reducible refine gk 55 rfl ?_); refine gC 55 (some 9) Try.func55 #[.agg #[.slice A0_0 l0_0.length c0_0]] ((impl_known.calls k (fun k_ => k_ < w.heap.size) _ _ l0_0 t605 t608 false _ (Kd.V_mk HC0_0.out (Kd.F_below (Kd.C_F k121_heap HR0_0.out) (bw HB))) A3.out).mono ?_); rintro e w20 ⟨v606, v609, gb611, rfl, ho0, ho1, hbx, hgx, hb⟩; refine ⟨_, rfl, ?_⟩; have HO607 := am (Kd.V_lower (Kd.V_mono (ok' := fun k_ => some k_ ≠ (v609 : Value).ownBlock ∧ k_ ≠ gb603 ∧ k_ ≠ gb604) ho0 (fun k_ hk_ => ⟨hk_.2, Or.elim hk_.1 (fun hs_ => fun e_ => Nat.not_le.2 hs_ (by rw [e_]; exact GW603.out)) (fun hn_ => (Kd.freshB (g := gb603) (o := .cells #[.slice A0_0 l0_0.length c0_0] 32 (0, 0)) (bp BK603) k_ hn_)), Or.elim hk_.1 (fun hs_ => fun e_ => Nat.not_le.2 hs_ (by rw [e_]; exact GW604.out)) (fun hn_ => (Kd.freshB (g := gb604) (o := .cells #[.int .i64 a1_0, .slice A1_1 l1_1.length c1_1, .slice A1_2 l1_2.length c1_2] 49 (0, 0)) (bp BK604) k_ hn_))⟩)) (below_size (bw HB))); have HO610 := am (Kd.S_lower (Kd.S_mono (ok' := fun k_ => True) ho1 (fun _ hk_ => trivial)) (below_size (bw HB))); have BK611 := am (hbx); have GW611 := am ((Nat.le_trans (below_size (bw HB)) hgx)); have GE611 := am ((Nat.le_trans (below_size (bw HB)) hgx)); have NB603_611 := am ((Nat.ne_of_lt (Nat.lt_of_lt_of_le (blk_lt (g := gb603) (o := .cells #[.slice A0_0 l0_0.length c0_0] 32 (0, 0)) (bp BK603)) hgx) : gb603 ≠ gb611)); have NB611_603 := am ((Nat.ne_of_gt (Nat.lt_of_lt_of_le (blk_lt (g := gb603) (o := .cells #[.slice A0_0 l0_0.length c0_0] 32 (0, 0)) (bp BK603)) hgx) : gb611 ≠ gb603)); replace BK603 := bb BK603 hb; have NB604_611 := am ((Nat.ne_of_lt (Nat.lt_of_lt_of_le (blk_lt (g := gb604) (o := .cells #[.int .i64 a1_0, .slice A1_1 l1_1.length c1_1, .slice A1_2 l1_2.length c1_2] 49 (0, 0)) (bp BK604)) hgx) : gb604 ≠ gb611)); have NB611_604 := am ((Nat.ne_of_gt (Nat.lt_of_lt_of_le (blk_lt (g := gb604) (o := .cells #[.int .i64 a1_0, .slice A1_1 l1_1.length c1_1, .slice A1_2 l1_2.length c1_2] 49 (0, 0)) (bp BK604)) hgx) : gb611 ≠ gb604)); replace BK604 := bb BK604 hb; replace HB := bs HB hb; clear hb))
 go_ret
 exact ⟨er, bw HB⟩

mutual
def impl_numBytes.j0 : Nat → Int → Option (List Int)
 | 0, _ => none
 | k + 1, x3 => impl_numBytes.l0 k x3 ([] : List Int)
def impl_numBytes.l0 : Nat → Int → List Int → Option (List Int)
 | 0, _, _ => none
 | k + 1, x3, x4 => if x3 ≥ 128 then (if x4.length < 140737488355328 then (impl_numBytes.l0 k (x3 / 128) (x4 ++ [Go.bits .or .u8 ((x3) % 256) 128])) else (none)) else (if x4.length < 140737488355328 then (some (x4 ++ [(x3) % 256])) else (none))
end
def impl_numBytes.f (k : Nat) (a0 : Int) : Option (List Int) := if a0 < 0 then (impl_numBytes.j0 k (Go.bits .xor .u64 18446744073709551615 (IntKind.u64.wrap ((IntKind.u64.wrap (a0)) * 2)))) else (impl_numBytes.j0 k (IntKind.u64.wrap ((IntKind.u64.wrap (a0)) * 2)))
theorem impl_numBytes.calls (k : Nat) (a0 : Int) (r : List Int) (w : World) (h : impl_numBytes.f k a0 = some r) :
  Calls Try.prog 50 #[.int .i64 a0] w fun e w' => ∃ v0_ : Value, e = .returned (v0_) ∧ Kd.R (Kd.int .u8) 5 w' w.heap.size (fun _ => True) v0_ r ∧ Below w.heap.size w w' := by
 have HB := am (Below.refl w.heap.size w)
 have H : (if a0 < 0 then (impl_numBytes.j0 k (Go.bits .xor .u64 18446744073709551615 (IntKind.u64.wrap ((IntKind.u64.wrap (a0)) * 2)))) else (impl_numBytes.j0 k (IntKind.u64.wrap ((IntKind.u64.wrap (a0)) * 2)))) = some r := h
 clear h
 have HC2 := am H
 clear H
 go_enter Try.func50, Try.ntmps50
 go_upto_if 9 with (fail)
 go_cut [3] (fun v3 wc => ∃ (kq : Nat) (x3_1 : Int), v3 = .int .u64 x3_1 ∧ Aside0 (impl_numBytes.j0 kq x3_1 = some r) ∧ Aside0 (kq ≤ k) ∧ Aside0 (Below w.heap.size w wc))
 case first =>
  have H := HC2.out
  clear HC2
  refine qI H ?_ ?_ <;> clear H <;> intro c3b0 H
  ·(first | rw [c3b0] | (simp only [i64_w, i32_w]; rw [c3b0]) | skip)
   have H' := am H
   clear H
   go_wp2
   go_meet
   case rel => exact ⟨_, (Go.bits .xor .u64 18446744073709551615 (IntKind.u64.wrap ((IntKind.u64.wrap (a0)) * 2))), dr, H', ⟨lk0⟩, ⟨bw HB⟩⟩
  (first | rw [c3b0] | (simp only [i64_w, i32_w]; rw [c3b0]) | skip)
  have H' := am H
  clear H
  go_wp2
  go_meet
  case rel => exact ⟨_, (IntKind.u64.wrap ((IntKind.u64.wrap (a0)) * 2)), dr, H', ⟨lk0⟩, ⟨bw HB⟩⟩
 clear HC2
 obtain ⟨kq, x3_1, rfl, HA, HJ1, HB⟩ := hcut
 rcases kq with _ | kj1
 ·exact absurd HA.out (by simp [impl_numBytes.j0])
 have H := HA.out
 clear HA
 simp only [impl_numBytes.j0] at H
 have H' := am H
 clear H
 go_wp2
 go_loopg [3, 4] kj1 (fun kq v3 v4 w' => ∃ (x3_2 : Int) (x4_2 : List Int), v3 = .int .u64 x3_2 ∧ Aside0 (impl_numBytes.l0 kq x3_2 x4_2 = some r) ∧ Aside0 (kq ≤ kj1) ∧ Aside0 (Kd.R (Kd.int .u8) 5 w' w.heap.size (fun _ => True) v4 x4_2) ∧ Aside0 (Below w.heap.size w w'))
 case atStart => exact ⟨(x3_1), (([] : List Int)), dr, H', ⟨Nat.le_refl _⟩, ⟨by first | exact Kd.R_nil _ _ _ _ _ | exact Kd.N_nil _ _ _ _ _ | exact Kd.V_nil _ _ _ _ _ | exact Kd.Q_nil _ _ _ _ _ | exact Kd.S_nil _ _ _ _ _⟩, ⟨bw HB⟩⟩
 clear H'
 obtain ⟨x3_2, x4_2, rfl, HA, HK2, HO_4, HB⟩ := hrel
 rcases gk with _ | k2
 ·exact absurd HA.out (by simp [impl_numBytes.l0])
 have H := HA.out
 clear HA
 simp only [impl_numBytes.l0] at H
 refine qL H ?_ ?_ <;> clear H <;> intro c4b0 H
 ·refine iN H ?_; clear H; intro c5 H
  have LMc5 := am c5
  clear c5
  obtain ⟨y614, hy614⟩ : ∃ y_ : List Int, y_ = (x4_2 ++ [Go.bits .or .u8 ((x3_2) % 256) 128]) := ⟨_, rfl⟩
  replace H : (impl_numBytes.l0 k2 (x3_2 / 128) y614) = some r := cg hy614 H
  have Ny614 := am hy614
  clear hy614
  have H' := am H
  clear H
  go_wp2_with (first | ((with_reducible refine gate_builtin (b := .append) (xs := #[.tmp 14, .tmp 18]) rfl ?_); at_builtin; refine Kd.R_append (Kd.int .u8) (w0 := w) w.heap.size rfl (.tmp 14) (.tmp 18) 75 5 (.int .u8 0) 1 rfl Try.underlying75 info5 rfl (by decide) (by omega) u4 x4_2 (Go.bits .or .u8 ((x3_2) % 256) 128) [.int .u8 (Go.bits .or .u8 ((x3_2) % 256) 128)] (fun _ => True) (fun _ => False) rfl rfl ?aP (fun _ hk => hk.elim) ?aF ?aO ?aB ?aS ?aL ?_; (case aP => exact rfl); (case aB => exact (bw HB)); (case aF => exact (fun _ _ => trivial)); (case aO => exact (kR HO_4)); (case aS => exact (below_size (bw HB))); (case aL => have := LMc5.out; omega); intro v615 w6 ho hb hg hat; rw [← Ny614.out] at ho; replace HB := am (hb); have HO616 := am (ho); clear HO_4; clear ho hb hg hat))
  go_roundg k2
  case measure => have := HJ1.out; have := HK2.out; omega
  case rel => exact ⟨(x3_2 / 128), (y614), dr, H', ⟨by have := HJ1.out; have := HK2.out; omega⟩, ⟨kR HO616⟩, ⟨bw HB⟩⟩
 refine iN H ?_; clear H; intro c7 H
 have LMc7 := am c7
 clear c7
 obtain ⟨y617, hy617⟩ : ∃ y_ : List Int, y_ = (x4_2 ++ [(x3_2) % 256]) := ⟨_, rfl⟩
 replace H : (some y617) = some r := cg hy617 H
 have Ny617 := am hy617
 clear hy617
 obtain rfl := oi H
 go_wp2_with (first | ((with_reducible refine gate_builtin (b := .append) (xs := #[.tmp 22, .tmp 25]) rfl ?_); at_builtin; refine Kd.R_append (Kd.int .u8) (w0 := w) w.heap.size rfl (.tmp 22) (.tmp 25) 75 5 (.int .u8 0) 1 rfl Try.underlying75 info5 rfl (by decide) (by omega) u4 x4_2 ((x3_2) % 256) [.int .u8 ((x3_2) % 256)] (fun _ => True) (fun _ => False) rfl rfl ?aP (fun _ hk => hk.elim) ?aF ?aO ?aB ?aS ?aL ?_; (case aP => exact rfl); (case aB => exact (bw HB)); (case aF => exact (fun _ _ => trivial)); (case aO => exact (kR HO_4)); (case aS => exact (below_size (bw HB))); (case aL => have := LMc7.out; omega); intro v618 w8 ho hb hg hat; rw [← Ny617.out] at ho; replace HB := am (hb); have HO619 := am (ho); clear HO_4; clear ho hb hg hat))
 go_ret
 exact ⟨_, er, kR HO619, bw HB⟩

def impl_AsmBytes_1.l0 : Nat → List Int → List Int → Int → Int → Option (List Int)
 | 0, _, _, _, _ => none
 | k + 1, x1, x5, x6, x7 => if x7 < x6 then (if 0 ≤ x7 then (if x7 < (x5.length : Int) then ((impl_numBytes.f k (rd x5 x7)).bind fun t621 => (if x1.length + t621.length < 140737488355328 then (impl_AsmBytes_1.l0 k (x1 ++ t621) x5 x6 (wrap64 (x7 + 1))) else (none))) else (none)) else (none)) else (some x1)
def impl_AsmBytes_1.f (k : Nat) (l0 : List Int) (l1 : List Int) : Option (List Int) := impl_AsmBytes_1.l0 k l1 l0 (l0.length : Int) 0
theorem impl_AsmBytes_1.clo (k : Nat) (ok0 : Nat → Prop) (u0 : Value) (l0 : List Int) (u : Value) (l1 : List Int) (r : List Int) (w0 w : World) {gb : Nat} (hB : Below w0.heap.size w0 w) (hl : Kd.R (Kd.int .i64) 2 w w0.heap.size ok0 u0 l0) (ho1 : Kd.R (Kd.int .u8) 5 w w0.heap.size (fun _ => True) u l1) (hbox : w.heap[gb]? = some (.cells #[u] 75 (0, 0))) (hge : w0.heap.size ≤ gb) (h : impl_AsmBytes_1.f k l0 l1 = some r) :
  Calls Try.prog 49 #[u0, .pointer (some ⟨gb, 0, none⟩)] w fun e w' => ∃ (v1 : Value) (w1 : World), e = .returned (.tuple #[]) ∧ Kd.R (Kd.int .u8) 5 w1 w0.heap.size (fun _ => True) v1 r ∧ Below w0.heap.size w0 w1 ∧ w.grownBy w1 u.ownBlock ∧ (v1.ownBlock = u.ownBlock ∨ ∃ k, v1.ownBlock = some k ∧ w.heap.size ≤ k) ∧ w' = w1.setCell ⟨gb, 0, none⟩ v1 := by
 have info5 : (Try.prog.info? 5).map (fun i => (i.zero, i.size, i.bytes)) = some (some (.int .u8 0), 1, 1) := by kernel_rfl
 obtain ⟨A0, c0, rfl⟩ := Kd.R_slice hl
 have HL := am hl
 have HU := am ho1
 have HX := am hbox
 have HG := am hge
 have HB := am hB
 have HF := am (Fr.refl w gb u)
 clear hB hl ho1 hbox hge
 have H' := am (show impl_AsmBytes_1.l0 k l1 l0 (l0.length : Int) 0 = some r from h)
 clear h
 go_enter Try.func49, Try.ntmps49
 go_wp2
 go_loopg [7] k (fun kq v7 w' => ∃ (x1_1 : List Int) (x7_1 : Int) (vv : Value), v7 = .int .i64 x7_1 ∧ Aside0 (impl_AsmBytes_1.l0 kq x1_1 l0 (l0.length : Int) x7_1 = some r) ∧ Aside0 (kq ≤ k) ∧ Aside0 (Kd.R (Kd.int .u8) 5 w' w0.heap.size (fun _ => True) vv x1_1) ∧ Aside0 (w'.heap[gb]? = some (.cells #[vv] 75 (0, 0))) ∧ Aside0 (Fr w w' gb u vv) ∧ Aside0 (Below w0.heap.size w0 w'))
 case atStart => exact ⟨l1, 0, u, (by first | rfl | (simp; done)), H', ⟨Nat.le_refl _⟩, ⟨kR HU⟩, ⟨bp HX⟩, ⟨iF HF⟩, ⟨bw HB⟩⟩
 clear H' HB HF
 obtain ⟨x1_1, x7_1, vv, rfl, HA, HK1, HO, HZ, HF, HB⟩ := hrel
 rcases gk with _ | k1
 ·exact absurd HA.out (by simp [impl_AsmBytes_1.l0])
 have H := HA.out
 clear HA
 simp only [impl_AsmBytes_1.l0] at H
 by_cases c3 : x7_1 < (l0.length : Int)
 ·rw [if_pos c3] at H
  have c3b0 := decide_eq_true c3
  by_cases c4 : 0 ≤ x7_1
  ·rw [if_pos c4, if_pos c3] at H
   replace H := Option.bind_eq_some_iff.mp H
   obtain ⟨tn, A60, H⟩ := H
   have A6 := am A60
   clear A60
   refine iN H ?_; clear H; intro c7 H
   have LMc7 := am c7
   clear c7
   obtain ⟨y5, hy5⟩ : ∃ y_ : List Int, y_ = x1_1 ++ tn := ⟨_, rfl⟩
   rw [← hy5] at H
   have Ny5 := am hy5
   clear hy5
   have H' := am H
   clear H
   have HC := am (Kd.R_reads' (Fr.row HF.out HL.out HU.out HX.out (by decide) (by decide))).2.2
   obtain ⟨ad, ea, hxa⟩ := Kd.at_int HC.out x7_1 c4 c3
   cases ea
   have p0 := eq_true c4
   have q0 := eq_true c3
   clear c3 c4
   try go_wp2
   have n0_ := am (Kd.R_drew HO.out)
   have n1_ := am (Fr.drew HF.out)
   have n2_ := am (below_drew1 HB.out)
   have n3_ := am (blk_drew HZ.out)
   clear HO HF HB HZ HC hxa
   have HO := n0_
   have HF := n1_
   have HB := n2_
   have HZ := n3_
   clear n0_ n1_ n2_ n3_
   refine start_ (n := 5) (S := fun w' => w'.cell? ⟨gb, 0, none⟩ = some vv) (ds := [4]) (bv 5 0) (by kernel_rfl) rfl (by kernel_rfl) (bc HZ 0) (fun hHeld => ?_)
   generalize wr.drew = w8 at HO HF HB HZ hHeld ⊢
   refine pure_ (i := 1) (N := some 12) (v := ?_) (a' := ?_) (bv 5 2) rfl rfl (by kernel_rfl) (fun _ _ _ h => h) (Or.inl ⟨by rfl, ?_⟩) ?_ ?_
   rotate_left
   ·intro w'
    go_simp
    with_reducible rfl
   rotate_left
   ·simp only [Act.put, sa, sz, ss, i64_w, i32_w]
    rfl
   refine take_ (i := 0) (N := some 11) (v := ?_) (a' := ?_) (bv 5 3) rfl rfl (by kernel_rfl) (fun _ _ _ h => h) (Or.inl ⟨by rfl, ?_⟩) hHeld ?_ ?_
   rotate_left
   ·intro w' s0
    go_simp
    with_reducible rfl
   rotate_left
   ·simp only [Act.put, sa, sz, ss, i64_w, i32_w]
    rfl
   refine one_ (i := 2) (N := some 13) (bv 5 7) rfl rfl (by kernel_rfl) (by decide) (fun K hK => ?_)
   refine goes_ Try.func50 (by kernel_rfl) rfl #[.int .i64 (rd l0 x7_1)] (by rfl) rfl rfl (by (try simp only [List.map_toArray, List.map_cons, List.map_nil]); first | done | rfl) ?_
   with_reducible refine (impl_numBytes.calls k1 (rd l0 x7_1) tn _ A6.out).mono ?_
   rintro e w9 ⟨vn, rfl, ho0, hb⟩
   refine ⟨_, rfl, ?_⟩
   have n0_ := am (Kd.R_elder' (kR HO) (Kd.R_base ho0) hb)
   have n1_ := am (Kd.R_lower ho0 (below_size (bw HB)))
   have n2_ := am (Fr.below (iF HF) hb)
   have n3_ := am (below_step (bw HB) hb)
   have n4_ := am (blk_below (bp HZ) hb)
   clear HO HF HB HZ
   have HO := n0_
   have HN := n1_
   have HF := n2_
   have HB := n3_
   have HZ := n4_
   clear n0_ n1_ n2_ n3_ n4_ hb ho0
   obtain ⟨An, cn, en⟩ := Kd.R_slice HN.out
   subst en
   refine hK.out _ _ (bc HZ 0) (fun hHeld => ?_)
   clear hK K
   refine nm (some 13) ?_
   refine one_ (i := 3) (N := some 14) (bv 5 15) rfl rfl (by kernel_rfl) (by decide) (fun K hK => ?_)
   refine Kd.R_append_rows_step (Kd.int .u8) (w0 := w0) w0.heap.size (by rfl) (.tmp 11) (.tmp 13) 75 5 (.int .u8 0) 1 rfl Try.underlying75 info5 rfl (by decide) (by omega) vv x1_1 tn _ _ _ (fun _ => True) (fun _ => False) rfl rfl ?aO ?aR (fun _ _ h => h) (fun _ h => h.elim) ?aF ?aB ?aS ?aL ?_
   (case aR => exact (Kd.R_reads' (kR HN)).2.2)
   (case aB => exact (bw HB))
   (case aF => exact (fun _ _ => trivial))
   (case aO => exact (Kd.R_mono (kR HO) (fun _ _ => trivial)))
   (case aS => exact (below_size (bw HB)))
   (case aL => have := LMc7.out; omega)
   intro v5 w10 ho hb hg hat
   rw [← Ny5.out] at ho
   have n0_ := am ho
   have n1_ := am hb
   have n2_ := am (Fr.grown (iF HF) hg hat)
   have n3_ := am (blk_grown (bp HZ) hg (Kd.R_ne HO.out HZ.out (by decide)))
   clear HO HF HB HZ HN
   have HO := n0_
   have HB := n1_
   have HF := n2_
   have HZ := n3_
   clear n0_ n1_ n2_ n3_ ho hb hg hat
   refine hK.out _ _ (bc HZ 0) (fun hHeld => ?_)
   clear hK K
   refine nm (some 14) ?_
   refine last_ (i := 4) (N := none) (bv 5 31) rfl rfl (by kernel_rfl) (by decide) (fun K hK => ?_)
   obtain ⟨A5, c5, rfl⟩ := Kd.R_slice HO.out
   have hs := bc HZ 0
   have hf := bf HZ 0
   refine skip_ (w1 := ?_) (by rfl) rfl ?_ ?_
   rotate_left
   ·go_simp
    rfl
   refine hK.out _ _ ?_
   clear hK K
   refine done_ (by kernel_rfl) ?_
   try go_wp2
   go_roundg k1
   case measure => have := HK1.out; omega
   case rel => exact ⟨_, (wrap64 (x7_1 + 1)), _, dr, H', ⟨by have := HK1.out; omega⟩, ⟨Kd.R_mono (Kd.R_far (p := ⟨gb, 0, none⟩) (Kd.R_types HO.out HZ.out (by decide)) (fun _ hk => hk.2) _) (fun _ _ => trivial)⟩, ⟨blk_put (cs := #[_]) HZ.out 0 _ rfl⟩, ⟨Fr.set HF.out _⟩, ⟨below_set HB.out HG.out⟩⟩
  rw [if_neg c4] at H
  exact absurd H (by simp)
 rw [if_neg c3] at H
 have c3b0 := decide_eq_false c3
 clear c3
 obtain rfl := oi H
 go_wp2
 go_end0
 obtain ⟨w1, h1, h2, h3, h4, h5⟩ := Fr.reset HF.out HX.out HZ.out HO.out (by decide) HB.out HG.out
 first | exact ⟨vv, w1, rfl, h1, h2, h3, h4, h5⟩ | exact ⟨rfl, vv, w1, h1, h2, h3, h4, h5⟩


def impl_AsmBytes_2.l0 : Nat → List Int → List (S82) → Int → Int → Option (List Int)
 | 0, _, _, _, _ => none
 | k + 1, x1, x10, x11, x12 => if x12 < x11 then (if 0 ≤ x12 then (if x12 < (x10.length : Int) then ((impl_AsmBytes_1.f k (([(rd_T82 x10 x12).f0, (rd_T82 x10 x12).f1] : List Int)) x1).bind fun t638 => (impl_AsmBytes_2.l0 k t638 x10 x11 (wrap64 (x12 + 1)))) else (none)) else (none)) else (some x1)
def impl_AsmBytes_2.f (k : Nat) (l0 : List (S82)) (l1 : List Int) : Option (List Int) := (impl_AsmBytes_1.f k (([(l0.length : Int)] : List Int)) l1).bind fun t630 => (impl_AsmBytes_2.l0 k t630 l0 (l0.length : Int) 0)
theorem impl_AsmBytes_2.clo (k : Nat) (A0 : Option Addr) (c0 : Nat) (l0 : List (S82)) (u : Value) (l1 : List Int) (r : List Int) (w0 w : World) {gp gb : Nat} (hB : Below w0.heap.size w0 w) (hr0 : Kd.C k82 w0 A0 l0.length l0) (ho1 : Kd.R (Kd.int .u8) 5 w w0.heap.size (fun _ => True) u l1) (hbox : w.heap[gb]? = some (.cells #[u] 75 (0, 0))) (hge : w0.heap.size ≤ gb) (hp : w.heap[gp]? = some (.cells #[.func (.func 49) #[] #[.pointer (some ⟨gb, 0, none⟩)]] 90 (0, 0))) (h : impl_AsmBytes_2.f k l0 l1 = some r) :
  Calls Try.prog 51 #[.slice A0 l0.length c0, .pointer (some ⟨gp, 0, none⟩)] w fun e w' => ∃ (v1 : Value) (w1 : World), e = .returned (.tuple #[]) ∧ Kd.R (Kd.int .u8) 5 w1 w0.heap.size (fun _ => True) v1 r ∧ Below w0.heap.size w0 w1 ∧ w.grownBy w1 u.ownBlock ∧ (v1.ownBlock = u.ownBlock ∨ ∃ k, v1.ownBlock = some k ∧ w.heap.size ≤ k) ∧ w' = w1.setCell ⟨gb, 0, none⟩ v1 := by
 have hne : gp ≠ gb := by
  intro e; subst e; rw [hp] at hbox; simp only [Option.some.injEq, Obj.cells.injEq] at hbox; exact absurd hbox.2.1 (by decide)
 have HR := am hr0
 have HX := am hbox
 have HG := am hge
 have HN := am hne
 have HB := am hB
 have HP := am hp
 have HF := am (Fr.refl w gb u)
 have HO := am ho1
 have HZ := am hbox
 clear hB hr0 ho1 hbox hge hp hne
 have H : ((impl_AsmBytes_1.f k (([(l0.length : Int)] : List Int)) l1).bind fun t => (impl_AsmBytes_2.l0 k t l0 (l0.length : Int) 0)) = some r := h
 clear h
 obtain ⟨y8, hy8⟩ : ∃ y_ : List Int, y_ = ([(l0.length : Int)] : List Int) := ⟨_, rfl⟩
 rw [← hy8] at H
 have Ny8 := am hy8
 clear hy8
 replace H := Option.bind_eq_some_iff.mp H
 obtain ⟨t1, A10, H⟩ := H
 have A1 := am A10
 clear A10
 have H' := am H
 clear H
 go_enter Try.func51, Try.ntmps51
 have hcp := bc HP 0
 go_wp2_with (first | ((with_reducible refine gate_dst (N := 8) rfl ?_); refine Kd.R_lit (Kd.int .i64) _ 2 ?hg (N := 8) ?hd (xs := ([(l0.length : Int)] : List Int)) (inner := [.int .i64 (l0.length : Int)]) (ok := fun _ => True) (okp := fun _ => True) ?hr ?hp (fun _ hk => hk) trivial (Below.refl _ _) (Nat.le_refl _) (by simp) ?_; (case hd => rfl); (case hg => rfl); (case hr => exact gs); (case hp => exact (Reps.one (show Kd.M (Kd.int .i64) _ _ _ (l0.length : Int) [.int .i64 (l0.length : Int)] from rfl) (Reps.none _ _))); intro v8 w4 ho hb hg_ hnew_; clear hg_ hnew_; rw [← Ny8.out] at ho; replace HO := am (Kd.R_below (kR HO) hb); have HL := am (Kd.R_lower ho (below_size (bw HB))); replace HZ := am (blk_below (bp HZ) hb); replace HP := am (blk_below (bp HP) hb); replace HB := bs HB hb; replace HF := am (Fr.below (iF HF) hb); clear hcp; clear hb; clear ho) | ((with_reducible refine gate_calleeT (q := .tmp 5) rfl ?_); refine goesC_ (q := .tmp 5) (cap := #[.pointer (some ⟨gb, 0, none⟩)]) (some 9) rfl rfl Try.func49 (by kernel_rfl) rfl rfl #[v8] #[v8, .pointer (some ⟨gb, 0, none⟩)] rfl (by (try simp only [List.map_toArray, List.map_cons, List.map_nil]); first | done | rfl) (by simp only [List.append_toArray, List.cons_append, List.nil_append]) ?_; (refine (impl_AsmBytes_1.clo k _ _ y8 _ l1 t1 w0 _ (bw HB) HL.out HO.out HZ.out HG.out A1.out).mono ?_); rintro e w'_ ⟨v1_, w1_, rfl, ho, hb, hgr, hat, rfl⟩; refine ⟨_, rfl, ?_⟩; have hz1 := blk_grown HZ.out hgr (Kd.R_ne HO.out HZ.out (by decide)); have n0_ := am (Kd.R_mono (ok' := fun _ => True) (Kd.R_far (p := ⟨gb, 0, none⟩) (Kd.R_types ho hz1 (by decide)) (fun _ hk => hk.2) v1_) (fun _ _ => trivial)); have n1_ := am (blk_put (cs' := #[v1_]) hz1 0 v1_ rfl); have n2_ := am (blk_far (p := ⟨gb, 0, none⟩) (blk_grown HP.out hgr (Kd.R_ne HO.out HP.out (by decide))) HN.out v1_); have n3_ := am (below_set (w := w0) (j := 0) (v := v1_) hb HG.out); have n4_ := am (Fr.set (Fr.grown HF.out hgr hat) v1_); clear HO HZ HP HB HF HL hz1 ho hb hgr hat; generalize (World.setCell w1_ ⟨gb, 0, none⟩ v1_) = w9 at n0_ n1_ n2_ n3_ n4_ ⊢; have HO := n0_; have HZ := n1_; have HP := n2_; have HB := n3_; have HF := n4_; clear n0_ n1_ n2_ n3_ n4_))
 go_loopg [12] k (fun kq v12 w' => ∃ (x1_1 : List Int) (x12_1 : Int) (vv : Value), v12 = .int .i64 x12_1 ∧ Aside0 (impl_AsmBytes_2.l0 kq x1_1 l0 (l0.length : Int) x12_1 = some r) ∧ Aside0 (kq ≤ k) ∧ Aside0 (Kd.R (Kd.int .u8) 5 w' w0.heap.size (fun _ => True) vv x1_1) ∧ Aside0 (w'.heap[gb]? = some (.cells #[vv] 75 (0, 0))) ∧ Aside0 (w'.heap[gp]? = some (.cells #[.func (.func 49) #[] #[.pointer (some ⟨gb, 0, none⟩)]] 90 (0, 0))) ∧ Aside0 (Fr w w' gb u vv) ∧ Aside0 (Below w0.heap.size w0 w'))
 case atStart => exact ⟨t1, 0, _, (by first | rfl | (simp; done)), H', ⟨Nat.le_refl _⟩, ⟨kR HO⟩, ⟨bp HZ⟩, ⟨bp HP⟩, ⟨iF HF⟩, ⟨bw HB⟩⟩
 clear H' HB HF HO HZ HP
 obtain ⟨x1_1, x12_1, vv, rfl, HA, HK1, HO, HZ, HP, HF, HB⟩ := hrel
 rcases gk with _ | k1
 ·exact absurd HA.out (by simp [impl_AsmBytes_2.l0])
 have H := HA.out
 clear HA
 simp only [impl_AsmBytes_2.l0] at H
 by_cases c9 : x12_1 < (l0.length : Int)
 ·rw [if_pos c9] at H
  have c9b0 := decide_eq_true c9
  by_cases c10 : 0 ≤ x12_1
  ·rw [if_pos c10, if_pos c9] at H
   obtain ⟨y21, hy21⟩ : ∃ y_ : List Int, y_ = ([(rd_T82 l0 x12_1).f0, (rd_T82 l0 x12_1).f1] : List Int) := ⟨_, rfl⟩
   rw [← hy21] at H
   have Ny21 := am hy21
   clear hy21
   replace H := Option.bind_eq_some_iff.mp H
   obtain ⟨t2, A20, H⟩ := H
   have A2 := am A20
   clear A20
   have H' := am H
   clear H
   obtain ⟨ad, ea, hxa_0, hxa_1⟩ := at_T82 (Kd.C_below HR.out HB.out) x12_1 c10 c9
   cases ea
   have p0 := eq_true c10
   have q0 := eq_true c9
   clear c9 c10
   go_wp2_with (first | ((with_reducible refine gd 4 rfl ?_); refine bx 4 #[.int .i64 0, .int .i64 0] 82 ?_; intro g4 hg w13 hbox hb; replace HO := am (Kd.R_below (kR HO) hb); have HM := am hbox; have GW := am (by rw [hg]; exact (iF HF : Fr w _ gb u vv).size : w.heap.size ≤ g4); replace HF := am (Fr.below (iF HF) hb); have GE := am (by rw [hg]; exact (below_size (bw HB)) : w0.heap.size ≤ g4); replace HB := bs HB hb; have NB := am (by rw [hg]; exact Nat.ne_of_lt (blk_lt (bp HZ)) : gb ≠ g4); replace HZ := am (blk_below (bp HZ) hb); have NP := am (by rw [hg]; exact Nat.ne_of_lt (blk_lt (bp HP)) : gp ≠ g4); replace HP := am (blk_below (bp HP) hb); clear hb; clear hbox; clear hg; have hcz_0 := bk w13 HM 0; have hcz_1 := bk w13 HM 1; have hfz_0 := bf HM 0; have hfz_1 := bf HM 1; have hcq := bc HP 0; have hnb := NP.out; have hnc := NP.out.symm) | ((with_reducible refine gate_dst (N := 21) rfl ?_); refine Kd.R_lit (Kd.int .i64) _ 2 ?hg (N := 21) ?hd (xs := ([(rd_T82 l0 x12_1).f0, (rd_T82 l0 x12_1).f1] : List Int)) (inner := [.int .i64 ((rd_T82 l0 x12_1).f0), .int .i64 ((rd_T82 l0 x12_1).f1)]) (ok := fun _ => True) (okp := fun _ => True) ?hr ?hp (fun _ hk => hk) trivial (Below.refl _ _) (Nat.le_refl _) (by simp) ?_; (case hd => rfl); (case hg => rfl); (case hr => exact gs); (case hp => exact (Reps.one (show Kd.M (Kd.int .i64) _ _ _ ((rd_T82 l0 x12_1).f0) [.int .i64 ((rd_T82 l0 x12_1).f0)] from rfl) (Reps.one (show Kd.M (Kd.int .i64) _ _ _ ((rd_T82 l0 x12_1).f1) [.int .i64 ((rd_T82 l0 x12_1).f1)] from rfl) (Reps.none _ _)))); intro v21 w15 ho hb hg_ hnew_; clear hg_ hnew_; rw [← Ny21.out] at ho; replace HO := am (Kd.R_mono (ok' := fun _ => True) (Kd.R_below (Kd.R_far (p := ⟨g4, 1, none⟩) (Kd.R_far (p := ⟨g4, 0, none⟩) (Kd.R_types HO.out HM.out (by decide)) (fun _ hk => hk.2) (.int .i64 ((rd_T82 l0 x12_1).f0))) (fun _ hk => hk.2) (.int .i64 ((rd_T82 l0 x12_1).f1))) hb) (fun _ _ => trivial)); have HL := am (Kd.R_lower ho (below_size (below_set (j := 1) (v := .int .i64 ((rd_T82 l0 x12_1).f1)) (below_set (j := 0) (v := .int .i64 ((rd_T82 l0 x12_1).f0)) HB.out GE.out) GE.out))); replace HZ := am (blk_below (blk_far (p := ⟨g4, 1, none⟩) (blk_far (p := ⟨g4, 0, none⟩) HZ.out NB.out (.int .i64 ((rd_T82 l0 x12_1).f0))) NB.out (.int .i64 ((rd_T82 l0 x12_1).f1))) hb); replace HP := am (blk_below (blk_far (p := ⟨g4, 1, none⟩) (blk_far (p := ⟨g4, 0, none⟩) HP.out NP.out (.int .i64 ((rd_T82 l0 x12_1).f0))) NP.out (.int .i64 ((rd_T82 l0 x12_1).f1))) hb); replace HB := am (below_step (below_set (j := 1) (v := .int .i64 ((rd_T82 l0 x12_1).f1)) (below_set (j := 0) (v := .int .i64 ((rd_T82 l0 x12_1).f0)) HB.out GE.out) GE.out) hb); replace HF := am (Fr.below (Fr.far (Fr.far HF.out GW.out 0 (.int .i64 ((rd_T82 l0 x12_1).f0))) GW.out 1 (.int .i64 ((rd_T82 l0 x12_1).f1))) hb); clear HM; clear GW; clear GE; clear NB; clear NP; clear hcz_0; clear hcz_1; clear hfz_0; clear hfz_1; clear hcq; clear hnb; clear hnc; clear hb; clear ho) | ((with_reducible refine gate_calleeT (q := .tmp 16) rfl ?_); refine goesC_ (q := .tmp 16) (cap := #[.pointer (some ⟨gb, 0, none⟩)]) (some 22) rfl rfl Try.func49 (by kernel_rfl) rfl rfl #[v21] #[v21, .pointer (some ⟨gb, 0, none⟩)] rfl (by (try simp only [List.map_toArray, List.map_cons, List.map_nil]); first | done | rfl) (by simp only [List.append_toArray, List.cons_append, List.nil_append]) ?_; (refine (impl_AsmBytes_1.clo k1 _ _ y21 _ x1_1 t2 w0 _ (bw HB) HL.out HO.out HZ.out HG.out A2.out).mono ?_); rintro e w'_ ⟨v1_, w1_, rfl, ho, hb, hgr, hat, rfl⟩; refine ⟨_, rfl, ?_⟩; have hz1 := blk_grown HZ.out hgr (Kd.R_ne HO.out HZ.out (by decide)); have n0_ := am (Kd.R_mono (ok' := fun _ => True) (Kd.R_far (p := ⟨gb, 0, none⟩) (Kd.R_types ho hz1 (by decide)) (fun _ hk => hk.2) v1_) (fun _ _ => trivial)); have n1_ := am (blk_put (cs' := #[v1_]) hz1 0 v1_ rfl); have n2_ := am (blk_far (p := ⟨gb, 0, none⟩) (blk_grown HP.out hgr (Kd.R_ne HO.out HP.out (by decide))) HN.out v1_); have n3_ := am (below_set (w := w0) (j := 0) (v := v1_) hb HG.out); have n4_ := am (Fr.set (Fr.grown HF.out hgr hat) v1_); clear HO HZ HP HB HF HL hz1 ho hb hgr hat; generalize (World.setCell w1_ ⟨gb, 0, none⟩ v1_) = w22 at n0_ n1_ n2_ n3_ n4_ ⊢; have HO := n0_; have HZ := n1_; have HP := n2_; have HB := n3_; have HF := n4_; clear n0_ n1_ n2_ n3_ n4_))
   go_roundg k1
   case measure => have := HK1.out; omega
   case rel => exact ⟨t2, (wrap64 (x12_1 + 1)), _, dr, H', ⟨by have := HK1.out; omega⟩, ⟨kR HO⟩, ⟨bp HZ⟩, ⟨bp HP⟩, ⟨iF HF⟩, ⟨bw HB⟩⟩
  rw [if_neg c10] at H
  exact absurd H (by simp)
 rw [if_neg c9] at H
 have c9b0 := decide_eq_false c9
 clear c9
 obtain rfl := oi H
 go_wp2
 go_end0
 obtain ⟨w1, h1, h2, h3, h4, h5⟩ := Fr.reset HF.out HX.out HZ.out HO.out (by decide) HB.out HG.out
 first | exact ⟨vv, w1, rfl, h1, h2, h3, h4, h5⟩ | exact ⟨rfl, vv, w1, h1, h2, h3, h4, h5⟩


mutual
def impl_AsmBytes.l0 : Nat → List (S80) → Int → Int → Int → List (S80) → List (List (S82)) → List Int → Option (ByteArray)
 | 0, _, _, _, _, _, _, _ => none
 | k + 1, x27, x28, x29, x643000, x643001, x643002, x645000 => if x29 < x28 then (if 0 ≤ x29 then (if x29 < (x27.length : Int) then ((impl_AsmBytes_1.f k (([(((rd_T80 x27 x29).f0).length : Int)] : List Int)) x645000).bind fun t657 => (impl_AsmBytes.l1 k x29 x27 x28 x29 ((rd_T80 x27 x29).f0) (((rd_T80 x27 x29).f0).length : Int) 0 x643000 x643001 x643002 t657 ((rd_T80 x27 x29).f0) ((rd_T80 x27 x29).f1) ((rd_T80 x27 x29).f2) ((rd_T80 x27 x29).f3) ((rd_T80 x27 x29).f4))) else (none)) else (none)) else (some (strOfNums x645000))
def impl_AsmBytes.l1 : Nat → Int → List (S80) → Int → Int → List (S84) → Int → Int → Int → List (S80) → List (List (S82)) → List Int → List (S84) → Int → Int → List (S82) → Int → Option (ByteArray)
 | 0, _, _, _, _, _, _, _, _, _, _, _, _, _, _, _, _ => none
 | k + 1, x8, x27, x28, x29, x41, x42, x43, x643000, x643001, x643002, x645000, x654000, x654001, x654002, x654003, x654004 => if x43 < x42 then (if 0 ≤ x43 then (if x43 < (x41.length : Int) then ((impl_AsmBytes_1.f k (([(rd_T84 x41 x43).f0, (rd_T84 x41 x43).f1.f0, (rd_T84 x41 x43).f1.f1] : List Int)) x645000).bind fun t665 => (impl_AsmBytes.l1 k x8 x27 x28 x29 x41 x42 (wrap64 (x43 + 1)) x643000 x643001 x643002 t665 x654000 x654001 x654002 x654003 x654004)) else (none)) else (none)) else ((impl_AsmBytes_1.f k (([x654001, x654002, x654004] : List Int)) x645000).bind fun t671 => ((impl_AsmBytes_2.f k x654003 t671).bind fun t674 => (if 0 ≤ x8 then (if x8 < (x643002.length : Int) then ((impl_AsmBytes_2.f k (rd_L17 x643002 x8) t674).bind fun t678 => (impl_AsmBytes.l0 k x27 x28 (wrap64 (x29 + 1)) x643000 x643001 x643002 t678)) else (none)) else (none))))
end
def impl_AsmBytes.f (k : Nat) (l0_0 : List (S121)) (a1_0 : Int) (l1_1 : List (S80)) (l1_2 : List (List (S82))) : Option (ByteArray) := (impl_AsmRight.f k l0_0 a1_0 l1_1 l1_2).bind fun t643 => (if t643 = true then ((impl_AsmBytes_1.f k (([a1_0, (l1_1.length : Int)] : List Int)) ([] : List Int)).bind fun t649 => (impl_AsmBytes.l0 k l1_1 (l1_1.length : Int) 0 a1_0 l1_1 l1_2 t649)) else (some (⟨#[]⟩ : ByteArray)))
theorem impl_AsmBytes.calls (k : Nat) (A0_0 : Option Addr) (c0_0 : Nat) (l0_0 : List (S121)) (a1_0 : Int) (A1_1 : Option Addr) (c1_1 : Nat) (l1_1 : List (S80)) (A1_2 : Option Addr) (c1_2 : Nat) (l1_2 : List (List (S82))) (r : ByteArray) (w : World) (hr0_0 : Kd.C k121 w A0_0 l0_0.length l0_0) (hc0_0 : l0_0.length ≤ c0_0) (hr1_1 : Kd.C k80 w A1_1 l1_1.length l1_1) (hc1_1 : l1_1.length ≤ c1_1) (hr1_2 : Kd.C (Kd.slice 82 k82) w A1_2 l1_2.length l1_2) (hc1_2 : l1_2.length ≤ c1_2) (h : impl_AsmBytes.f k l0_0 a1_0 l1_1 l1_2 = some r) :
  Calls Try.prog 21 #[.agg #[.slice A0_0 l0_0.length c0_0], .agg #[.int .i64 a1_0, .slice A1_1 l1_1.length c1_1, .slice A1_2 l1_2.length c1_2]] w fun e w' => e = .returned (.string r) ∧ Below w.heap.size w w' := by
 have hu32 := Try.underlying32
 have hu49 := Try.underlying49
 have hu80 := Try.underlying80
 have hu84 := Try.underlying84
 have hmf : ∀ (fn : Fn) (first cap : Array Value) (w : World), (Instr.makeFunc fn first cap).run Try.prog w = .ok (.func fn first cap) w := fun _ _ _ _ => rfl
 have HR0_0 := am hr0_0
 have HC0_0 := am hc0_0
 clear hr0_0 hc0_0
 have HR1_1 := am hr1_1
 have HC1_1 := am hc1_1
 clear hr1_1 hc1_1
 have HR1_2 := am hr1_2
 have HC1_2 := am hc1_2
 clear hr1_2 hc1_2
 have HB := am (Below.refl w.heap.size w)
 have H : ((impl_AsmRight.f k l0_0 a1_0 l1_1 l1_2).bind fun t643 => (if t643 = true then ((impl_AsmBytes_1.f k (([a1_0, (l1_1.length : Int)] : List Int)) ([] : List Int)).bind fun t649 => (impl_AsmBytes.l0 k l1_1 (l1_1.length : Int) 0 a1_0 l1_1 l1_2 t649)) else (some (⟨#[]⟩ : ByteArray)))) = some r := h
 clear h
 refine be H ?_; clear H; intro t643 A3 H
 have HC4 := am H
 clear H
 go_enter Try.func21, Try.ntmps21
 go_upto_if 15 with (first | ((with_reducible refine gd 2 rfl ?_); refine bX 2 #[.slice A0_0 l0_0.length c0_0] 32 HB ?_; clear HB; intro gb641 w5 hg hb BK641 GW641 HB; clear hb hg) | ((with_reducible refine gd 3 rfl ?_); refine bX 3 #[.int .i64 a1_0, .slice A1_1 l1_1.length c1_1, .slice A1_2 l1_2.length c1_2] 49 HB ?_; clear HB; intro gb642 w6 hg hb BK642 GW642 HB; obtain ⟨NB641_642, NB642_641, BK641⟩ := b3 hg BK641 hb; clear hb hg; have hnb7 := NB641_642.out; have hnc7 := NB642_641.out; have hcz8 := bK w6 BK641; have hfz8 := bF BK641; have hcz9 := bK w6 BK642; have hfz9 := bF BK642) | ((with_reducible refine gk 48 rfl ?_); refine gB 48 (some 14) Try.func48 #[.agg #[.slice A0_0 l0_0.length c0_0], .agg #[.int .i64 a1_0, .slice A1_1 l1_1.length c1_1, .slice A1_2 l1_2.length c1_2]] (impl_AsmRight.calls k _ _ l0_0 a1_0 _ _ l1_1 _ _ l1_2 t643 _ (cc (Kd.C_below HR0_0.out HB.out)) HC0_0.out (cc (Kd.C_below HR1_1.out HB.out)) HC1_1.out (cc (Kd.C_below HR1_2.out HB.out)) HC1_2.out A3.out) ?_; intro w10 hb; replace BK641 := bb BK641 hb; replace BK642 := bb BK642 hb; replace HB := bs HB hb; clear hb))
 (try simp only [Act.put, sa, sz, ss])
 have H := HC4.out
 clear HC4
 refine qT H ?_ ?_ <;> clear H <;> intro c11 H <;> subst c11
 ·obtain ⟨y646, hy646⟩ : ∃ y_ : List Int, y_ = (([a1_0, (l1_1.length : Int)] : List Int)) := ⟨_, rfl⟩
  replace H : ((impl_AsmBytes_1.f k y646 ([] : List Int)).bind fun t649 => (impl_AsmBytes.l0 k l1_1 (l1_1.length : Int) 0 a1_0 l1_1 l1_2 t649)) = some r := cg hy646 H
  have Ny646 := am hy646
  clear hy646
  refine be H ?_; clear H; intro t649 A12 H
  have H' := am H
  clear H
  go_wp2_with (first | ((with_reducible refine gd 5 rfl ?_); refine bX 5 #[.slice none 0 0] 75 HB ?_; clear HB; intro gb644 w13 hg hb BK644 GW644 HB; obtain ⟨NB641_644, NB644_641, BK641⟩ := b3 hg BK641 hb; obtain ⟨NB642_644, NB644_642, BK642⟩ := b3 hg BK642 hb; clear hb hg) | ((with_reducible refine gd 6 rfl ?_); refine bX 6 #[.nilFunc] 90 HB ?_; clear HB; intro gb645 w14 hg hb BK645 GW645 HB; obtain ⟨NB641_645, NB645_641, BK641⟩ := b3 hg BK641 hb; obtain ⟨NB642_645, NB645_642, BK642⟩ := b3 hg BK642 hb; obtain ⟨NB644_645, NB645_644, BK644⟩ := b3 hg BK644 hb; clear hb hg; have hnb15 := NB645_641.out; have hnc15 := NB641_645.out; have hnb16 := NB645_642.out; have hnc16 := NB642_645.out; have hnb17 := NB645_644.out; have hnc17 := NB644_645.out; have hcz18 := bK w14 BK645; have hfz18 := bF BK645; have hnb19 := NB642_641.out; have hnc19 := NB641_642.out; have hnb20 := NB642_644.out; have hnc20 := NB644_642.out; have hcz21 := bK w14 BK642; have hfz21 := bF BK642) | ((with_reducible refine gate_dst (N := 24) rfl ?_); refine Kd.R_lit (Kd.int .i64) _ 2 ?hg (N := 24) ?hd (xs := ([a1_0, (l1_1.length : Int)] : List Int)) (inner := [.int .i64 a1_0, .int .i64 (l1_1.length : Int)]) (ok := fun _ => True) (okp := fun _ => True) ?hr ?hp (fun _ hk => hk) trivial (Below.refl _ _) (Nat.le_refl _) (by simp) ?_; (case hd => rfl); (case hg => rfl); (case hr => exact gs); (case hp => exact (Reps.one (show Kd.M (Kd.int .i64) _ _ _ a1_0 [.int .i64 a1_0] from rfl) (Reps.one (show Kd.M (Kd.int .i64) _ _ _ (l1_1.length : Int) [.int .i64 (l1_1.length : Int)] from rfl) (Reps.none _ _)))); intro v647 w22 ho23 hb hg_ hnew_; clear hg_ hnew_; (first | rw [← Ny646.out] at ho23 | (simp only [Int.reduceToNat] at ho23; rw [← Ny646.out] at ho23)); have HO648 := am (Kd.R_lower ho23 (below_size (bw HB))); replace BK641 := bb2 BK641 hb; replace BK642 := bb2 BK642 hb; replace BK644 := bb2 BK644 hb; replace BK645 := bo #[.func (.func 49) #[] #[.pointer (some ⟨gb644, 0, none⟩)]] BK645 hb; replace HB := bs HB hb; clear hb ho23; obtain ⟨Ao24, co24, eo24⟩ := Kd.R_slice HO648.out; subst eo24) | ((with_reducible refine gate_calleeT (q := .tmp 18) rfl ?_); refine goesC_ (q := .tmp 18) (cap := #[.pointer (some ⟨gb644, 0, none⟩)]) (some 25) rfl rfl Try.func49 (by kernel_rfl) rfl rfl #[.slice Ao24 y646.length co24] #[.slice Ao24 y646.length co24, .pointer (some ⟨gb644, 0, none⟩)] rfl (by (try simp only [List.map_toArray, List.map_cons, List.map_nil]); first | done | rfl) (by simp only [List.append_toArray, List.cons_append, List.nil_append]) ?_; (refine (impl_AsmBytes_1.clo k _ _ y646 _ ([] : List Int) t649 w _ (bw HB) (kR HO648) (Kd.R_nil _ _ _ _ _) (bp BK644) GW644.out A12.out).mono ?_); rintro e w'_ ⟨v650, w1_, rfl, ho, hb, hgr, hat, rfl⟩; refine ⟨_, rfl, ?_⟩; clear hat; have hz26 := blk_grown (bp BK644) hgr (by simp [Value.ownBlock]); replace BK641 := am (blk_far (p := ⟨gb644, 0, none⟩) (blk_grown (g := gb641) (o := .cells #[.slice A0_0 l0_0.length c0_0] 32 (0, 0)) (bp BK641) hgr (by simp [Value.ownBlock])) NB641_644.out v650); replace BK642 := am (blk_far (p := ⟨gb644, 0, none⟩) (blk_grown (g := gb642) (o := .cells #[.int .i64 a1_0, .slice A1_1 l1_1.length c1_1, .slice A1_2 l1_2.length c1_2] 49 (0, 0)) (bp BK642) hgr (by simp [Value.ownBlock])) NB642_644.out v650); replace BK644 := am (blk_put (cs' := #[v650]) hz26 0 v650 rfl); replace BK645 := am (blk_far (p := ⟨gb644, 0, none⟩) (blk_grown (g := gb645) (o := .cells #[.func (.func 49) #[] #[.pointer (some ⟨gb644, 0, none⟩)]] 90 (0, 0)) (bp BK645) hgr (by simp [Value.ownBlock])) NB645_644.out v650); replace HO648 := am (Kd.R_set (Kd.R_grown (kR HO648) hgr (fun _ _ => by simp [Value.ownBlock])) hz26 (by decide) 0 v650); replace HB := am (below_set (w := w) (j := 0) (v := v650) hb GW644.out); have HO651 := am (Kd.R_set (t := 75) ho hz26 (by decide) 0 v650); generalize (World.setCell w1_ ⟨gb644, 0, none⟩ v650) = w25 at BK641 BK642 BK644 BK645 HO648 HB HO651 ⊢; clear ho hb hgr hz26; have hcz27 := bK w25 BK642; have hfz27 := bF BK642))
  go_loopg [29] k (fun kq v29 w' => ∃ (x29_1 : Int) (x645000_1 : List Int) (u645000 : Value), v29 = .int .i64 x29_1 ∧ Aside0 (impl_AsmBytes.l0 kq l1_1 (l1_1.length : Int) x29_1 a1_0 l1_1 l1_2 x645000_1 = some r) ∧ Aside0 (kq ≤ k) ∧ Aside0 (Kd.R (Kd.int .u8) 5 w' w.heap.size (fun _ => True) u645000 x645000_1) ∧ Aside0 (w'.heap[gb641]? = some (.cells #[(.slice A0_0 l0_0.length c0_0)] 32 (0, 0))) ∧ Aside0 (w'.heap[gb642]? = some (.cells #[.int .i64 a1_0, (.slice A1_1 l1_1.length c1_1), (.slice A1_2 l1_2.length c1_2)] 49 (0, 0))) ∧ Aside0 (w'.heap[gb644]? = some (.cells #[u645000] 75 (0, 0))) ∧ Aside0 (w'.heap[gb645]? = some (.cells #[(.func (.func 49) #[] #[.pointer (some ⟨gb644, 0, none⟩)])] 90 (0, 0))) ∧ Aside0 (Below w.heap.size w w'))
  case atStart => exact ⟨(0), (t649), (v650), dr, H', ⟨Nat.le_refl _⟩, ⟨kR HO651⟩, ⟨bp BK641⟩, ⟨bp BK642⟩, ⟨bp BK644⟩, ⟨bp BK645⟩, ⟨bw HB⟩⟩
  clear H'
  obtain ⟨x29_1, x645000_1, u645000, rfl, HA, HK1, HO_645000, BK641, BK642, BK644, BK645, HB⟩ := hrel
  rcases gk with _ | k1
  ·exact absurd HA.out (by simp [impl_AsmBytes.l0])
  have H := HA.out
  clear HA
  simp only [impl_AsmBytes.l0] at H
  by_cases c28 : x29_1 < (l1_1.length : Int)
  ·rw [if_pos c28] at H
   have c28b0 := decide_eq_true c28
   clear c28
   (first | rw [c28b0] | (simp only [i64_w, i32_w]; rw [c28b0]) | skip)
   refine iN H ?_; clear H; intro c29 H
   have c29b0 := decide_eq_true c29
   clear c29
   refine iN H ?_; clear H; intro c30 H
   have c30b0 := decide_eq_true c30
   clear c30
   obtain ⟨y654, hy654⟩ : ∃ y_ : List Int, y_ = (([(((rd_T80 l1_1 x29_1).f0).length : Int)] : List Int)) := ⟨_, rfl⟩
   replace H : ((impl_AsmBytes_1.f k1 y654 x645000_1).bind fun t657 => (impl_AsmBytes.l1 k1 x29_1 l1_1 (l1_1.length : Int) x29_1 ((rd_T80 l1_1 x29_1).f0) (((rd_T80 l1_1 x29_1).f0).length : Int) 0 a1_0 l1_1 l1_2 t657 ((rd_T80 l1_1 x29_1).f0) ((rd_T80 l1_1 x29_1).f1) ((rd_T80 l1_1 x29_1).f2) ((rd_T80 l1_1 x29_1).f3) ((rd_T80 l1_1 x29_1).f4))) = some r := cg hy654 H
   have Ny654 := am hy654
   clear hy654
   refine be H ?_; clear H; intro t657 A31 H
   have H' := am H
   clear H
   have p652 : 0 ≤ (x29_1 : Int) := dt
   have q652 : x29_1 < (l1_1.length : Int) := dt
   obtain ⟨ad652, A652_0, c652_0, A652_3, c652_3, e652, hx652_0, hx652_1, hx652_2, hx652_3, hx652_4, hl652_0, hi652_0, hl652_3, hi652_3⟩ := at_T80 HR1_1.out x29_1 p652 q652
   cases e652
   replace hx652_0 := cl HB hx652_0
   replace hx652_1 := cl HB hx652_1
   replace hx652_2 := cl HB hx652_2
   replace hx652_3 := cl HB hx652_3
   replace hx652_4 := cl HB hx652_4
   have HR652_0 := am hi652_0
   have HC652_0 := am hl652_0
   clear hi652_0 hl652_0
   have HR652_3 := am hi652_3
   have HC652_3 := am hl652_3
   clear hi652_3 hl652_3
   replace p652 := eq_true p652
   replace q652 := eq_true q652
   go_wp2_with (first | ((with_reducible refine gd 9 rfl ?_); refine bX 9 #[.slice none 0 0, .int .i64 0, .int .i64 0, .slice none 0 0, .int .i64 0] 80 HB ?_; clear HB; intro gb653 w32 hg hb BK653 GW653 HB; replace HO_645000 := am (Kd.R_below (kR HO_645000) hb); obtain ⟨NB641_653, NB653_641, BK641⟩ := b3 hg BK641 hb; obtain ⟨NB642_653, NB653_642, BK642⟩ := b3 hg BK642 hb; obtain ⟨NB644_653, NB653_644, BK644⟩ := b3 hg BK644 hb; obtain ⟨NB645_653, NB653_645, BK645⟩ := b3 hg BK645 hb; clear hb hg; have hnb33 := NB653_641.out; have hnc33 := NB641_653.out; have hnb34 := NB653_642.out; have hnc34 := NB642_653.out; have hnb35 := NB653_644.out; have hnc35 := NB644_653.out; have hnb36 := NB653_645.out; have hnc36 := NB645_653.out; have hcz37_0 := bk w32 BK653 0; have hcz37_1 := bk w32 BK653 1; have hcz37_2 := bk w32 BK653 2; have hcz37_3 := bk w32 BK653 3; have hcz37_4 := bk w32 BK653 4; have hfz37_0 := bf BK653 0; have hfz37_1 := bf BK653 1; have hfz37_2 := bf BK653 2; have hfz37_3 := bf BK653 3; have hfz37_4 := bf BK653 4; have hnb38 := NB645_641.out; have hnc38 := NB641_645.out; have hnb39 := NB645_642.out; have hnc39 := NB642_645.out; have hnb40 := NB645_644.out; have hnc40 := NB644_645.out; have hcz41 := bK w32 BK645; have hfz41 := bF BK645) | ((with_reducible refine gate_dst (N := 38) rfl ?_); refine Kd.R_lit (Kd.int .i64) _ 2 ?hg (N := 38) ?hd (xs := ([(((rd_T80 l1_1 x29_1).f0).length : Int)] : List Int)) (inner := [.int .i64 (((rd_T80 l1_1 x29_1).f0).length : Int)]) (ok := fun _ => True) (okp := fun _ => True) ?hr ?hp (fun _ hk => hk) trivial (Below.refl _ _) (Nat.le_refl _) (by simp) ?_; (case hd => rfl); (case hg => rfl); (case hr => exact gs); (case hp => exact (Reps.one (show Kd.M (Kd.int .i64) _ _ _ (((rd_T80 l1_1 x29_1).f0).length : Int) [.int .i64 (((rd_T80 l1_1 x29_1).f0).length : Int)] from rfl) (Reps.none _ _))); intro v655 w42 ho43 hb hg_ hnew_; clear hg_ hnew_; (first | rw [← Ny654.out] at ho43 | (simp only [Int.reduceToNat] at ho43; rw [← Ny654.out] at ho43)); replace HO_645000 := am (Kd.R_below (by (with_reducible repeat (first | apply Kd.R_alloc | apply Kd.R_drewN | apply Kd.R_drew)); exact (Kd.R_mono (Kd.R_far (p := ⟨gb653, 4, none⟩) (Kd.R_far (p := ⟨gb653, 3, none⟩) (Kd.R_far (p := ⟨gb653, 2, none⟩) (Kd.R_far (p := ⟨gb653, 1, none⟩) (Kd.R_far (p := ⟨gb653, 0, none⟩) (Kd.R_types HO_645000.out BK653.out (by decide)) (fun _ hk => hk.2) (.slice A652_0 ((rd_T80 l1_1 x29_1).f0).length c652_0)) (fun _ hk => hk.2) (.int .i64 ((rd_T80 l1_1 x29_1).f1))) (fun _ hk => hk.2) (.int .i64 ((rd_T80 l1_1 x29_1).f2))) (fun _ hk => hk.2) (.slice A652_3 ((rd_T80 l1_1 x29_1).f3).length c652_3)) (fun _ hk => hk.2) (.int .i64 ((rd_T80 l1_1 x29_1).f4))) (fun _ h_ => h_.1))) hb); have HO656 := am (Kd.R_lower ho43 (below_size (bw HB))); replace BK641 := bb2 BK641 hb; replace BK642 := bb2 BK642 hb; replace BK644 := bb2 BK644 hb; replace BK645 := bb2 BK645 hb; replace BK653 := bo #[.slice A652_0 ((rd_T80 l1_1 x29_1).f0).length c652_0, .int .i64 ((rd_T80 l1_1 x29_1).f1), .int .i64 ((rd_T80 l1_1 x29_1).f2), .slice A652_3 ((rd_T80 l1_1 x29_1).f3).length c652_3, .int .i64 ((rd_T80 l1_1 x29_1).f4)] BK653 hb; replace HB := bs HB hb; clear hb ho43; obtain ⟨Ao44, co44, eo44⟩ := Kd.R_slice HO656.out; subst eo44) | ((with_reducible refine gate_calleeT (q := .tmp 34) rfl ?_); refine goesC_ (q := .tmp 34) (cap := #[.pointer (some ⟨gb644, 0, none⟩)]) (some 39) rfl rfl Try.func49 (by kernel_rfl) rfl rfl #[.slice Ao44 y654.length co44] #[.slice Ao44 y654.length co44, .pointer (some ⟨gb644, 0, none⟩)] rfl (by (try simp only [List.map_toArray, List.map_cons, List.map_nil]); first | done | rfl) (by simp only [List.append_toArray, List.cons_append, List.nil_append]) ?_; (refine (impl_AsmBytes_1.clo k1 _ _ y654 _ x645000_1 t657 w _ (bw HB) (kR HO656) (Kd.R_mono (ok' := fun _ => True) (kR HO_645000) (fun _ _ => trivial)) (bp BK644) GW644.out A31.out).mono ?_); rintro e w'_ ⟨v658, w1_, rfl, ho, hb, hgr, hat, rfl⟩; refine ⟨_, rfl, ?_⟩; clear hat; have hz46 := blk_grown (bp BK644) hgr (Kd.R_ne HO_645000.out BK644.out (by decide)); replace BK641 := am (blk_far (p := ⟨gb644, 0, none⟩) (blk_grown (g := gb641) (o := .cells #[.slice A0_0 l0_0.length c0_0] 32 (0, 0)) (bp BK641) hgr (Kd.R_ne HO_645000.out BK641.out (by decide))) NB641_644.out v658); replace BK642 := am (blk_far (p := ⟨gb644, 0, none⟩) (blk_grown (g := gb642) (o := .cells #[.int .i64 a1_0, .slice (some ad652) l1_1.length c1_1, .slice A1_2 l1_2.length c1_2] 49 (0, 0)) (bp BK642) hgr (Kd.R_ne HO_645000.out BK642.out (by decide))) NB642_644.out v658); replace BK644 := am (blk_put (cs' := #[v658]) hz46 0 v658 rfl); replace BK645 := am (blk_far (p := ⟨gb644, 0, none⟩) (blk_grown (g := gb645) (o := .cells #[(.func (.func 49) #[] #[.pointer (some ⟨gb644, 0, none⟩)])] 90 (0, 0)) (bp BK645) hgr (Kd.R_ne HO_645000.out BK645.out (by decide))) NB645_644.out v658); replace BK653 := am (blk_far (p := ⟨gb644, 0, none⟩) (blk_grown (g := gb653) (o := .cells #[.slice A652_0 ((rd_T80 l1_1 x29_1).f0).length c652_0, .int .i64 ((rd_T80 l1_1 x29_1).f1), .int .i64 ((rd_T80 l1_1 x29_1).f2), .slice A652_3 ((rd_T80 l1_1 x29_1).f3).length c652_3, .int .i64 ((rd_T80 l1_1 x29_1).f4)] 80 (0, 0)) (bp BK653) hgr (Kd.R_ne HO_645000.out BK653.out (by decide))) NB653_644.out v658); replace HO656 := am (Kd.R_set (Kd.R_over' (v := u645000) (kR HO656) (Kd.R_typed HO_645000.out) (by decide) hgr) hz46 (by decide) 0 v658); replace HB := am (below_set (w := w) (j := 0) (v := v658) hb GW644.out); have HO659 := am (Kd.R_set (t := 75) ho hz46 (by decide) 0 v658); clear HO_645000; generalize (World.setCell w1_ ⟨gb644, 0, none⟩ v658) = w45 at BK641 BK642 BK644 BK645 BK653 HO656 HB HO659 ⊢; clear ho hb hgr hz46; have hcz47_0 := bk w45 BK653 0; have hcz47_1 := bk w45 BK653 1; have hcz47_2 := bk w45 BK653 2; have hcz47_3 := bk w45 BK653 3; have hcz47_4 := bk w45 BK653 4; have hfz47_0 := bf BK653 0; have hfz47_1 := bf BK653 1; have hfz47_2 := bf BK653 2; have hfz47_3 := bf BK653 3; have hfz47_4 := bf BK653 4))
   go_loopg [43] k1 (fun kq v43 w' => ∃ (x43_2 : Int) (x645000_2 : List Int) (u645000 : Value), v43 = .int .i64 x43_2 ∧ Aside0 (impl_AsmBytes.l1 kq x29_1 l1_1 (l1_1.length : Int) x29_1 ((rd_T80 l1_1 x29_1).f0) (((rd_T80 l1_1 x29_1).f0).length : Int) x43_2 a1_0 l1_1 l1_2 x645000_2 ((rd_T80 l1_1 x29_1).f0) ((rd_T80 l1_1 x29_1).f1) ((rd_T80 l1_1 x29_1).f2) ((rd_T80 l1_1 x29_1).f3) ((rd_T80 l1_1 x29_1).f4) = some r) ∧ Aside0 (kq ≤ k1) ∧ Aside0 (Kd.R (Kd.int .u8) 5 w' w.heap.size (fun _ => True) u645000 x645000_2) ∧ Aside0 (w'.heap[gb641]? = some (.cells #[(.slice A0_0 l0_0.length c0_0)] 32 (0, 0))) ∧ Aside0 (w'.heap[gb642]? = some (.cells #[.int .i64 a1_0, (.slice (some ad652) l1_1.length c1_1), (.slice A1_2 l1_2.length c1_2)] 49 (0, 0))) ∧ Aside0 (w'.heap[gb644]? = some (.cells #[u645000] 75 (0, 0))) ∧ Aside0 (w'.heap[gb645]? = some (.cells #[(.func (.func 49) #[] #[.pointer (some ⟨gb644, 0, none⟩)])] 90 (0, 0))) ∧ Aside0 (w'.heap[gb653]? = some (.cells #[(.slice A652_0 ((rd_T80 l1_1 x29_1).f0).length c652_0), .int .i64 ((rd_T80 l1_1 x29_1).f1), .int .i64 ((rd_T80 l1_1 x29_1).f2), (.slice A652_3 ((rd_T80 l1_1 x29_1).f3).length c652_3), .int .i64 ((rd_T80 l1_1 x29_1).f4)] 80 (0, 0))) ∧ Aside0 (Below w.heap.size w w'))
   case atStart => exact ⟨(0), (t657), (v658), dr, H', ⟨Nat.le_refl _⟩, ⟨kR HO659⟩, ⟨bp BK641⟩, ⟨bp BK642⟩, ⟨bp BK644⟩, ⟨bp BK645⟩, ⟨bp BK653⟩, ⟨bw HB⟩⟩
   clear H'
   obtain ⟨x43_2, x645000_2, u645000, rfl, HA, HK2, HO_645000, BK641, BK642, BK644, BK645, BK653, HB⟩ := hrel
   rcases gk with _ | k2
   ·exact absurd HA.out (by simp [impl_AsmBytes.l1])
   have H := HA.out
   clear HA
   simp only [impl_AsmBytes.l1] at H
   refine qI H ?_ ?_ <;> clear H <;> intro c48b0 H
   ·refine iM H ?_; clear H; intro c49b0 H
    refine iM H ?_; clear H; intro c50b0 H
    obtain ⟨y662, hy662⟩ : ∃ y_ : List Int, y_ = (([(rd_T84 ((rd_T80 l1_1 x29_1).f0) x43_2).f0, (rd_T84 ((rd_T80 l1_1 x29_1).f0) x43_2).f1.f0, (rd_T84 ((rd_T80 l1_1 x29_1).f0) x43_2).f1.f1] : List Int)) := ⟨_, rfl⟩
    replace H : ((impl_AsmBytes_1.f k2 y662 x645000_2).bind fun t665 => (impl_AsmBytes.l1 k2 x29_1 l1_1 (l1_1.length : Int) x29_1 ((rd_T80 l1_1 x29_1).f0) (((rd_T80 l1_1 x29_1).f0).length : Int) (wrap64 (x43_2 + 1)) a1_0 l1_1 l1_2 t665 ((rd_T80 l1_1 x29_1).f0) ((rd_T80 l1_1 x29_1).f1) ((rd_T80 l1_1 x29_1).f2) ((rd_T80 l1_1 x29_1).f3) ((rd_T80 l1_1 x29_1).f4))) = some r := cg hy662 H
    have Ny662 := am hy662
    clear hy662
    refine be H ?_; clear H; intro t665 A51 H
    have H' := am H
    clear H
    have p660 : 0 ≤ (x43_2 : Int) := dt
    have q660 : x43_2 < (((rd_T80 l1_1 x29_1).f0).length : Int) := dt
    obtain ⟨ad660, e660, hx660_0, hx660_1, hx660_2⟩ := at_T84 HR652_0.out x43_2 p660 q660
    cases e660
    replace hx660_0 := cl HB hx660_0
    replace hx660_1 := cl HB hx660_1
    replace hx660_2 := cl HB hx660_2
    replace p660 := eq_true p660
    replace q660 := eq_true q660
    go_wp2_with (first | ((with_reducible refine gd 11 rfl ?_); refine bX 11 #[.int .i64 0, .int .i64 0, .int .i64 0] 84 HB ?_; clear HB; intro gb661 w52 hg hb BK661 GW661 HB; replace HO_645000 := am (Kd.R_below (kR HO_645000) hb); obtain ⟨NB641_661, NB661_641, BK641⟩ := b3 hg BK641 hb; obtain ⟨NB642_661, NB661_642, BK642⟩ := b3 hg BK642 hb; obtain ⟨NB644_661, NB661_644, BK644⟩ := b3 hg BK644 hb; obtain ⟨NB645_661, NB661_645, BK645⟩ := b3 hg BK645 hb; obtain ⟨NB653_661, NB661_653, BK653⟩ := b3 hg BK653 hb; clear hb hg; have hnb53 := NB661_641.out; have hnc53 := NB641_661.out; have hnb54 := NB661_642.out; have hnc54 := NB642_661.out; have hnb55 := NB661_644.out; have hnc55 := NB644_661.out; have hnb56 := NB661_645.out; have hnc56 := NB645_661.out; have hnb57 := NB661_653.out; have hnc57 := NB653_661.out; have hcz58 := bK w52 BK661; have hfz58 := bF BK661; have hnb59 := NB645_641.out; have hnc59 := NB641_645.out; have hnb60 := NB645_642.out; have hnc60 := NB642_645.out; have hnb61 := NB645_644.out; have hnc61 := NB644_645.out; have hnb62 := NB645_653.out; have hnc62 := NB653_645.out; have hcz63 := bK w52 BK645; have hfz63 := bF BK645) | ((with_reducible refine gate_dst (N := 56) rfl ?_); refine Kd.R_lit (Kd.int .i64) _ 2 ?hg (N := 56) ?hd (xs := ([(rd_T84 ((rd_T80 l1_1 x29_1).f0) x43_2).f0, (rd_T84 ((rd_T80 l1_1 x29_1).f0) x43_2).f1.f0, (rd_T84 ((rd_T80 l1_1 x29_1).f0) x43_2).f1.f1] : List Int)) (inner := [.int .i64 ((rd_T84 ((rd_T80 l1_1 x29_1).f0) x43_2).f0), .int .i64 ((rd_T84 ((rd_T80 l1_1 x29_1).f0) x43_2).f1.f0), .int .i64 ((rd_T84 ((rd_T80 l1_1 x29_1).f0) x43_2).f1.f1)]) (ok := fun _ => True) (okp := fun _ => True) ?hr ?hp (fun _ hk => hk) trivial (Below.refl _ _) (Nat.le_refl _) (by simp) ?_; (case hd => rfl); (case hg => rfl); (case hr => exact gs); (case hp => exact (Reps.one (show Kd.M (Kd.int .i64) _ _ _ ((rd_T84 ((rd_T80 l1_1 x29_1).f0) x43_2).f0) [.int .i64 ((rd_T84 ((rd_T80 l1_1 x29_1).f0) x43_2).f0)] from rfl) (Reps.one (show Kd.M (Kd.int .i64) _ _ _ ((rd_T84 ((rd_T80 l1_1 x29_1).f0) x43_2).f1.f0) [.int .i64 ((rd_T84 ((rd_T80 l1_1 x29_1).f0) x43_2).f1.f0)] from rfl) (Reps.one (show Kd.M (Kd.int .i64) _ _ _ ((rd_T84 ((rd_T80 l1_1 x29_1).f0) x43_2).f1.f1) [.int .i64 ((rd_T84 ((rd_T80 l1_1 x29_1).f0) x43_2).f1.f1)] from rfl) (Reps.none _ _))))); intro v663 w64 ho65 hb hg_ hnew_; clear hg_ hnew_; (first | rw [← Ny662.out] at ho65 | (simp only [Int.reduceToNat] at ho65; rw [← Ny662.out] at ho65)); replace HO_645000 := am (Kd.R_below (by (with_reducible repeat (first | apply Kd.R_alloc | apply Kd.R_drewN | apply Kd.R_drew)); exact (Kd.R_mono (Kd.R_far (p := ⟨gb661, 2, none⟩) (Kd.R_far (p := ⟨gb661, 1, none⟩) (Kd.R_far (p := ⟨gb661, 0, none⟩) (Kd.R_types HO_645000.out BK661.out (by decide)) (fun _ hk => hk.2) (.int .i64 ((rd_T84 ((rd_T80 l1_1 x29_1).f0) x43_2).f0))) (fun _ hk => hk.2) (.int .i64 ((rd_T84 ((rd_T80 l1_1 x29_1).f0) x43_2).f1.f0))) (fun _ hk => hk.2) (.int .i64 ((rd_T84 ((rd_T80 l1_1 x29_1).f0) x43_2).f1.f1))) (fun _ h_ => h_.1))) hb); have HO664 := am (Kd.R_lower ho65 (below_size (bw HB))); replace BK641 := bb2 BK641 hb; replace BK642 := bb2 BK642 hb; replace BK644 := bb2 BK644 hb; replace BK645 := bb2 BK645 hb; replace BK653 := bb2 BK653 hb; replace BK661 := bo #[.int .i64 ((rd_T84 ((rd_T80 l1_1 x29_1).f0) x43_2).f0), .int .i64 ((rd_T84 ((rd_T80 l1_1 x29_1).f0) x43_2).f1.f0), .int .i64 ((rd_T84 ((rd_T80 l1_1 x29_1).f0) x43_2).f1.f1)] BK661 hb; replace HB := bs HB hb; clear hb ho65; obtain ⟨Ao66, co66, eo66⟩ := Kd.R_slice HO664.out; subst eo66) | ((with_reducible refine gate_calleeT (q := .tmp 47) rfl ?_); refine goesC_ (q := .tmp 47) (cap := #[.pointer (some ⟨gb644, 0, none⟩)]) (some 57) rfl rfl Try.func49 (by kernel_rfl) rfl rfl #[.slice Ao66 y662.length co66] #[.slice Ao66 y662.length co66, .pointer (some ⟨gb644, 0, none⟩)] rfl (by (try simp only [List.map_toArray, List.map_cons, List.map_nil]); first | done | rfl) (by simp only [List.append_toArray, List.cons_append, List.nil_append]) ?_; (refine (impl_AsmBytes_1.clo k2 _ _ y662 _ x645000_2 t665 w _ (bw HB) (kR HO664) (Kd.R_mono (ok' := fun _ => True) (kR HO_645000) (fun _ _ => trivial)) (bp BK644) GW644.out A51.out).mono ?_); rintro e w'_ ⟨v666, w1_, rfl, ho, hb, hgr, hat, rfl⟩; refine ⟨_, rfl, ?_⟩; clear hat; have hz68 := blk_grown (bp BK644) hgr (Kd.R_ne HO_645000.out BK644.out (by decide)); replace BK641 := am (blk_far (p := ⟨gb644, 0, none⟩) (blk_grown (g := gb641) (o := .cells #[.slice A0_0 l0_0.length c0_0] 32 (0, 0)) (bp BK641) hgr (Kd.R_ne HO_645000.out BK641.out (by decide))) NB641_644.out v666); replace BK642 := am (blk_far (p := ⟨gb644, 0, none⟩) (blk_grown (g := gb642) (o := .cells #[.int .i64 a1_0, .slice (some ad652) l1_1.length c1_1, .slice A1_2 l1_2.length c1_2] 49 (0, 0)) (bp BK642) hgr (Kd.R_ne HO_645000.out BK642.out (by decide))) NB642_644.out v666); replace BK644 := am (blk_put (cs' := #[v666]) hz68 0 v666 rfl); replace BK645 := am (blk_far (p := ⟨gb644, 0, none⟩) (blk_grown (g := gb645) (o := .cells #[(.func (.func 49) #[] #[.pointer (some ⟨gb644, 0, none⟩)])] 90 (0, 0)) (bp BK645) hgr (Kd.R_ne HO_645000.out BK645.out (by decide))) NB645_644.out v666); replace BK653 := am (blk_far (p := ⟨gb644, 0, none⟩) (blk_grown (g := gb653) (o := .cells #[.slice (some ad660) ((rd_T80 l1_1 x29_1).f0).length c652_0, .int .i64 ((rd_T80 l1_1 x29_1).f1), .int .i64 ((rd_T80 l1_1 x29_1).f2), .slice A652_3 ((rd_T80 l1_1 x29_1).f3).length c652_3, .int .i64 ((rd_T80 l1_1 x29_1).f4)] 80 (0, 0)) (bp BK653) hgr (Kd.R_ne HO_645000.out BK653.out (by decide))) NB653_644.out v666); replace BK661 := am (blk_far (p := ⟨gb644, 0, none⟩) (blk_grown (g := gb661) (o := .cells #[.int .i64 ((rd_T84 ((rd_T80 l1_1 x29_1).f0) x43_2).f0), .int .i64 ((rd_T84 ((rd_T80 l1_1 x29_1).f0) x43_2).f1.f0), .int .i64 ((rd_T84 ((rd_T80 l1_1 x29_1).f0) x43_2).f1.f1)] 84 (0, 0)) (bp BK661) hgr (Kd.R_ne HO_645000.out BK661.out (by decide))) NB661_644.out v666); replace HO664 := am (Kd.R_set (Kd.R_over' (v := u645000) (kR HO664) (Kd.R_typed HO_645000.out) (by decide) hgr) hz68 (by decide) 0 v666); replace HB := am (below_set (w := w) (j := 0) (v := v666) hb GW644.out); have HO667 := am (Kd.R_set (t := 75) ho hz68 (by decide) 0 v666); clear HO_645000; generalize (World.setCell w1_ ⟨gb644, 0, none⟩ v666) = w67 at BK641 BK642 BK644 BK645 BK653 BK661 HO664 HB HO667 ⊢; clear ho hb hgr hz68))
    go_roundg k2
    case measure => have := HK1.out; have := HK2.out; omega
    case rel => exact ⟨(wrap64 (x43_2 + 1)), (t665), (v666), dr, H', ⟨by have := HK1.out; have := HK2.out; omega⟩, ⟨kR HO667⟩, ⟨bp BK641⟩, ⟨bp BK642⟩, ⟨bp BK644⟩, ⟨bp BK645⟩, ⟨bp BK653⟩, ⟨bw HB⟩⟩
   obtain ⟨y668, hy668⟩ : ∃ y_ : List Int, y_ = (([((rd_T80 l1_1 x29_1).f1), ((rd_T80 l1_1 x29_1).f2), ((rd_T80 l1_1 x29_1).f4)] : List Int)) := ⟨_, rfl⟩
   replace H : ((impl_AsmBytes_1.f k2 y668 x645000_2).bind fun t671 => ((impl_AsmBytes_2.f k2 ((rd_T80 l1_1 x29_1).f3) t671).bind fun t674 => (if 0 ≤ x29_1 then (if x29_1 < (l1_2.length : Int) then ((impl_AsmBytes_2.f k2 (rd_L17 l1_2 x29_1) t674).bind fun t678 => (impl_AsmBytes.l0 k2 l1_1 (l1_1.length : Int) (wrap64 (x29_1 + 1)) a1_0 l1_1 l1_2 t678)) else (none)) else (none)))) = some r := cg hy668 H
   have Ny668 := am hy668
   clear hy668
   refine be H ?_; clear H; intro t671 A69 H
   refine be H ?_; clear H; intro t674 A70 H
   refine iM H ?_; clear H; intro c71b0 H
   refine iM H ?_; clear H; intro c72b0 H
   refine be H ?_; clear H; intro t678 A73 H
   have H' := am H
   clear H
   have hnb74 := NB645_641.out
   have hnc74 := NB641_645.out
   have hnb75 := NB645_642.out
   have hnc75 := NB642_645.out
   have hnb76 := NB645_644.out
   have hnc76 := NB644_645.out
   have hnb77 := NB645_653.out
   have hnc77 := NB653_645.out
   have hcz78 := bK wr BK645
   have hfz78 := bF BK645
   have hnb79 := NB653_641.out
   have hnc79 := NB641_653.out
   have hnb80 := NB653_642.out
   have hnc80 := NB642_653.out
   have hnb81 := NB653_644.out
   have hnc81 := NB644_653.out
   have hcz82_0 := bk wr BK653 0
   have hcz82_1 := bk wr BK653 1
   have hcz82_2 := bk wr BK653 2
   have hcz82_3 := bk wr BK653 3
   have hcz82_4 := bk wr BK653 4
   have hfz82_0 := bf BK653 0
   have hfz82_1 := bf BK653 1
   have hfz82_2 := bf BK653 2
   have hfz82_3 := bf BK653 3
   have hfz82_4 := bf BK653 4
   go_wp2_with (first | ((with_reducible refine gate_dst (N := 66) rfl ?_); refine Kd.R_lit (Kd.int .i64) _ 2 ?hg (N := 66) ?hd (xs := ([((rd_T80 l1_1 x29_1).f1), ((rd_T80 l1_1 x29_1).f2), ((rd_T80 l1_1 x29_1).f4)] : List Int)) (inner := [.int .i64 ((rd_T80 l1_1 x29_1).f1), .int .i64 ((rd_T80 l1_1 x29_1).f2), .int .i64 ((rd_T80 l1_1 x29_1).f4)]) (ok := fun _ => True) (okp := fun _ => True) ?hr ?hp (fun _ hk => hk) trivial (Below.refl _ _) (Nat.le_refl _) (by simp) ?_; (case hd => rfl); (case hg => rfl); (case hr => exact gs); (case hp => exact (Reps.one (show Kd.M (Kd.int .i64) _ _ _ ((rd_T80 l1_1 x29_1).f1) [.int .i64 ((rd_T80 l1_1 x29_1).f1)] from rfl) (Reps.one (show Kd.M (Kd.int .i64) _ _ _ ((rd_T80 l1_1 x29_1).f2) [.int .i64 ((rd_T80 l1_1 x29_1).f2)] from rfl) (Reps.one (show Kd.M (Kd.int .i64) _ _ _ ((rd_T80 l1_1 x29_1).f4) [.int .i64 ((rd_T80 l1_1 x29_1).f4)] from rfl) (Reps.none _ _))))); intro v669 w83 ho84 hb hg_ hnew_; clear hg_ hnew_; (first | rw [← Ny668.out] at ho84 | (simp only [Int.reduceToNat] at ho84; rw [← Ny668.out] at ho84)); replace HO_645000 := am (Kd.R_below (kR HO_645000) hb); have HO670 := am (Kd.R_lower ho84 (below_size (bw HB))); replace BK641 := bb BK641 hb; replace BK642 := bb BK642 hb; replace BK644 := bb BK644 hb; replace BK645 := bb BK645 hb; replace BK653 := bb BK653 hb; replace HB := bs HB hb; clear hb ho84; obtain ⟨Ao85, co85, eo85⟩ := Kd.R_slice HO670.out; subst eo85) | ((with_reducible refine gate_calleeT (q := .tmp 59) rfl ?_); refine goesC_ (q := .tmp 59) (cap := #[.pointer (some ⟨gb644, 0, none⟩)]) (some 67) rfl rfl Try.func49 (by kernel_rfl) rfl rfl #[.slice Ao85 y668.length co85] #[.slice Ao85 y668.length co85, .pointer (some ⟨gb644, 0, none⟩)] rfl (by (try simp only [List.map_toArray, List.map_cons, List.map_nil]); first | done | rfl) (by simp only [List.append_toArray, List.cons_append, List.nil_append]) ?_; (refine (impl_AsmBytes_1.clo k2 _ _ y668 _ x645000_2 t671 w _ (bw HB) (kR HO670) (Kd.R_mono (ok' := fun _ => True) (kR HO_645000) (fun _ _ => trivial)) (bp BK644) GW644.out A69.out).mono ?_); rintro e w'_ ⟨v672, w1_, rfl, ho, hb, hgr, hat, rfl⟩; refine ⟨_, rfl, ?_⟩; clear hat; have hz87 := blk_grown (bp BK644) hgr (Kd.R_ne HO_645000.out BK644.out (by decide)); replace BK641 := am (blk_far (p := ⟨gb644, 0, none⟩) (blk_grown (g := gb641) (o := .cells #[.slice A0_0 l0_0.length c0_0] 32 (0, 0)) (bp BK641) hgr (Kd.R_ne HO_645000.out BK641.out (by decide))) NB641_644.out v672); replace BK642 := am (blk_far (p := ⟨gb644, 0, none⟩) (blk_grown (g := gb642) (o := .cells #[.int .i64 a1_0, .slice (some ad652) l1_1.length c1_1, .slice A1_2 l1_2.length c1_2] 49 (0, 0)) (bp BK642) hgr (Kd.R_ne HO_645000.out BK642.out (by decide))) NB642_644.out v672); replace BK644 := am (blk_put (cs' := #[v672]) hz87 0 v672 rfl); replace BK645 := am (blk_far (p := ⟨gb644, 0, none⟩) (blk_grown (g := gb645) (o := .cells #[(.func (.func 49) #[] #[.pointer (some ⟨gb644, 0, none⟩)])] 90 (0, 0)) (bp BK645) hgr (Kd.R_ne HO_645000.out BK645.out (by decide))) NB645_644.out v672); replace BK653 := am (blk_far (p := ⟨gb644, 0, none⟩) (blk_grown (g := gb653) (o := .cells #[.slice A652_0 ((rd_T80 l1_1 x29_1).f0).length c652_0, .int .i64 ((rd_T80 l1_1 x29_1).f1), .int .i64 ((rd_T80 l1_1 x29_1).f2), .slice A652_3 ((rd_T80 l1_1 x29_1).f3).length c652_3, .int .i64 ((rd_T80 l1_1 x29_1).f4)] 80 (0, 0)) (bp BK653) hgr (Kd.R_ne HO_645000.out BK653.out (by decide))) NB653_644.out v672); replace HO670 := am (Kd.R_set (Kd.R_over' (v := u645000) (kR HO670) (Kd.R_typed HO_645000.out) (by decide) hgr) hz87 (by decide) 0 v672); replace HB := am (below_set (w := w) (j := 0) (v := v672) hb GW644.out); have HO673 := am (Kd.R_set (t := 75) ho hz87 (by decide) 0 v672); clear HO_645000; generalize (World.setCell w1_ ⟨gb644, 0, none⟩ v672) = w86 at BK641 BK642 BK644 BK645 BK653 HO670 HB HO673 ⊢; clear ho hb hgr hz87; have hcz88_0 := bk w86 BK653 0; have hcz88_1 := bk w86 BK653 1; have hcz88_2 := bk w86 BK653 2; have hcz88_3 := bk w86 BK653 3; have hcz88_4 := bk w86 BK653 4; have hfz88_0 := bf BK653 0; have hfz88_1 := bf BK653 1; have hfz88_2 := bf BK653 2; have hfz88_3 := bf BK653 3; have hfz88_4 := bf BK653 4) | ((with_reducible refine gate_calleeT (q := .tmp 68) rfl ?_); refine goesC_ (q := .tmp 68) (cap := #[.pointer (some ⟨gb645, 0, none⟩)]) (some 71) rfl rfl Try.func51 (by kernel_rfl) rfl rfl #[.slice A652_3 ((rd_T80 l1_1 x29_1).f3).length c652_3] #[.slice A652_3 ((rd_T80 l1_1 x29_1).f3).length c652_3, .pointer (some ⟨gb645, 0, none⟩)] rfl (by (try simp only [List.map_toArray, List.map_cons, List.map_nil]); first | done | rfl) (by simp only [List.append_toArray, List.cons_append, List.nil_append]) ?_; (refine (impl_AsmBytes_2.clo k2 _ _ ((rd_T80 l1_1 x29_1).f3) _ t671 t674 w _ (bw HB) HR652_3.out (Kd.R_mono (ok' := fun _ => True) (kR HO673) (fun _ _ => trivial)) (bp BK644) GW644.out (bp BK645) A70.out).mono ?_); rintro e w'_ ⟨v675, w1_, rfl, ho, hb, hgr, hat, rfl⟩; refine ⟨_, rfl, ?_⟩; clear hat; have hz90 := blk_grown (bp BK644) hgr (Kd.R_ne HO673.out BK644.out (by decide)); replace BK641 := am (blk_far (p := ⟨gb644, 0, none⟩) (blk_grown (g := gb641) (o := .cells #[.slice A0_0 l0_0.length c0_0] 32 (0, 0)) (bp BK641) hgr (Kd.R_ne HO673.out BK641.out (by decide))) NB641_644.out v675); replace BK642 := am (blk_far (p := ⟨gb644, 0, none⟩) (blk_grown (g := gb642) (o := .cells #[.int .i64 a1_0, .slice (some ad652) l1_1.length c1_1, .slice A1_2 l1_2.length c1_2] 49 (0, 0)) (bp BK642) hgr (Kd.R_ne HO673.out BK642.out (by decide))) NB642_644.out v675); replace BK644 := am (blk_put (cs' := #[v675]) hz90 0 v675 rfl); replace BK645 := am (blk_far (p := ⟨gb644, 0, none⟩) (blk_grown (g := gb645) (o := .cells #[(.func (.func 49) #[] #[.pointer (some ⟨gb644, 0, none⟩)])] 90 (0, 0)) (bp BK645) hgr (Kd.R_ne HO673.out BK645.out (by decide))) NB645_644.out v675); replace BK653 := am (blk_far (p := ⟨gb644, 0, none⟩) (blk_grown (g := gb653) (o := .cells #[.slice A652_0 ((rd_T80 l1_1 x29_1).f0).length c652_0, .int .i64 ((rd_T80 l1_1 x29_1).f1), .int .i64 ((rd_T80 l1_1 x29_1).f2), .slice A652_3 ((rd_T80 l1_1 x29_1).f3).length c652_3, .int .i64 ((rd_T80 l1_1 x29_1).f4)] 80 (0, 0)) (bp BK653) hgr (Kd.R_ne HO673.out BK653.out (by decide))) NB653_644.out v675); replace HO670 := am (Kd.R_set (Kd.R_over' (v := v672) (kR HO670) (Kd.R_typed HO673.out) (by decide) hgr) hz90 (by decide) 0 v675); replace HB := am (below_set (w := w) (j := 0) (v := v675) hb GW644.out); have HO676 := am (Kd.R_set (t := 75) ho hz90 (by decide) 0 v675); clear HO673; generalize (World.setCell w1_ ⟨gb644, 0, none⟩ v675) = w89 at BK641 BK642 BK644 BK645 BK653 HO670 HB HO676 ⊢; clear ho hb hgr hz90; have hnb91 := NB642_641.out; have hnc91 := NB641_642.out; have hnb92 := NB642_644.out; have hnc92 := NB644_642.out; have hcz93 := bK w89 BK642; have hfz93 := bF BK642; have p677 : 0 ≤ (x29_1 : Int) := dt; have q677 : x29_1 < (l1_2.length : Int) := dt; obtain ⟨ad677, A677_0, c677_0, e677, hx677_0, hl677_0, hi677_0⟩ := at_L17 HR1_2.out x29_1 p677 q677; cases e677; replace hx677_0 := cl HB hx677_0; have HR677_0 := am hi677_0; have HC677_0 := am hl677_0; clear hi677_0 hl677_0; replace p677 := eq_true p677; replace q677 := eq_true q677) | ((with_reducible refine gate_calleeT (q := .tmp 72) rfl ?_); refine goesC_ (q := .tmp 72) (cap := #[.pointer (some ⟨gb645, 0, none⟩)]) (some 78) rfl rfl Try.func51 (by kernel_rfl) rfl rfl #[.slice A677_0 (rd_L17 l1_2 x29_1).length c677_0] #[.slice A677_0 (rd_L17 l1_2 x29_1).length c677_0, .pointer (some ⟨gb645, 0, none⟩)] rfl (by (try simp only [List.map_toArray, List.map_cons, List.map_nil]); first | done | rfl) (by simp only [List.append_toArray, List.cons_append, List.nil_append]) ?_; (refine (impl_AsmBytes_2.clo k2 _ _ (rd_L17 l1_2 x29_1) _ t674 t678 w _ (bw HB) HR677_0.out (Kd.R_mono (ok' := fun _ => True) (kR HO676) (fun _ _ => trivial)) (bp BK644) GW644.out (bp BK645) A73.out).mono ?_); rintro e w'_ ⟨v679, w1_, rfl, ho, hb, hgr, hat, rfl⟩; refine ⟨_, rfl, ?_⟩; clear hat; have hz95 := blk_grown (bp BK644) hgr (Kd.R_ne HO676.out BK644.out (by decide)); replace BK641 := am (blk_far (p := ⟨gb644, 0, none⟩) (blk_grown (g := gb641) (o := .cells #[.slice A0_0 l0_0.length c0_0] 32 (0, 0)) (bp BK641) hgr (Kd.R_ne HO676.out BK641.out (by decide))) NB641_644.out v679); replace BK642 := am (blk_far (p := ⟨gb644, 0, none⟩) (blk_grown (g := gb642) (o := .cells #[.int .i64 a1_0, .slice (some ad652) l1_1.length c1_1, .slice (some ad677) l1_2.length c1_2] 49 (0, 0)) (bp BK642) hgr (Kd.R_ne HO676.out BK642.out (by decide))) NB642_644.out v679); replace BK644 := am (blk_put (cs' := #[v679]) hz95 0 v679 rfl); replace BK645 := am (blk_far (p := ⟨gb644, 0, none⟩) (blk_grown (g := gb645) (o := .cells #[(.func (.func 49) #[] #[.pointer (some ⟨gb644, 0, none⟩)])] 90 (0, 0)) (bp BK645) hgr (Kd.R_ne HO676.out BK645.out (by decide))) NB645_644.out v679); replace BK653 := am (blk_far (p := ⟨gb644, 0, none⟩) (blk_grown (g := gb653) (o := .cells #[.slice A652_0 ((rd_T80 l1_1 x29_1).f0).length c652_0, .int .i64 ((rd_T80 l1_1 x29_1).f1), .int .i64 ((rd_T80 l1_1 x29_1).f2), .slice A652_3 ((rd_T80 l1_1 x29_1).f3).length c652_3, .int .i64 ((rd_T80 l1_1 x29_1).f4)] 80 (0, 0)) (bp BK653) hgr (Kd.R_ne HO676.out BK653.out (by decide))) NB653_644.out v679); replace HO670 := am (Kd.R_set (Kd.R_over' (v := v675) (kR HO670) (Kd.R_typed HO676.out) (by decide) hgr) hz95 (by decide) 0 v679); replace HB := am (below_set (w := w) (j := 0) (v := v679) hb GW644.out); have HO680 := am (Kd.R_set (t := 75) ho hz95 (by decide) 0 v679); clear HO676; generalize (World.setCell w1_ ⟨gb644, 0, none⟩ v679) = w94 at BK641 BK642 BK644 BK645 BK653 HO670 HB HO680 ⊢; clear ho hb hgr hz95))
   go_roundg k2
   case measure => have := HK1.out; have := HK2.out; omega
   case rel => exact ⟨(wrap64 (x29_1 + 1)), (t678), (v679), dr, H', ⟨by have := HK1.out; have := HK2.out; omega⟩, ⟨kR HO680⟩, ⟨bp BK641⟩, ⟨bp BK642⟩, ⟨bp BK644⟩, ⟨bp BK645⟩, ⟨bw HB⟩⟩
  rw [if_neg c28] at H
  have c28b0 := decide_eq_false c28
  clear c28
  (first | rw [c28b0] | (simp only [i64_w, i32_w]; rw [c28b0]) | skip)
  obtain rfl := oi H
  have hnb96 := NB644_641.out
  have hnc96 := NB641_644.out
  have hnb97 := NB644_642.out
  have hnc97 := NB642_644.out
  have hnb98 := NB644_645.out
  have hnc98 := NB645_644.out
  have hcz99 := bK wr BK644
  have hfz99 := bF BK644
  have hcv100 := own_string (P := Try.prog) Try.underlying75 Try.underlying5 Try.underlying9 (Kd.own_of_R HO_645000.out)
  go_wp2
  go_ret
  exact ⟨er, bw HB⟩
 obtain rfl := oi H
 go_wp2
 go_ret
 exact ⟨er, bw HB⟩

end Go.Proofs.Ytkhpiicijkhpkaa.QFnExactAsmBytes
