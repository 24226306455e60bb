import Derived.Test.YtkhpiicijkhpkaaCFnExactAsmBytesx0
import Derived.Test.YtkhpiicijkhpkaaCFnExactAsmBytesx24
namespace Go.Proofs.Ytkhpiicijkhpkaa.QFnExactAsmBytes
open Go.RowKit Go.Proofs.YtkhpiicijkhpkaaW
open PrintWords PrintLast PrintMore PrintShort PrintIsh
attribute [local go_sem] max2_int min2_int max_two min_two max_three min_three max_four min_four
set_option linter.unusedVariables false
set_option maxHeartbeats 8000000
set_option maxRecDepth 100000
set_option linter.unusedSimpArgs false

def laws_eqAsm.f (k : Nat) (a0_0 : Int) (l0_1 : List (S80)) (l0_2 : List (List (S82))) (a1_0 : Int) (l1_1 : List (S80)) (l1_2 : List (List (S82))) : Option (Bool) := if a0_0 = a1_0 then ((laws_eqAsmInsS.f k l0_1 l1_1).bind fun t704 => (if t704 = true then ((laws_eqValSS.f k l0_2 l1_2).bind fun t705 => (if t705 = true then (some true) else (some false))) else (some false))) else (some false)
theorem laws_eqAsm.calls (k : Nat) (a0_0 : Int) (A0_1 : Option Addr) (c0_1 : Nat) (l0_1 : List (S80)) (A0_2 : Option Addr) (c0_2 : Nat) (l0_2 : List (List (S82))) (a1_0 : Int) (A1_1 : Option Addr) (c1_1 : Nat) (l1_1 : List (S80)) (A1_2 : Option Addr) (c1_2 : Nat) (l1_2 : List (List (S82))) (r : Bool) (w : World) (hr0_1 : Kd.C k80 w A0_1 l0_1.length l0_1) (hc0_1 : l0_1.length ≤ c0_1) (hr0_2 : Kd.C (Kd.slice 82 k82) w A0_2 l0_2.length l0_2) (hc0_2 : l0_2.length ≤ c0_2) (hr1_1 : Kd.C k80 w A1_1 l1_1.length l1_1) (hc1_1 : l1_1.length ≤ c1_1) (hr1_2 : Kd.C (Kd.slice 82 k82) w A1_2 l1_2.length l1_2) (hc1_2 : l1_2.length ≤ c1_2) (h : laws_eqAsm.f k a0_0 l0_1 l0_2 a1_0 l1_1 l1_2 = some r) :
  Calls Try.prog 22 #[.agg #[.int .i64 a0_0, .slice A0_1 l0_1.length c0_1, .slice A0_2 l0_2.length c0_2], .agg #[.int .i64 a1_0, .slice A1_1 l1_1.length c1_1, .slice A1_2 l1_2.length c1_2]] w fun e w' => e = .returned (.bool r) ∧ Below w.heap.size w w' := by
 have hu49 := Try.underlying49
 have HR0_1 := am hr0_1
 have HC0_1 := am hc0_1
 clear hr0_1 hc0_1
 have HR0_2 := am hr0_2
 have HC0_2 := am hc0_2
 clear hr0_2 hc0_2
 have HR1_1 := am hr1_1
 have HC1_1 := am hc1_1
 clear hr1_1 hc1_1
 have HR1_2 := am hr1_2
 have HC1_2 := am hc1_2
 clear hr1_2 hc1_2
 have HB := am (Below.refl w.heap.size w)
 have H : (if a0_0 = a1_0 then ((laws_eqAsmInsS.f k l0_1 l1_1).bind fun t704 => (if t704 = true then ((laws_eqValSS.f k l0_2 l1_2).bind fun t705 => (if t705 = true then (some true) else (some false))) else (some false))) else (some false)) = some r := h
 clear h
 have HC3 := am H
 clear H
 go_enter Try.func22, Try.ntmps22
 go_upto_if 9 with (first | ((with_reducible refine gd 2 rfl ?_); refine bX 2 #[.int .i64 a0_0, .slice A0_1 l0_1.length c0_1, .slice A0_2 l0_2.length c0_2] 49 HB ?_; clear HB; intro gb702 w4 hg hb BK702 GW702 HB; clear hb hg) | ((with_reducible refine gd 3 rfl ?_); refine bX 3 #[.int .i64 a1_0, .slice A1_1 l1_1.length c1_1, .slice A1_2 l1_2.length c1_2] 49 HB ?_; clear HB; intro gb703 w5 hg hb BK703 GW703 HB; obtain ⟨NB702_703, NB703_702, BK702⟩ := b3 hg BK702 hb; clear hb hg; have hnb6 := NB702_703.out; have hnc6 := NB703_702.out; have hcz7 := bK w5 BK702; have hfz7 := bF BK702; have hcz8 := bK w5 BK703; have hfz8 := bF BK703))
 (try simp only [Act.put, sa, sz, ss])
 have H := HC3.out
 clear HC3
 refine qE H ?_ ?_ <;> clear H
 ·intro c9b0 c9b1 H
  (first | rw [c9b0] | (simp only [i64_w, i32_w]; rw [c9b0]) | skip)
  refine be H ?_; clear H; intro t704 A10 H
  have HC11 := am H
  clear H
  have hnb12 := NB702_703.out
  have hnc12 := NB703_702.out
  have hcz13 := bK w5 BK702
  have hfz13 := bF BK702
  have hcz14 := bK w5 BK703
  have hfz14 := bF BK703
  go_upto_if 15 with (first | ((with_reducible refine gk 52 rfl ?_); refine gB 52 (some 14) Try.func52 #[.slice A0_1 l0_1.length c0_1, .slice A1_1 l1_1.length c1_1] (laws_eqAsmInsS.calls k _ _ l0_1 _ _ l1_1 t704 _ (cc (Kd.C_below HR0_1.out HB.out)) HC0_1.out (cc (Kd.C_below HR1_1.out HB.out)) HC1_1.out A10.out) ?_; intro w15 hb; replace BK702 := bb BK702 hb; replace BK703 := bb BK703 hb; replace HB := bs HB hb; clear hb))
  (try simp only [Act.put, sa, sz, ss])
  have H := HC11.out
  clear HC11
  refine qT H ?_ ?_ <;> clear H <;> intro c16 H <;> subst c16
  ·refine be H ?_; clear H; intro t705 A17 H
   have HC18 := am H
   clear H
   have hnb19 := NB702_703.out
   have hnc19 := NB703_702.out
   have hcz20 := bK w15 BK702
   have hfz20 := bF BK702
   have hcz21 := bK w15 BK703
   have hfz21 := bF BK703
   go_upto_if 21 with (first | ((with_reducible refine gk 53 rfl ?_); refine gB 53 (some 20) Try.func53 #[.slice A0_2 l0_2.length c0_2, .slice A1_2 l1_2.length c1_2] (laws_eqValSS.calls k _ _ l0_2 _ _ l1_2 t705 _ (cc (Kd.C_below HR0_2.out HB.out)) HC0_2.out (cc (Kd.C_below HR1_2.out HB.out)) HC1_2.out A17.out) ?_; intro w22 hb; replace BK702 := bb BK702 hb; replace BK703 := bb BK703 hb; replace HB := bs HB hb; clear hb))
   (try simp only [Act.put, sa, sz, ss])
   have H := HC18.out
   clear HC18
   refine qT H ?_ ?_ <;> clear H <;> intro c23 H <;> subst c23
   ·obtain rfl := oi H
    go_wp2
    go_ret
    exact ⟨er, bw HB⟩
   obtain rfl := oi H
   go_wp2
   go_ret
   exact ⟨er, bw HB⟩
  obtain rfl := oi H
  go_wp2
  go_ret
  exact ⟨er, bw HB⟩
 intro c9 c9b0 c9b1 H
 (first | rw [c9b0] | (simp only [i64_w, i32_w]; rw [c9b0]) | skip)
 obtain rfl := oi H
 go_wp2
 go_ret
 exact ⟨er, bw HB⟩

end Go.Proofs.Ytkhpiicijkhpkaa.QFnExactAsmBytes
