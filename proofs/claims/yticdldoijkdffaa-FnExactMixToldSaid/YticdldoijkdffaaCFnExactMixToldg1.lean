/- FnExactMixTold: the marks of rows of numbers by what they leave, the calls of the law, and the law's walk. No condition. -/
import Derived.Test.YticdldoijkdffaaCFnExactMixToldx
import Derived.StillTailTactics
import Derived.Deep.RegionWith
import Derived.Deep.RegionHeld3
namespace Go.Proofs.Yticdldoijkdffaa.QFnExactMixTold
open Go.RowKit Go.Proofs.YticdldoijkdffaaW.PrintWords Go.Proofs.YticdldoijkdffaaW.PrintLast Go.Proofs.YticdldoijkdffaaW.PrintMore Go.Proofs.YticdldoijkdffaaW.PrintShort
attribute [local go_sem] max2_int min2_int max_two min_two max_three min_three max_four min_four
set_option linter.unusedVariables false
set_option linter.unusedSimpArgs false
theorem gl {Q : Prop} (h : Q := by (try simp only [List.map_toArray, List.map_cons, List.map_nil]); first | done | rfl | (simp only [List.length_drop, List.length_take]; rfl)) : Q := h
/-- Numbers put into a row, one after another. -/
def mkI : Int → List Int → List Int
 | _, [] => []
 | k, _ :: l => k :: mkI (wrap64 (k + 1)) l
/-- Numbers put into rows of a row. -/
def mkSS : Int → List (List Int) → List (List Int)
 | _, [] => []
 | k, x :: l => mkI k x :: mkSS (laws_markInt64S.mk k x) l
theorem mkI_len : ∀ (k : Int) (l : List Int), (mkI k l).length = l.length
 | _, [] => rfl
 | k, _ :: l => by show (mkI _ l).length + 1 = _; rw [mkI_len]; rfl
theorem mkSS_len : ∀ (k : Int) (l : List (List Int)), (mkSS k l).length = l.length
 | _, [] => rfl
 | k, _ :: l => by show (mkSS _ l).length + 1 = _; rw [mkSS_len]; rfl
theorem set_mid {α : Type} {dn l : List α} {n : Nat} (h : dn.length = n) (hn : n < l.length) (x : α) : (dn ++ l.drop n).set n x = (dn ++ [x]) ++ l.drop (n + 1) := by
 rw [List.drop_eq_getElem_cons hn, List.set_append_right _ _ (Nat.le_of_eq h), h, Nat.sub_self, List.set_cons_zero, List.append_assoc]
 rfl
theorem get_mid {α : Type} {dn l : List α} {n : Nat} (h : dn.length = n) (hn : n < l.length) (z : α) : (dn ++ l.drop n).getD n z = l.getD n z := by
 rw [List.getD_eq_getElem?_getD, List.getElem?_append_right (by omega), h, Nat.sub_self, List.getElem?_drop, Nat.add_zero, List.getD_eq_getElem?_getD]
theorem drop_getD {α : Type} {l : List α} {n : Nat} (hn : n < l.length) (z : α) : l.drop n = l.getD n z :: l.drop (n + 1) := by
 rw [List.drop_eq_getElem_cons hn, List.getD_eq_getElem?_getD, List.getElem?_eq_getElem hn]
 rfl
theorem len_mid {α : Type} {dn l : List α} {n : Nat} (h : dn.length = n) (hn : n ≤ l.length) : (dn ++ l.drop n).length = l.length := by
 rw [List.length_append, List.length_drop]; omega
set_option maxHeartbeats 8000000 in
set_option maxRecDepth 100000 in
theorem markI_rel (P : Nat → Prop) (u : Value) (l0 : List Int) (a1 : Int) (w0 w : World) (hB : Below w0.heap.size w0 w) (ho0 : Kd.R (Kd.int .i64) 2 w w0.heap.size P u l0) :
  Calls Try.prog 31 #[u, .int .i64 a1] w fun e w' => e = .returned (.int .i64 (laws_markInt64S.mk a1 l0)) ∧ Kd.R (Kd.int .i64) 2 w' w0.heap.size P u (mkI a1 l0) ∧ Below w0.heap.size w0 w' ∧ Kept w w' P := by
 have HB := Aside0.mk hB
 have HK := Aside0.mk (Kept.refl w P)
 have hln : l0.length ≤ 9223372036854775807 := by obtain ⟨_, _, rfl⟩ := Kd.R_slice ho0; exact (Kd.R_reads' ho0).2.2.2.1
 clear hB
 obtain ⟨Aa, ca, rfl⟩ := Kd.R_slice ho0
 have HO := Aside0.mk ho0
 clear ho0
 go_enter Try.func31, Try.ntmps31
 go_wp2
 go_loopg [1, 5] (l0.length + 1) (fun kq v1 v5 w' => ∃ (x1_1 x5_1 : Int) (dn : List Int), v1 = .int .i64 x1_1 ∧ v5 = .int .i64 x5_1 ∧ Aside0 (kq + x5_1.toNat = l0.length + 1 ∧ 0 ≤ x5_1 ∧ x5_1 ≤ l0.length ∧ dn.length = x5_1.toNat) ∧ Aside0 (laws_markInt64S.mk x1_1 (l0.drop x5_1.toNat) = laws_markInt64S.mk a1 l0 ∧ mkI a1 l0 = dn ++ mkI x1_1 (l0.drop x5_1.toNat)) ∧ Aside0 (Kd.R (Kd.int .i64) 2 w' w0.heap.size P (.slice Aa l0.length ca) (dn ++ l0.drop x5_1.toNat)) ∧ Aside0 (Kept w w' P) ∧ Aside0 (Below w0.heap.size w0 w'))
 case atStart => exact ⟨a1, 0, [], rfl, rfl, ⟨by simp, by omega, by omega, rfl⟩, ⟨rfl, rfl⟩, ⟨HO.out⟩, ⟨HK.out⟩, ⟨HB.out⟩⟩
 case round =>
  clear HO HK HB
  obtain ⟨x1_1, x5_1, dn, rfl, rfl, HA, HV, HO, HK, HB⟩ := hrel
  by_cases c3 : x5_1 < (l0.length : Int)
  · have c3b0 : decide (x5_1 < (l0.length : Int)) = true := decide_eq_true c3
    obtain ⟨k1, rfl⟩ : ∃ k1, gk = k1 + 1 := ⟨gk - 1, by have := HA.out; omega⟩
    have hlt : x5_1.toNat < l0.length := by have := HA.out; omega
    have HLT := Aside0.mk hlt
    have hlen := len_mid HA.out.2.2.2 (Nat.le_of_lt hlt)
    obtain ⟨go5, co5, eo5, gb5, gl5, cl5, HG5⟩ := Kd.R_form HO.out (by omega)
    (first | cases eo5 | (injection eo5 with ea_ en_ ec_; (first | subst ea_ | (injection ea_ with ea_; subst ea_)); subst ec_; clear en_))
    have GB5 := Aside0.mk gb5
    have GP5 := Aside0.mk (show P go5 from HO.out.1 _ rfl)
    have p5 : 0 ≤ x5_1 := HA.out.2.1
    obtain ⟨hx0, hf0⟩ := Kd.R_celln 0 HO.out x5_1 p5 c3
    have HP := Aside0.mk (Kd.R_putg HO.out x5_1 x1_1)
    clear gb5 gl5 HG5 hlen hlt HO
    replace p5 := eq_true p5
    have q5 := eq_true c3
    clear c3
    go_wp2_with (first | ((with_reducible refine gt 2 15 rfl ?_); refine sE 2 15 (wr.setCell ⟨go5, x5_1.toNat, none⟩ (.int .i64 x1_1)) ?_; intro wq0 hw; have HO := Aside0.mk (show Kd.R (Kd.int .i64) 2 wq0 w0.heap.size P (.slice (some ⟨go5, 0, none⟩) l0.length ca) _ by rw [hw]; exact HP.out.1); have n0_ := Aside0.mk (show Kept w wq0 P by rw [hw]; exact HK.out.setCell (.inl GP5.out) _); have n1_ := Aside0.mk ((by rw [hw]; exact below_set (HB.out) GB5.out : Below w0.heap.size w0 wq0)); clear HP HK HB hw hx0 hf0; have HK := n0_; have HB := n1_; clear n0_ n1_))
    go_roundg k1
    case measure => omega
    case rel =>
     have h1 := HA.out
     have hq : x5_1 < (l0.length : Int) := of_eq_true q5
     have hw1 : wrap64 (x5_1 + 1) = x5_1 + 1 := by unfold wrap64; omega
     have h2 := HV.out
     have h3 := HO.out
     rw [set_mid h1.2.2.2 HLT.out] at h3
     rw [List.drop_eq_getElem_cons HLT.out] at h2
     refine ⟨wrap64 (x1_1 + 1), wrap64 (x5_1 + 1), dn ++ [x1_1], rfl, rfl, ⟨by omega, by omega, by omega, by rw [List.length_append, h1.2.2.2]; show _ + 1 = _; omega⟩, ⟨?_, ?_⟩, ⟨?_⟩, HK, HB⟩
     · rw [hw1, show (x5_1 + 1).toNat = x5_1.toNat + 1 by omega]
       exact h2.1
     · rw [hw1, show (x5_1 + 1).toNat = x5_1.toNat + 1 by omega, h2.2, List.append_assoc]
       rfl
     · rw [hw1, show (x5_1 + 1).toNat = x5_1.toNat + 1 by omega]
       exact h3
  · have c3b0 : decide (x5_1 < (l0.length : Int)) = false := decide_eq_false c3
    have hv := HV.out
    have h1 := HA.out
    have h3 := HO.out
    rw [List.drop_of_length_le (by omega)] at hv h3
    rw [List.append_nil] at h3
    have hv1 : x1_1 = laws_markInt64S.mk a1 l0 := hv.1
    have hv2 : mkI a1 l0 = dn := hv.2.trans (List.append_nil _)
    rw [← hv2] at h3
    have H3 := Aside0.mk h3
    clear c3 hv h1 h3 hv2
    go_wp2
    go_ret
    exact ⟨by first | rfl | (simp; done) | (simp [*]; done), H3.out, HB.out, HK.out⟩
set_option maxHeartbeats 8000000 in
set_option maxRecDepth 100000 in
theorem markSS_rel (P : Nat → Prop) (u : Value) (l0 : List (List Int)) (a1 : Int) (w0 w : World) (hB : Below w0.heap.size w0 w) (ho0 : Kd.S (Kd.slice 2 (Kd.int .i64)) 25 w w0.heap.size P u l0) :
  Calls Try.prog 30 #[u, .int .i64 a1] w fun e w' => e = .returned (.int .i64 (laws_markInt64SS.mk a1 l0)) ∧ Kd.S (Kd.slice 2 (Kd.int .i64)) 25 w' w0.heap.size P u (mkSS a1 l0) ∧ Below w0.heap.size w0 w' ∧ Kept w w' P := by
 have HB := Aside0.mk hB
 have HK := Aside0.mk (Kept.refl w P)
 have hln : l0.length ≤ 9223372036854775807 := by obtain ⟨_, _, rfl⟩ := Kd.S_slice ho0; exact (Kd.S_reads' ho0).2.2.2.1
 clear hB
 obtain ⟨Aa, ca, rfl⟩ := Kd.S_slice ho0
 have HO := Aside0.mk ho0
 clear ho0
 go_enter Try.func30, Try.ntmps30
 go_wp2
 go_loopg [1, 5] (l0.length + 1) (fun kq v1 v5 w' => ∃ (x1_1 x5_1 : Int) (dn : List (List Int)), v1 = .int .i64 x1_1 ∧ v5 = .int .i64 x5_1 ∧ Aside0 (kq + x5_1.toNat = l0.length + 1 ∧ 0 ≤ x5_1 ∧ x5_1 ≤ l0.length ∧ dn.length = x5_1.toNat) ∧ Aside0 (laws_markInt64SS.mk x1_1 (l0.drop x5_1.toNat) = laws_markInt64SS.mk a1 l0 ∧ mkSS a1 l0 = dn ++ mkSS x1_1 (l0.drop x5_1.toNat)) ∧ Aside0 (Kd.S (Kd.slice 2 (Kd.int .i64)) 25 w' w0.heap.size P (.slice Aa l0.length ca) (dn ++ l0.drop x5_1.toNat)) ∧ Aside0 (Kept w w' P) ∧ Aside0 (Below w0.heap.size w0 w'))
 case atStart => exact ⟨a1, 0, [], rfl, rfl, ⟨by simp, by omega, by omega, rfl⟩, ⟨rfl, rfl⟩, ⟨HO.out⟩, ⟨HK.out⟩, ⟨HB.out⟩⟩
 case round =>
  clear HO HK HB
  obtain ⟨x1_1, x5_1, dn, rfl, rfl, HA, HV, HO, HK, HB⟩ := hrel
  by_cases c3 : x5_1 < (l0.length : Int)
  · have c3b0 : decide (x5_1 < (l0.length : Int)) = true := decide_eq_true c3
    obtain ⟨k1, rfl⟩ : ∃ k1, gk = k1 + 1 := ⟨gk - 1, by have := HA.out; omega⟩
    have hlt : x5_1.toNat < l0.length := by have := HA.out; omega
    have HLT := Aside0.mk hlt
    have hlen := len_mid HA.out.2.2.2 (Nat.le_of_lt hlt)
    obtain ⟨go5, co5, eo5, gb5, gl5, cl5, HG5⟩ := Kd.S_form HO.out (by omega)
    (first | cases eo5 | (injection eo5 with ea_ en_ ec_; (first | subst ea_ | (injection ea_ with ea_; subst ea_)); subst ec_; clear en_))
    have p5 : 0 ≤ x5_1 := HA.out.2.1
    obtain ⟨oki, c, hcl, hM, hcc, hfr, hoki, hH⟩ := Kd.S_elem HO.out [] x5_1 p5 c3
    obtain ⟨v0, rfl, hr0⟩ := hM
    rw [get_mid HA.out.2.2.2 hlt] at hr0
    obtain ⟨xe, hxe⟩ : ∃ xe : List Int, xe = l0.getD x5_1.toNat [] := ⟨_, rfl⟩
    rw [← hxe] at hr0
    have HXE := Aside0.mk hxe
    obtain ⟨A0, c0, rfl⟩ := Kd.R_slice hr0
    have HR0 := Aside0.mk hr0
    have HH := Aside0.mk hH
    have HOK := Aside0.mk hoki
    have hx0 : wr.cell? ⟨go5, x5_1.toNat, none⟩ = some (.slice A0 xe.length c0) := by
      have h9_ := hcc 0 _ rfl
      rw [show (Kd.slice 2 (Kd.int .i64)).sz = 1 from rfl, Nat.mul_one, Nat.add_zero] at h9_
      exact h9_
    clear hxe gb5 gl5 HG5 hlen hlt HO hfr hcc hcl hr0 hH hoki
    replace p5 := eq_true p5
    have q5 := eq_true c3
    clear c3
    go_wp2_with (first | (go_at_call 31; (refine (markI_rel oki _ _ _ w0 _ HB.out HR0.out).mono ?_); rintro e wq0 ⟨rfl, hr, hb, hk⟩; have HO := Aside0.mk (Kd.H_back (Kd.H_kept HH.out hk (fun _ _ h1 h2 => h1 h2)) (x' := mkI x1_1 xe) (okp := oki) ⟨_, rfl, hr⟩ (fun _ h => h)); have n0_ := Aside0.mk (HK.out.then_ hk (fun k h => .inl (HOK.out k h).1)); have n1_ := Aside0.mk hb; clear HH HK HB HR0 hr hb hk hx0; have HK := n0_; have HB := n1_; clear n0_ n1_))
    go_roundg k1
    case measure => omega
    case rel =>
     have h1 := HA.out
     have hq : x5_1 < (l0.length : Int) := of_eq_true q5
     have hw1 : wrap64 (x5_1 + 1) = x5_1 + 1 := by unfold wrap64; omega
     have h2 := HV.out
     have h3 := HO.out
     rw [set_mid h1.2.2.2 HLT.out] at h3
     rw [drop_getD HLT.out [], ← HXE.out] at h2
     refine ⟨laws_markInt64S.mk x1_1 xe, wrap64 (x5_1 + 1), dn ++ [mkI x1_1 xe], rfl, rfl, ⟨by omega, by omega, by omega, by rw [List.length_append, h1.2.2.2]; show _ + 1 = _; omega⟩, ⟨?_, ?_⟩, ⟨?_⟩, HK, HB⟩
     · rw [hw1, show (x5_1 + 1).toNat = x5_1.toNat + 1 by omega]
       exact h2.1
     · rw [hw1, show (x5_1 + 1).toNat = x5_1.toNat + 1 by omega, h2.2, List.append_assoc]
       rfl
     · rw [hw1, show (x5_1 + 1).toNat = x5_1.toNat + 1 by omega]
       exact h3
  · have c3b0 : decide (x5_1 < (l0.length : Int)) = false := decide_eq_false c3
    have hv := HV.out
    have h1 := HA.out
    have h3 := HO.out
    rw [List.drop_of_length_le (by omega)] at hv h3
    rw [List.append_nil] at h3
    have hv1 : x1_1 = laws_markInt64SS.mk a1 l0 := hv.1
    have hv2 : mkSS a1 l0 = dn := hv.2.trans (List.append_nil _)
    rw [← hv2] at h3
    have H3 := Aside0.mk h3
    clear c3 hv h1 h3 hv2
    go_wp2
    go_ret
    exact ⟨by first | rfl | (simp; done) | (simp [*]; done), H3.out, HB.out, HK.out⟩
/-- A state of no frames: its heap's rows told apart, its three parts apart. -/
def GM (w : World) (base : Nat) (ok : Nat → Prop) (v0 v1 v2 : Value) (H : List (List Int)) (O : List Int) : Prop :=
 Kd.R k79 79 w base (fun k => some k = v0.ownBlock ∧ ok k) v0 [] ∧ Kd.S (Kd.slice 2 (Kd.int .i64)) 25 w base (fun k => ok k ∧ some k ≠ v0.ownBlock ∧ some k ≠ v2.ownBlock) v1 H ∧ Kd.R (Kd.int .i64) 2 w base (fun k => some k = v2.ownBlock ∧ ok k) v2 O
theorem GM.step {w w1 : World} {base : Nat} {ok : Nat → Prop} {v0 v1 v2 : Value} {H : List (List Int)} {O : List Int} (h : GM w base ok v0 v1 v2 H O) (hm : ∀ k, ok k → k < w.heap.size → w1.heap[k]? = w.heap[k]?) : GM w1 base ok v0 v1 v2 H O :=
 ⟨Kd.R_step h.1 (fun k a b => hm k a.2 b), Kd.S_step h.2.1 (fun k a b => hm k a.1 b), Kd.R_step h.2.2 (fun k a b => hm k a.2 b)⟩
theorem GM.mono {w : World} {base : Nat} {ok ok1 : Nat → Prop} {v0 v1 v2 : Value} {H : List (List Int)} {O : List Int} (h : GM w base ok v0 v1 v2 H O) (hk : ∀ k, base ≤ k → k < w.heap.size → ok k → ok1 k) : GM w base ok1 v0 v1 v2 H O :=
 ⟨Kd.R_mono (Kd.R_bound h.1) (fun k a => ⟨a.1.1, hk k a.2.1 a.2.2.1 a.1.2⟩), Kd.S_mono (Kd.S_bound h.2.1) (fun k a => ⟨hk k a.2.1 a.2.2.1 a.1.1, a.1.2⟩), Kd.R_mono (Kd.R_bound h.2.2) (fun k a => ⟨a.1.1, hk k a.2.1 a.2.2.1 a.1.2⟩)⟩
theorem GM.lower {w : World} {base base1 : Nat} {ok : Nat → Prop} {v0 v1 v2 : Value} {H : List (List Int)} {O : List Int} (h : GM w base ok v0 v1 v2 H O) (hb : base1 ≤ base) : GM w base1 ok v0 v1 v2 H O :=
 ⟨Kd.R_lower h.1 hb, Kd.S_lower h.2.1 hb, Kd.R_lower h.2.2 hb⟩
theorem R_none {α : Type} {d : Kd α} {e : Nat} {w : World} {base : Nat} {ok ok1 : Nat → Prop} {v : Value} (h : Kd.R d e w base ok v []) (hk : ∀ k, v.ownBlock = some k → ok1 k) : Kd.R d e w base ok1 v [] := by
 obtain ⟨h0, inner, h1, h2, h3⟩ := h
 exact ⟨hk, inner, h1, h2, fun j p hj => by simp at hj⟩
theorem ne_ty {w : World} {u v : Value} {t s : Nat} (hu : ∀ k, u.ownBlock = some k → ∃ c, w.heap[k]? = some (.cells c t (0, 0))) (hv : ∀ k, v.ownBlock = some k → ∃ c, w.heap[k]? = some (.cells c s (0, 0))) (h : t ≠ s) (k : Nat) (h1 : some k = u.ownBlock) : some k ≠ v.ownBlock := fun h2 => by
 obtain ⟨c, hc⟩ := hu k h1.symm
 obtain ⟨d, hd⟩ := hv k h2.symm
 rw [hc] at hd
 injection hd with hd
 injection hd with _ hd
 exact h hd
/-- What the program's MixTold leaves. -/
theorem GM.mk {w : World} {base : Nat} {v0 v1 v2 : Value} {H : List (List Int)} {O : List Int} (h0 : Kd.S k79 79 w base (fun k_ => some k_ ≠ (v2 : Value).ownBlock) v0 []) (h1 : Kd.S (Kd.slice 2 (Kd.int .i64)) 25 w base (fun k_ => some k_ ≠ (v2 : Value).ownBlock) v1 H) (h2 : Kd.R (Kd.int .i64) 2 w base (fun _ => True) v2 O) : GM w base (fun _ => True) v0 v1 v2 H O := by
 have t0 := Kd.R_typed (Kd.S_R h0)
 refine ⟨R_none (Kd.S_R h0) (fun k hk => ⟨hk.symm, trivial⟩), ?_, Kd.R_mono (Kd.R_tight rfl h2) (fun k hk => ⟨hk, trivial⟩)⟩
 refine Kd.S_mono (Kd.S_bound h1) (fun k hk => ⟨trivial, fun he => ?_, hk.1⟩)
 obtain ⟨c, hc⟩ := t0 k he.symm
 obtain ⟨q, hq, d, hd⟩ := hk.2.2.2
 rw [hc] at hd
 injection hd with hd
 injection hd with _ hd
 have hq : q = 25 ∨ q = 2 := by simpa [Kd.slice, Kd.int, Kd.scalar] using hq
 rcases hq with hq | hq
 · exact absurd (hd.trans hq) (by decide)
 · exact absurd (hd.trans hq) (by decide)
set_option maxHeartbeats 4000000 in
theorem markFN_rel (A : Option Addr) (c : Nat) (a : Int) (w : World) : Calls Try.prog 32 #[.slice A 0 c, .int .i64 a] w fun e w' => e = .returned (.int .i64 a) ∧ w' = w := by
 go_enter Try.func32, Try.ntmps32
 go_wp2
 go_loopg [1, 5] 1 (fun kq v1 v5 w' => v1 = .int .i64 a ∧ v5 = .int .i64 0 ∧ w' = w)
 case atStart => exact ⟨rfl, rfl, rfl⟩
 case round =>
  obtain ⟨rfl, rfl, rfl⟩ := hrel
  go_wp2
  go_ret
  exact ⟨rfl, rfl⟩
set_option maxHeartbeats 4000000 in
set_option maxRecDepth 100000 in
theorem markG {v0 v1 v2 : Value} {H : List (List Int)} {O : List Int} {a3 a5 a6 : Int} {a4 : Bool} {ok : Nat → Prop} {w0 w : World} (hB : Below w0.heap.size w0 w) (hG : GM w w0.heap.size ok v0 v1 v2 H O) :
  Calls Try.prog 11 #[.agg #[v0, v1, v2, .int .i64 a3, .bool a4, .int .i64 a5, .int .i64 a6], .int .i64 1] w fun e w' => e = .returned (.int .i64 (laws_markInt64S.mk (laws_markInt64SS.mk 1 H) O)) ∧ GM w' w0.heap.size ok v0 v1 v2 (mkSS 1 H) (mkI (laws_markInt64SS.mk 1 H) O) ∧ Below w0.heap.size w0 w' ∧ Kept w w' ok := by
 have HB := Aside0.mk hB
 obtain ⟨hG0, hG1, hG2⟩ := hG
 obtain ⟨A0, c0, e0⟩ := Kd.R_slice hG0
 have e0 : v0 = .slice A0 0 c0 := e0
 subst e0
 have t0 := Aside0.mk (Kd.R_typed hG0)
 have t2 := Aside0.mk (Kd.R_typed hG2)
 have G0 := Aside0.mk hG0
 have G1 := Aside0.mk (Kd.S_mono (Kd.S_bound hG1) (ok' := fun k => (ok k ∧ some k ≠ (Value.slice A0 0 c0).ownBlock ∧ some k ≠ v2.ownBlock) ∧ k < w.heap.size) (fun k a => ⟨a.1, a.2.2.1⟩))
 have G2 := Aside0.mk hG2
 have hbx := heap_alloc_new w (.cells #[.slice A0 0 c0, v1, v2, .int .i64 a3, .bool a4, .int .i64 a5, .int .i64 a6] 31)
 have HX := Aside0.mk hbx
 clear hB hG0 hG1 hG2 hbx
 go_enter Try.func11, Try.ntmps11
 go_wp2_with (first | ((with_reducible refine gate_callee (f := 32) rfl ?_); refine goesL_ _ rfl rfl Try.func32 (by kernel_rfl) rfl #[.slice A0 0 c0, .int .i64 1] rfl gl ?_; refine (markFN_rel A0 c0 1 _).mono ?_; rintro e w5 ⟨rfl, rfl⟩; refine ⟨_, rfl, ?_⟩) | ((with_reducible refine gate_callee (f := 30) rfl ?_); refine goesL_ _ rfl rfl Try.func30 (by kernel_rfl) rfl #[v1, .int .i64 _] rfl gl ?_; refine (markSS_rel _ v1 H 1 w0 _ (below_alloc HB.out _) (Kd.S_alloc G1.out _)).mono ?_; rintro e w6 ⟨rfl, hr, hb, hk⟩; refine ⟨_, rfl, ?_⟩; have HR1 := Aside0.mk hr; have HB6 := Aside0.mk hb; have HK6 := Aside0.mk hk; have HX6 := Aside0.mk ((hk.2 w.heap.size (blk_lt HX.out) (fun a => Nat.lt_irrefl _ a.2)).trans HX.out); have hc2_ := (blk_cell HX6.out 2).trans rfl; clear hr hb hk) | ((with_reducible refine gate_callee (f := 31) rfl ?_); refine goesL_ _ rfl rfl Try.func31 (by kernel_rfl) rfl #[v2, .int .i64 _] rfl gl ?_; refine (markI_rel _ v2 O (laws_markInt64SS.mk 1 H) w0 _ HB6.out (Kd.R_kept (Kd.R_alloc G2.out _) HK6.out (fun k a b => b.1.2.2 a.1))).mono ?_; rintro e w7 ⟨rfl, hr, hb, hk⟩; refine ⟨_, rfl, ?_⟩; have HR2 := Aside0.mk hr; have HB7 := Aside0.mk hb; have HK7 := Aside0.mk hk; clear hr hb hk))
 go_ret
 have n02 := ne_ty t0.out t2.out (by decide)
 refine ⟨rfl, ⟨?_, ?_, HR2.out⟩, HB7.out, ?_⟩
 · exact Kd.R_kept (Kd.R_kept (Kd.R_alloc G0.out _) HK6.out (fun k a b => b.1.2.1 a.1)) HK7.out (fun k a b => n02 k a.1 b.1)
 · exact Kd.S_mono (Kd.S_kept HR1.out HK7.out (fun k a b => a.1.2.2 b.1)) (fun k a => a.1)
 · exact (((Kept.refl w ok).alloc _).then_ HK6.out (fun k a => .inl a.1.1)).then_ HK7.out (fun k a => .inl a.2)
/-- The law's argument, as it came in. -/
def AM (w : World) (A0 A1 A2 A3 : Option Addr) (c0 c1 c2 c3 : Nat) (a0 : List S66) (a1 : List S69) (a2 : List (List Int)) (a3 : List Int) : Prop :=
 (Kd.C k66 w A0 a0.length a0 ∧ a0.length ≤ c0) ∧ (Kd.C k69 w A1 a1.length a1 ∧ a1.length ≤ c1) ∧ (Kd.C (Kd.slice 2 (Kd.int .i64)) w A2 a2.length a2 ∧ a2.length ≤ c2) ∧ Kd.C (Kd.int .i64) w A3 a3.length a3 ∧ a3.length ≤ c3
theorem AM.below {w W : World} {A0 A1 A2 A3 : Option Addr} {c0 c1 c2 c3 : Nat} {a0 : List S66} {a1 : List S69} {a2 : List (List Int)} {a3 : List Int} (h : AM w A0 A1 A2 A3 c0 c1 c2 c3 a0 a1 a2 a3) (hb : Below w.heap.size w W) : AM W A0 A1 A2 A3 c0 c1 c2 c3 a0 a1 a2 a3 :=
 ⟨⟨Kd.C_below h.1.1 hb, h.1.2⟩, ⟨Kd.C_below h.2.1.1 hb, h.2.1.2⟩, ⟨Kd.C_below h.2.2.1.1 hb, h.2.2.1.2⟩, Kd.C_below h.2.2.2.1 hb, h.2.2.2.2⟩
/-- A state of both kinds of frames that was made here. -/
def XM (w : World) (base : Nat) (ok : Nat → Prop) (A0 A1 A2 A3 : Option Addr) (n0 n1 n2 n3 c0 c1 c2 c3 : Nat) (C : List S73) (F : List S75) (H : List (List Int)) (O : List Int) : Prop :=
 Kd.R k73 73 w base ok (.slice A0 n0 c0) C ∧ Kd.R k75 75 w base ok (.slice A1 n1 c1) F ∧ Kd.R (Kd.slice 2 (Kd.int .i64)) 25 w base ok (.slice A2 n2 c2) H ∧ Kd.R (Kd.int .i64) 2 w base ok (.slice A3 n3 c3) O
section
variable {w w1 : World} {base base1 : Nat} {ok ok1 : Nat → Prop} {A0 A1 A2 A3 : Option Addr} {n0 n1 n2 n3 c0 c1 c2 c3 : Nat} {C : List S73} {F : List S75} {H : List (List Int)} {O : List Int}
theorem XM.step (h : XM w base ok A0 A1 A2 A3 n0 n1 n2 n3 c0 c1 c2 c3 C F H O) (hm : ∀ k, ok k → k < w.heap.size → w1.heap[k]? = w.heap[k]?) : XM w1 base ok A0 A1 A2 A3 n0 n1 n2 n3 c0 c1 c2 c3 C F H O :=
 ⟨Kd.R_step h.1 hm, Kd.R_step h.2.1 hm, Kd.R_step h.2.2.1 hm, Kd.R_step h.2.2.2 hm⟩
theorem XM.mono (h : XM w base ok A0 A1 A2 A3 n0 n1 n2 n3 c0 c1 c2 c3 C F H O) (hk : ∀ k, base ≤ k → k < w.heap.size → ok k → ok1 k) : XM w base ok1 A0 A1 A2 A3 n0 n1 n2 n3 c0 c1 c2 c3 C F H O :=
 ⟨Kd.R_mono (Kd.R_bound h.1) (fun k a => hk k a.2.1 a.2.2.1 a.1), Kd.R_mono (Kd.R_bound h.2.1) (fun k a => hk k a.2.1 a.2.2.1 a.1), Kd.R_mono (Kd.R_bound h.2.2.1) (fun k a => hk k a.2.1 a.2.2.1 a.1), Kd.R_mono (Kd.R_bound h.2.2.2) (fun k a => hk k a.2.1 a.2.2.1 a.1)⟩
theorem XM.lower (h : XM w base ok A0 A1 A2 A3 n0 n1 n2 n3 c0 c1 c2 c3 C F H O) (hb : base1 ≤ base) : XM w base1 ok A0 A1 A2 A3 n0 n1 n2 n3 c0 c1 c2 c3 C F H O :=
 ⟨Kd.R_lower h.1 hb, Kd.R_lower h.2.1 hb, Kd.R_lower h.2.2.1 hb, Kd.R_lower h.2.2.2 hb⟩
variable {a0 : List S66} {a1 : List S69} {a2 : List (List Int)} {a3 : List Int} {a4 a6 a7 : Int} {a5 : Bool} {k : Nat}
theorem szX {left : Int} (hA : AM w A0 A1 A2 A3 c0 c1 c2 c3 a0 a1 a2 a3) (h : laws_szMixed.f k a0 a1 a2 a3 a4 a5 a6 a7 1048576 = some left) :
  Calls Try.prog 4 #[.agg #[.slice A0 a0.length c0, .slice A1 a1.length c1, .slice A2 a2.length c2, .slice A3 a3.length c3, .int .i64 a4, .bool a5, .int .i64 a6, .int .i64 a7], .int .i64 1048576] w fun e w' => e = .returned (.int .i64 left) ∧ Below w.heap.size w w' :=
 laws_szMixed.calls k A0 c0 a0 A1 c1 a1 A2 c2 a2 A3 c3 a3 a4 a5 a6 a7 1048576 left w hA.1.1 hA.1.2 hA.2.1.1 hA.2.1.2 hA.2.2.1.1 hA.2.2.1.2 hA.2.2.2.1 hA.2.2.2.2 h
theorem toX (hA : AM w A0 A1 A2 A3 c0 c1 c2 c3 a0 a1 a2 a3) (h : laws_toMixed.f k a0 a1 a2 a3 a4 a5 a6 a7 = some (C, F, a2, a3, a4, a5, a6, a7)) :
  Calls Try.prog 6 #[.agg #[.slice A0 a0.length c0, .slice A1 a1.length c1, .slice A2 a2.length c2, .slice A3 a3.length c3, .int .i64 a4, .bool a5, .int .i64 a6, .int .i64 a7]] w fun e w' => ∃ (B0 B1 B2 B3 : Option Addr) (m0 m1 m2 m3 d0 d1 d2 d3 : Nat), e = .returned (.agg #[.slice B0 m0 d0, .slice B1 m1 d1, .slice B2 m2 d2, .slice B3 m3 d3, .int .i64 a4, .bool a5, .int .i64 a6, .int .i64 a7]) ∧ XM w' w.heap.size (fun _ => True) B0 B1 B2 B3 m0 m1 m2 m3 d0 d1 d2 d3 C F a2 a3 ∧ Below w.heap.size w w' := by
 refine (laws_toMixed.calls k A0 c0 a0 A1 c1 a1 A2 c2 a2 A3 c3 a3 a4 a5 a6 a7 C F a2 a3 a4 a5 a6 a7 w hA.1.1 hA.1.2 hA.2.1.1 hA.2.1.2 hA.2.2.1.1 hA.2.2.1.2 hA.2.2.2.1 hA.2.2.2.2 h).mono ?_
 rintro e w' ⟨v0, v1, v2, v3, rfl, h0, h1, h2, h3, hb⟩
 have h1 := Kd.S_R h1
 have h2 := Kd.S_R h2
 obtain ⟨B0, d0, rfl⟩ := Kd.R_slice h0
 obtain ⟨B1, d1, rfl⟩ := Kd.R_slice h1
 obtain ⟨B2, d2, rfl⟩ := Kd.R_slice h2
 obtain ⟨B3, d3, rfl⟩ := Kd.R_slice h3
 exact ⟨B0, B1, B2, B3, _, _, _, _, d0, d1, d2, d3, rfl, ⟨h0, Kd.R_mono h1 (fun _ _ => trivial), Kd.R_mono h2 (fun _ _ => trivial), h3⟩, hb⟩
theorem specG (hX : XM w base ok A0 A1 A2 A3 n0 n1 n2 n3 c0 c1 c2 c3 C F H O) (h : spec_MixTold.f k C F H O a4 a5 a6 a7 = some ([], H, O, a4, a5, a6, a7)) :
  Calls Try.prog 5 #[.agg #[.slice A0 n0 c0, .slice A1 n1 c1, .slice A2 n2 c2, .slice A3 n3 c3, .int .i64 a4, .bool a5, .int .i64 a6, .int .i64 a7]] w fun e w' => ∃ (B0 B1 B2 : Option Addr) (m0 m1 m2 d0 d1 d2 : Nat), e = .returned (.agg #[.slice B0 m0 d0, .slice B1 m1 d1, .slice B2 m2 d2, .int .i64 a4, .bool a5, .int .i64 a6, .int .i64 a7]) ∧ GM w' w.heap.size (fun _ => True) (.slice B0 m0 d0) (.slice B1 m1 d1) (.slice B2 m2 d2) H O ∧ Below w.heap.size w w' := by
 obtain ⟨rfl, x0, y0⟩ := Kd.R_reads' hX.1
 obtain ⟨rfl, x1, y1⟩ := Kd.R_reads' hX.2.1
 obtain ⟨rfl, x2, y2⟩ := Kd.R_reads' hX.2.2.1
 obtain ⟨rfl, x3, y3⟩ := Kd.R_reads' hX.2.2.2
 refine (spec_MixTold.calls k A0 c0 C A1 c1 F A2 c2 H A3 c3 O a4 a5 a6 a7 [] H O a4 a5 a6 a7 w y0 x0 y1 x1 y2 x2 y3 x3 h).mono ?_
 rintro e w' ⟨v0, v1, v2, rfl, h0, h1, h2, hb⟩
 have g := GM.mk h0 h1 h2
 obtain ⟨B0, d0, rfl⟩ := Kd.S_slice h0
 obtain ⟨B1, d1, rfl⟩ := Kd.S_slice h1
 obtain ⟨B2, d2, rfl⟩ := Kd.R_slice h2
 exact ⟨B0, B1, B2, _, _, _, d0, d1, d2, rfl, g, hb⟩
theorem implG (hX : XM w base ok A0 A1 A2 A3 n0 n1 n2 n3 c0 c1 c2 c3 C F H O) (h : impl_MixTold.f k C F H O a4 a5 a6 a7 = some ([], H, O, a4, a5, a6, a7)) :
  Calls Try.prog 7 #[.agg #[.slice A0 n0 c0, .slice A1 n1 c1, .slice A2 n2 c2, .slice A3 n3 c3, .int .i64 a4, .bool a5, .int .i64 a6, .int .i64 a7]] w fun e w' => ∃ (B0 B1 B2 : Option Addr) (m0 m1 m2 d0 d1 d2 : Nat), e = .returned (.agg #[.slice B0 m0 d0, .slice B1 m1 d1, .slice B2 m2 d2, .int .i64 a4, .bool a5, .int .i64 a6, .int .i64 a7]) ∧ GM w' w.heap.size (fun _ => True) (.slice B0 m0 d0) (.slice B1 m1 d1) (.slice B2 m2 d2) H O ∧ Below w.heap.size w w' := by
 obtain ⟨rfl, x0, y0⟩ := Kd.R_reads' hX.1
 obtain ⟨rfl, x1, y1⟩ := Kd.R_reads' hX.2.1
 obtain ⟨rfl, x2, y2⟩ := Kd.R_reads' hX.2.2.1
 obtain ⟨rfl, x3, y3⟩ := Kd.R_reads' hX.2.2.2
 refine (impl_MixTold.calls k A0 c0 C A1 c1 F A2 c2 H A3 c3 O a4 a5 a6 a7 [] H O a4 a5 a6 a7 w y0 x0 y1 x1 y2 x2 y3 x3 h).mono ?_
 rintro e w' ⟨v0, v1, v2, rfl, h0, h1, h2, hb⟩
 have g := GM.mk h0 h1 h2
 obtain ⟨B0, d0, rfl⟩ := Kd.S_slice h0
 obtain ⟨B1, d1, rfl⟩ := Kd.S_slice h1
 obtain ⟨B2, d2, rfl⟩ := Kd.R_slice h2
 exact ⟨B0, B1, B2, _, _, _, d0, d1, d2, rfl, g, hb⟩
theorem eqX {b1 : Nat} {o1 : Nat → Prop} {B0 B1 B2 B3 : Option Addr} {m0 m1 m2 m3 d0 d1 d2 d3 : Nat} (hX : XM w base ok A0 A1 A2 A3 n0 n1 n2 n3 c0 c1 c2 c3 C F H O) (hY : XM w b1 o1 B0 B1 B2 B3 m0 m1 m2 m3 d0 d1 d2 d3 C F H O) (h : laws_eqMixed.f k C F H O a4 a5 a6 a7 C F H O a4 a5 a6 a7 = some true) :
  Calls Try.prog 9 #[.agg #[.slice A0 n0 c0, .slice A1 n1 c1, .slice A2 n2 c2, .slice A3 n3 c3, .int .i64 a4, .bool a5, .int .i64 a6, .int .i64 a7], .agg #[.slice B0 m0 d0, .slice B1 m1 d1, .slice B2 m2 d2, .slice B3 m3 d3, .int .i64 a4, .bool a5, .int .i64 a6, .int .i64 a7]] w fun e w' => e = .returned (.bool true) ∧ Below w.heap.size w w' := by
 obtain ⟨rfl, x0, y0⟩ := Kd.R_reads' hX.1
 obtain ⟨rfl, x1, y1⟩ := Kd.R_reads' hX.2.1
 obtain ⟨rfl, x2, y2⟩ := Kd.R_reads' hX.2.2.1
 obtain ⟨rfl, x3, y3⟩ := Kd.R_reads' hX.2.2.2
 obtain ⟨rfl, p0, q0⟩ := Kd.R_reads' hY.1
 obtain ⟨rfl, p1, q1⟩ := Kd.R_reads' hY.2.1
 obtain ⟨rfl, p2, q2⟩ := Kd.R_reads' hY.2.2.1
 obtain ⟨rfl, p3, q3⟩ := Kd.R_reads' hY.2.2.2
 exact laws_eqMixed.calls k A0 c0 C A1 c1 F A2 c2 H A3 c3 O a4 a5 a6 a7 B0 d0 C B1 d1 F B2 d2 H B3 d3 O a4 a5 a6 a7 true w y0 x0 y1 x1 y2 x2 y3 x3 q0 p0 q1 p1 q2 p2 q3 p3 h
theorem markX {w0 : World} {k1 : Int} (hB : Below w0.heap.size w0 w) (hX : XM w w0.heap.size ok A0 A1 A2 A3 n0 n1 n2 n3 c0 c1 c2 c3 C F H O) (h : laws_markMixed.f C F H O a4 a5 a6 a7 1 = some k1) :
  Calls Try.prog 10 #[.agg #[.slice A0 n0 c0, .slice A1 n1 c1, .slice A2 n2 c2, .slice A3 n3 c3, .int .i64 a4, .bool a5, .int .i64 a6, .int .i64 a7], .int .i64 1] w fun e w' => e = .returned (.int .i64 k1) ∧ Below w0.heap.size w0 w' ∧ Kept w w' ok :=
 (laws_markMixed.calls ok _ C ok _ F ok _ H ok _ O a4 a5 a6 a7 1 k1 w0 w hB hX.1 hX.2.1 hX.2.2.1 hX.2.2.2 h).mono fun e w' hq => ⟨hq.1, hq.2.1, hq.2.2.mono (fun k a => a.elim id (fun a => a.elim id (fun a => a.elim id id)))⟩
theorem eqG {b1 : Nat} {o1 : Nat → Prop} {B0 B1 B2 : Option Addr} {m0 m1 m2 d0 d1 d2 : Nat} (hX : GM w base ok (.slice A0 n0 c0) (.slice A1 n1 c1) (.slice A2 n2 c2) H O) (hY : GM w b1 o1 (.slice B0 m0 d0) (.slice B1 m1 d1) (.slice B2 m2 d2) H O) (h : laws_eqState.f k [] H O a4 a5 a6 a7 [] H O a4 a5 a6 a7 = some true) :
  Calls Try.prog 8 #[.agg #[.slice A0 n0 c0, .slice A1 n1 c1, .slice A2 n2 c2, .int .i64 a4, .bool a5, .int .i64 a6, .int .i64 a7], .agg #[.slice B0 m0 d0, .slice B1 m1 d1, .slice B2 m2 d2, .int .i64 a4, .bool a5, .int .i64 a6, .int .i64 a7]] w fun e w' => e = .returned (.bool true) ∧ Below w.heap.size w w' := by
 obtain ⟨rfl, x0, y0⟩ := Kd.R_reads' hX.1
 obtain ⟨rfl, x1, y1⟩ := Kd.S_reads' hX.2.1
 obtain ⟨rfl, x2, y2⟩ := Kd.R_reads' hX.2.2
 obtain ⟨rfl, p0, q0⟩ := Kd.R_reads' hY.1
 obtain ⟨rfl, p1, q1⟩ := Kd.S_reads' hY.2.1
 obtain ⟨rfl, p2, q2⟩ := Kd.R_reads' hY.2.2
 exact laws_eqState.calls k A0 c0 [] A1 c1 H A2 c2 O a4 a5 a6 a7 B0 d0 [] B1 d1 H B2 d2 O a4 a5 a6 a7 true w y0 x0 y1 x1 y2 x2 q0 p0 q1 p1 q2 p2 h
theorem heldG {m : Int} (hX : GM w base ok (.slice A0 n0 c0) (.slice A1 n1 c1) (.slice A2 n2 c2) H O) (h : laws_heldState.f k [] H O a4 a5 a6 a7 1 = some m) :
  Calls Try.prog 12 #[.agg #[.slice A0 n0 c0, .slice A1 n1 c1, .slice A2 n2 c2, .int .i64 a4, .bool a5, .int .i64 a6, .int .i64 a7], .int .i64 1] w fun e w' => e = .returned (.int .i64 m) ∧ Below w.heap.size w w' := by
 obtain ⟨rfl, x0, y0⟩ := Kd.R_reads' hX.1
 obtain ⟨rfl, x1, y1⟩ := Kd.S_reads' hX.2.1
 obtain ⟨rfl, x2, y2⟩ := Kd.R_reads' hX.2.2
 exact laws_heldState.calls k A0 c0 [] A1 c1 H A2 c2 O a4 a5 a6 a7 1 m w y0 x0 y1 x1 y2 x2 h
end
/-- What the law asks at its argument. -/
def LawM (a0 : List S66) (a1 : List S69) (a2 : List (List Int)) (a3 : List Int) (a4 : Int) (a5 : Bool) (a6 a7 : Int) : Prop := ∃ (k : Nat) (left : Int), laws_szMixed.f k a0 a1 a2 a3 a4 a5 a6 a7 1048576 = some left ∧ (¬ left < 0 → ∃ (C : List S73) (F : List S75) (k1 m : Int),
 laws_toMixed.f k a0 a1 a2 a3 a4 a5 a6 a7 = some (C, F, a2, a3, a4, a5, a6, a7) ∧ spec_MixTold.f k C F a2 a3 a4 a5 a6 a7 = some ([], a2, a3, a4, a5, a6, a7) ∧ impl_MixTold.f k C F a2 a3 a4 a5 a6 a7 = some ([], a2, a3, a4, a5, a6, a7) ∧
 laws_eqState.f k [] a2 a3 a4 a5 a6 a7 [] a2 a3 a4 a5 a6 a7 = some true ∧ laws_eqMixed.f k C F a2 a3 a4 a5 a6 a7 C F a2 a3 a4 a5 a6 a7 = some true ∧ (laws_markMixed.f C F a2 a3 a4 a5 a6 a7 1 = some k1 ∧ ¬ k1 < 0) ∧
 (laws_heldState.f k [] (mkSS 1 a2) (mkI (laws_markInt64SS.mk 1 a2) a3) a4 a5 a6 a7 1 = some m ∧ laws_markInt64S.mk (laws_markInt64SS.mk 1 a2) a3 = m ∧ ¬ m < 0))
theorem markGm {v0 v1 v2 : Value} {H : List (List Int)} {O : List Int} {a3 a5 a6 m : Int} {a4 : Bool} {ok : Nat → Prop} {w0 w : World} (hm : laws_markInt64S.mk (laws_markInt64SS.mk 1 H) O = m) (hB : Below w0.heap.size w0 w) (hG : GM w w0.heap.size ok v0 v1 v2 H O) :
  Calls Try.prog 11 #[.agg #[v0, v1, v2, .int .i64 a3, .bool a4, .int .i64 a5, .int .i64 a6], .int .i64 1] w fun e w' => e = .returned (.int .i64 m) ∧ GM w' w0.heap.size ok v0 v1 v2 (mkSS 1 H) (mkI (laws_markInt64SS.mk 1 H) O) ∧ Below w0.heap.size w0 w' ∧ Kept w w' ok := by
 subst hm
 exact markG hB hG
set_option maxHeartbeats 16000000 in
set_option maxRecDepth 100000 in
theorem law_rel {A0 A1 A2 A3 : Option Addr} {c0 c1 c2 c3 : Nat} {a0 : List S66} {a1 : List S69} {a2 : List (List Int)} {a3 : List Int} {a4 a6 a7 : Int} {a5 : Bool} {w : World} (hA : AM w A0 A1 A2 A3 c0 c1 c2 c3 a0 a1 a2 a3) (hL : LawM a0 a1 a2 a3 a4 a5 a6 a7) :
  Calls Try.prog 3 #[.agg #[.slice A0 a0.length c0, .slice A1 a1.length c1, .slice A2 a2.length c2, .slice A3 a3.length c3, .int .i64 a4, .bool a5, .int .i64 a6, .int .i64 a7]] w fun e w' => e = .returned (.bool true) ∧ Below w.heap.size w w' := by
 have HR := Aside0.mk hA
 obtain ⟨k, left, hsz, hF⟩ := hL
 have HSZ := Aside0.mk hsz
 have HF := Aside0.mk hF
 clear hA hsz hF
 have ZP := Aside0.mk (heap_alloc_new w (.cells #[.slice A0 a0.length c0, .slice A1 a1.length c1, .slice A2 a2.length c2, .slice A3 a3.length c3, .int .i64 a4, .bool a5, .int .i64 a6, .int .i64 a7] 27))
 have HB := Aside0.mk (below_alloc (Below.refl w.heap.size w) (.cells #[.slice A0 a0.length c0, .slice A1 a1.length c1, .slice A2 a2.length c2, .slice A3 a3.length c3, .int .i64 a4, .bool a5, .int .i64 a6, .int .i64 a7] 27))
 have zp0 := (blk_cell ZP.out 0).trans rfl
 have zp1 := (blk_cell ZP.out 1).trans rfl
 have zp2 := (blk_cell ZP.out 2).trans rfl
 have zp3 := (blk_cell ZP.out 3).trans rfl
 have zp4 := (blk_cell ZP.out 4).trans rfl
 have zp5 := (blk_cell ZP.out 5).trans rfl
 have zp6 := (blk_cell ZP.out 6).trans rfl
 have zp7 := (blk_cell ZP.out 7).trans rfl
 by_cases hlf : left < 0
 · have hlfd : decide (left < 0) = true := decide_eq_true hlf
   clear HF
   go_enter Try.func3, Try.ntmps3
   go_wp2_with (first | ((with_reducible refine gate_dst (N := 13) rfl ?_); refine goesL_ _ rfl rfl Try.func4 (by kernel_rfl) rfl #[.agg #[.slice A0 a0.length c0, .slice A1 a1.length c1, .slice A2 a2.length c2, .slice A3 a3.length c3, .int .i64 a4, .bool a5, .int .i64 a6, .int .i64 a7], .int .i64 1048576] rfl gl ?_; refine (szX (HR.out.below HB.out) HSZ.out).mono ?_; rintro e w1 ⟨rfl, hb⟩; refine ⟨_, rfl, ?_⟩; clear zp0 zp1 zp2 zp3 zp4 zp5 zp6 zp7; have n0_ := Aside0.mk (below_step HB.out hb); have n1_ := Aside0.mk (blk_below ZP.out hb); clear HB ZP; have HB := n0_; have ZP := n1_; clear n0_ n1_; clear hb; have zp0 := (blk_cell ZP.out 0).trans rfl; have zp1 := (blk_cell ZP.out 1).trans rfl; have zp2 := (blk_cell ZP.out 2).trans rfl; have zp3 := (blk_cell ZP.out 3).trans rfl; have zp4 := (blk_cell ZP.out 4).trans rfl; have zp5 := (blk_cell ZP.out 5).trans rfl; have zp6 := (blk_cell ZP.out 6).trans rfl; have zp7 := (blk_cell ZP.out 7).trans rfl))
   go_ret
   exact ⟨rfl, HB.out⟩
 have hlfd : decide (left < 0) = false := decide_eq_false hlf
 obtain ⟨C, F, k1, m, hf1, hf2, hf3, hf4, hf5, hf6, hf7⟩ := HF.out hlf
 have F1 := Aside0.mk hf1
 have F2 := Aside0.mk hf2
 have F3 := Aside0.mk hf3
 have F4 := Aside0.mk hf4
 have F5 := Aside0.mk hf5
 have F6 := Aside0.mk hf6
 have F7 := Aside0.mk hf7
 have hk1 : decide (k1 < 0) = false := decide_eq_false hf6.2
 have hmn : decide (m < 0) = false := decide_eq_false hf7.2.2
 clear HF hf1 hf2 hf3 hf4 hf5 hf6 hf7 hlf
 go_enter Try.func3, Try.ntmps3
 go_wp2_with (first | ((with_reducible refine gate_dst (N := 13) rfl ?_); refine goesL_ _ rfl rfl Try.func4 (by kernel_rfl) rfl #[.agg #[.slice A0 a0.length c0, .slice A1 a1.length c1, .slice A2 a2.length c2, .slice A3 a3.length c3, .int .i64 a4, .bool a5, .int .i64 a6, .int .i64 a7], .int .i64 1048576] rfl gl ?_; refine (szX (HR.out.below HB.out) HSZ.out).mono ?_; rintro e w1 ⟨rfl, hb⟩; refine ⟨_, rfl, ?_⟩; clear zp0 zp1 zp2 zp3 zp4 zp5 zp6 zp7; have n0_ := Aside0.mk (below_step HB.out hb); have n1_ := Aside0.mk (blk_below ZP.out hb); clear HB ZP; have HB := n0_; have ZP := n1_; clear n0_ n1_; clear hb; have zp0 := (blk_cell ZP.out 0).trans rfl; have zp1 := (blk_cell ZP.out 1).trans rfl; have zp2 := (blk_cell ZP.out 2).trans rfl; have zp3 := (blk_cell ZP.out 3).trans rfl; have zp4 := (blk_cell ZP.out 4).trans rfl; have zp5 := (blk_cell ZP.out 5).trans rfl; have zp6 := (blk_cell ZP.out 6).trans rfl; have zp7 := (blk_cell ZP.out 7).trans rfl) | ((with_reducible refine gate_dst (N := 17) rfl ?_); refine goesL_ _ rfl rfl Try.func6 (by kernel_rfl) rfl #[.agg #[.slice A0 a0.length c0, .slice A1 a1.length c1, .slice A2 a2.length c2, .slice A3 a3.length c3, .int .i64 a4, .bool a5, .int .i64 a6, .int .i64 a7]] rfl gl ?_; refine (toX (HR.out.below HB.out) F1.out).mono ?_; rintro e w2 ⟨At0, At1, At2, At3, nt0, nt1, nt2, nt3, ct0, ct1, ct2, ct3, rfl, hX, hb⟩; refine ⟨_, rfl, ?_⟩; have T0 := Aside0.mk hX; clear hX; clear zp0 zp1 zp2 zp3 zp4 zp5 zp6 zp7; have n0_ := Aside0.mk (below_step HB.out hb); have n1_ := Aside0.mk (blk_below ZP.out hb); clear HB ZP; have HB := n0_; have ZP := n1_; clear n0_ n1_; clear hb; have zp0 := (blk_cell ZP.out 0).trans rfl; have zp1 := (blk_cell ZP.out 1).trans rfl; have zp2 := (blk_cell ZP.out 2).trans rfl; have zp3 := (blk_cell ZP.out 3).trans rfl; have zp4 := (blk_cell ZP.out 4).trans rfl; have zp5 := (blk_cell ZP.out 5).trans rfl; have zp6 := (blk_cell ZP.out 6).trans rfl; have zp7 := (blk_cell ZP.out 7).trans rfl; have HS := Aside0.mk (show w.heap.size < w2.heap.size from by have := blk_lt ZP.out; exact this)) | ((with_reducible refine gate_dst (N := 18) rfl ?_); refine goesL_ _ rfl rfl Try.func5 (by kernel_rfl) rfl #[.agg #[.slice At0 nt0 ct0, .slice At1 nt1 ct1, .slice At2 nt2 ct2, .slice At3 nt3 ct3, .int .i64 a4, .bool a5, .int .i64 a6, .int .i64 a7]] rfl gl ?_; refine (specG T0.out F2.out).mono ?_; rintro e w3 ⟨Aa0, Aa1, Aa2, na0, na1, na2, ca0, ca1, ca2, rfl, hG, hb⟩; refine ⟨_, rfl, ?_⟩; clear T0; have W0 := Aside0.mk ((hG.mono (ok1 := fun k_ => w2.heap.size ≤ k_ ∧ k_ < w3.heap.size) (fun k_ a_ b_ _ => ⟨by (try simp at a_); omega, b_⟩)).lower (show w.heap.size ≤ _ from HB.out.size)); clear hG; have n_ := Aside0.mk (show w.heap.size < w2.heap.size ∧ w2.heap.size ≤ w3.heap.size from by have h9 := HS.out; have h8 := hb.size; (try simp at h8); omega); clear HS; have HS := n_; clear n_; clear zp0 zp1 zp2 zp3 zp4 zp5 zp6 zp7; have n0_ := Aside0.mk (below_step HB.out hb); have n1_ := Aside0.mk (blk_below ZP.out hb); clear HB ZP; have HB := n0_; have ZP := n1_; clear n0_ n1_; clear hb; have zp0 := (blk_cell ZP.out 0).trans rfl; have zp1 := (blk_cell ZP.out 1).trans rfl; have zp2 := (blk_cell ZP.out 2).trans rfl; have zp3 := (blk_cell ZP.out 3).trans rfl; have zp4 := (blk_cell ZP.out 4).trans rfl; have zp5 := (blk_cell ZP.out 5).trans rfl; have zp6 := (blk_cell ZP.out 6).trans rfl; have zp7 := (blk_cell ZP.out 7).trans rfl; clear zp0 zp1 zp2 zp3 zp4 zp5 zp6 zp7; have hb := below_alloc (Below.refl w3.heap.size w3) (.cells #[.slice Aa0 na0 ca0, .slice Aa1 na1 ca1, .slice Aa2 na2 ca2, .int .i64 a4, .bool a5, .int .i64 a6, .int .i64 a7] 31); have Z10 := Aside0.mk (heap_alloc_new w3 (.cells #[.slice Aa0 na0 ca0, .slice Aa1 na1 ca1, .slice Aa2 na2 ca2, .int .i64 a4, .bool a5, .int .i64 a6, .int .i64 a7] 31)); have n0_ := Aside0.mk (below_step HB.out hb); have n1_ := Aside0.mk (blk_below ZP.out hb); have n2_ := Aside0.mk (W0.out.step (fun k_ _ hk_ => hb.block k_ hk_)); clear HB ZP W0; have HB := n0_; have ZP := n1_; have W0 := n2_; clear n0_ n1_ n2_; clear hb; have zp0 := (blk_cell ZP.out 0).trans rfl; have zp1 := (blk_cell ZP.out 1).trans rfl; have zp2 := (blk_cell ZP.out 2).trans rfl; have zp3 := (blk_cell ZP.out 3).trans rfl; have zp4 := (blk_cell ZP.out 4).trans rfl; have zp5 := (blk_cell ZP.out 5).trans rfl; have zp6 := (blk_cell ZP.out 6).trans rfl; have zp7 := (blk_cell ZP.out 7).trans rfl; have za0 := (blk_cell Z10.out 0).trans rfl; have za1 := (blk_cell Z10.out 1).trans rfl; have za2 := (blk_cell Z10.out 2).trans rfl; have za3 := (blk_cell Z10.out 3).trans rfl; have za4 := (blk_cell Z10.out 4).trans rfl; have za5 := (blk_cell Z10.out 5).trans rfl; have za6 := (blk_cell Z10.out 6).trans rfl) | ((with_reducible refine gate_dst (N := 20) rfl ?_); refine goesL_ _ rfl rfl Try.func6 (by kernel_rfl) rfl #[.agg #[.slice A0 a0.length c0, .slice A1 a1.length c1, .slice A2 a2.length c2, .slice A3 a3.length c3, .int .i64 a4, .bool a5, .int .i64 a6, .int .i64 a7]] rfl gl ?_; refine (toX (HR.out.below HB.out) F1.out).mono ?_; rintro e w4 ⟨Ax0, Ax1, Ax2, Ax3, nx0, nx1, nx2, nx3, cx0, cx1, cx2, cx3, rfl, hX, hb⟩; refine ⟨_, rfl, ?_⟩; have X0 := Aside0.mk ((hX.mono (ok1 := fun k_ => w3.heap.size + 1 ≤ k_ ∧ k_ < w4.heap.size) (fun k_ a_ b_ _ => ⟨by (try simp at a_); omega, b_⟩)).lower (show w.heap.size ≤ _ from HB.out.size)); clear hX; have n_ := Aside0.mk (show w.heap.size < w2.heap.size ∧ w2.heap.size ≤ w3.heap.size ∧ w3.heap.size + 1 ≤ w4.heap.size from by have h9 := HS.out; have h8 := hb.size; (try simp at h8); omega); clear HS; have HS := n_; clear n_; clear zp0 zp1 zp2 zp3 zp4 zp5 zp6 zp7 za0 za1 za2 za3 za4 za5 za6; have n0_ := Aside0.mk (below_step HB.out hb); have n1_ := Aside0.mk (blk_below ZP.out hb); have n2_ := Aside0.mk (W0.out.step (fun k_ _ hk_ => hb.block k_ hk_)); have n3_ := Aside0.mk (blk_below Z10.out hb); clear HB ZP W0 Z10; have HB := n0_; have ZP := n1_; have W0 := n2_; have Z10 := n3_; clear n0_ n1_ n2_ n3_; clear hb; have zp0 := (blk_cell ZP.out 0).trans rfl; have zp1 := (blk_cell ZP.out 1).trans rfl; have zp2 := (blk_cell ZP.out 2).trans rfl; have zp3 := (blk_cell ZP.out 3).trans rfl; have zp4 := (blk_cell ZP.out 4).trans rfl; have zp5 := (blk_cell ZP.out 5).trans rfl; have zp6 := (blk_cell ZP.out 6).trans rfl; have zp7 := (blk_cell ZP.out 7).trans rfl; have za0 := (blk_cell Z10.out 0).trans rfl; have za1 := (blk_cell Z10.out 1).trans rfl; have za2 := (blk_cell Z10.out 2).trans rfl; have za3 := (blk_cell Z10.out 3).trans rfl; have za4 := (blk_cell Z10.out 4).trans rfl; have za5 := (blk_cell Z10.out 5).trans rfl; have za6 := (blk_cell Z10.out 6).trans rfl; clear zp0 zp1 zp2 zp3 zp4 zp5 zp6 zp7 za0 za1 za2 za3 za4 za5 za6; have hb := below_alloc (Below.refl w4.heap.size w4) (.cells #[.slice Ax0 nx0 cx0, .slice Ax1 nx1 cx1, .slice Ax2 nx2 cx2, .slice Ax3 nx3 cx3, .int .i64 a4, .bool a5, .int .i64 a6, .int .i64 a7] 36); have Z11 := Aside0.mk (heap_alloc_new w4 (.cells #[.slice Ax0 nx0 cx0, .slice Ax1 nx1 cx1, .slice Ax2 nx2 cx2, .slice Ax3 nx3 cx3, .int .i64 a4, .bool a5, .int .i64 a6, .int .i64 a7] 36)); have n0_ := Aside0.mk (below_step HB.out hb); have n1_ := Aside0.mk (blk_below ZP.out hb); have n2_ := Aside0.mk (W0.out.step (fun k_ _ hk_ => hb.block k_ hk_)); have n3_ := Aside0.mk (blk_below Z10.out hb); have n4_ := Aside0.mk (X0.out.step (fun k_ _ hk_ => hb.block k_ hk_)); clear HB ZP W0 Z10 X0; have HB := n0_; have ZP := n1_; have W0 := n2_; have Z10 := n3_; have X0 := n4_; clear n0_ n1_ n2_ n3_ n4_; clear hb; have zp0 := (blk_cell ZP.out 0).trans rfl; have zp1 := (blk_cell ZP.out 1).trans rfl; have zp2 := (blk_cell ZP.out 2).trans rfl; have zp3 := (blk_cell ZP.out 3).trans rfl; have zp4 := (blk_cell ZP.out 4).trans rfl; have zp5 := (blk_cell ZP.out 5).trans rfl; have zp6 := (blk_cell ZP.out 6).trans rfl; have zp7 := (blk_cell ZP.out 7).trans rfl; have za0 := (blk_cell Z10.out 0).trans rfl; have za1 := (blk_cell Z10.out 1).trans rfl; have za2 := (blk_cell Z10.out 2).trans rfl; have za3 := (blk_cell Z10.out 3).trans rfl; have za4 := (blk_cell Z10.out 4).trans rfl; have za5 := (blk_cell Z10.out 5).trans rfl; have za6 := (blk_cell Z10.out 6).trans rfl; have zx0 := (blk_cell Z11.out 0).trans rfl; have zx1 := (blk_cell Z11.out 1).trans rfl; have zx2 := (blk_cell Z11.out 2).trans rfl; have zx3 := (blk_cell Z11.out 3).trans rfl; have zx4 := (blk_cell Z11.out 4).trans rfl; have zx5 := (blk_cell Z11.out 5).trans rfl; have zx6 := (blk_cell Z11.out 6).trans rfl; have zx7 := (blk_cell Z11.out 7).trans rfl) | ((with_reducible refine gate_dst (N := 22) rfl ?_); refine goesL_ _ rfl rfl Try.func7 (by kernel_rfl) rfl #[.agg #[.slice Ax0 nx0 cx0, .slice Ax1 nx1 cx1, .slice Ax2 nx2 cx2, .slice Ax3 nx3 cx3, .int .i64 a4, .bool a5, .int .i64 a6, .int .i64 a7]] rfl gl ?_; refine (implG X0.out F3.out).mono ?_; rintro e w5 ⟨Ag0, Ag1, Ag2, ng0, ng1, ng2, cg0, cg1, cg2, rfl, hG, hb⟩; refine ⟨_, rfl, ?_⟩; have G0 := Aside0.mk ((hG.mono (ok1 := fun k_ => w4.heap.size + 1 ≤ k_ ∧ k_ < w5.heap.size) (fun k_ a_ b_ _ => ⟨by (try simp at a_); omega, b_⟩)).lower (show w.heap.size ≤ _ from HB.out.size)); clear hG; have n_ := Aside0.mk (show w.heap.size < w2.heap.size ∧ w2.heap.size ≤ w3.heap.size ∧ w3.heap.size + 1 ≤ w4.heap.size ∧ w4.heap.size + 1 ≤ w5.heap.size from by have h9 := HS.out; have h8 := hb.size; (try simp at h8); omega); clear HS; have HS := n_; clear n_; clear zp0 zp1 zp2 zp3 zp4 zp5 zp6 zp7 za0 za1 za2 za3 za4 za5 za6 zx0 zx1 zx2 zx3 zx4 zx5 zx6 zx7; have n0_ := Aside0.mk (below_step HB.out hb); have n1_ := Aside0.mk (blk_below ZP.out hb); have n2_ := Aside0.mk (W0.out.step (fun k_ _ hk_ => hb.block k_ hk_)); have n3_ := Aside0.mk (blk_below Z10.out hb); have n4_ := Aside0.mk (X0.out.step (fun k_ _ hk_ => hb.block k_ hk_)); have n5_ := Aside0.mk (blk_below Z11.out hb); clear HB ZP W0 Z10 X0 Z11; have HB := n0_; have ZP := n1_; have W0 := n2_; have Z10 := n3_; have X0 := n4_; have Z11 := n5_; clear n0_ n1_ n2_ n3_ n4_ n5_; clear hb; have zp0 := (blk_cell ZP.out 0).trans rfl; have zp1 := (blk_cell ZP.out 1).trans rfl; have zp2 := (blk_cell ZP.out 2).trans rfl; have zp3 := (blk_cell ZP.out 3).trans rfl; have zp4 := (blk_cell ZP.out 4).trans rfl; have zp5 := (blk_cell ZP.out 5).trans rfl; have zp6 := (blk_cell ZP.out 6).trans rfl; have zp7 := (blk_cell ZP.out 7).trans rfl; have za0 := (blk_cell Z10.out 0).trans rfl; have za1 := (blk_cell Z10.out 1).trans rfl; have za2 := (blk_cell Z10.out 2).trans rfl; have za3 := (blk_cell Z10.out 3).trans rfl; have za4 := (blk_cell Z10.out 4).trans rfl; have za5 := (blk_cell Z10.out 5).trans rfl; have za6 := (blk_cell Z10.out 6).trans rfl; have zx0 := (blk_cell Z11.out 0).trans rfl; have zx1 := (blk_cell Z11.out 1).trans rfl; have zx2 := (blk_cell Z11.out 2).trans rfl; have zx3 := (blk_cell Z11.out 3).trans rfl; have zx4 := (blk_cell Z11.out 4).trans rfl; have zx5 := (blk_cell Z11.out 5).trans rfl; have zx6 := (blk_cell Z11.out 6).trans rfl; have zx7 := (blk_cell Z11.out 7).trans rfl; clear zp0 zp1 zp2 zp3 zp4 zp5 zp6 zp7 za0 za1 za2 za3 za4 za5 za6 zx0 zx1 zx2 zx3 zx4 zx5 zx6 zx7; have hb := below_alloc (Below.refl w5.heap.size w5) (.cells #[.slice Ag0 ng0 cg0, .slice Ag1 ng1 cg1, .slice Ag2 ng2 cg2, .int .i64 a4, .bool a5, .int .i64 a6, .int .i64 a7] 31); have Z13 := Aside0.mk (heap_alloc_new w5 (.cells #[.slice Ag0 ng0 cg0, .slice Ag1 ng1 cg1, .slice Ag2 ng2 cg2, .int .i64 a4, .bool a5, .int .i64 a6, .int .i64 a7] 31)); have n0_ := Aside0.mk (below_step HB.out hb); have n1_ := Aside0.mk (blk_below ZP.out hb); have n2_ := Aside0.mk (W0.out.step (fun k_ _ hk_ => hb.block k_ hk_)); have n3_ := Aside0.mk (blk_below Z10.out hb); have n4_ := Aside0.mk (X0.out.step (fun k_ _ hk_ => hb.block k_ hk_)); have n5_ := Aside0.mk (blk_below Z11.out hb); have n6_ := Aside0.mk (G0.out.step (fun k_ _ hk_ => hb.block k_ hk_)); clear HB ZP W0 Z10 X0 Z11 G0; have HB := n0_; have ZP := n1_; have W0 := n2_; have Z10 := n3_; have X0 := n4_; have Z11 := n5_; have G0 := n6_; clear n0_ n1_ n2_ n3_ n4_ n5_ n6_; clear hb; have zp0 := (blk_cell ZP.out 0).trans rfl; have zp1 := (blk_cell ZP.out 1).trans rfl; have zp2 := (blk_cell ZP.out 2).trans rfl; have zp3 := (blk_cell ZP.out 3).trans rfl; have zp4 := (blk_cell ZP.out 4).trans rfl; have zp5 := (blk_cell ZP.out 5).trans rfl; have zp6 := (blk_cell ZP.out 6).trans rfl; have zp7 := (blk_cell ZP.out 7).trans rfl; have za0 := (blk_cell Z10.out 0).trans rfl; have za1 := (blk_cell Z10.out 1).trans rfl; have za2 := (blk_cell Z10.out 2).trans rfl; have za3 := (blk_cell Z10.out 3).trans rfl; have za4 := (blk_cell Z10.out 4).trans rfl; have za5 := (blk_cell Z10.out 5).trans rfl; have za6 := (blk_cell Z10.out 6).trans rfl; have zx0 := (blk_cell Z11.out 0).trans rfl; have zx1 := (blk_cell Z11.out 1).trans rfl; have zx2 := (blk_cell Z11.out 2).trans rfl; have zx3 := (blk_cell Z11.out 3).trans rfl; have zx4 := (blk_cell Z11.out 4).trans rfl; have zx5 := (blk_cell Z11.out 5).trans rfl; have zx6 := (blk_cell Z11.out 6).trans rfl; have zx7 := (blk_cell Z11.out 7).trans rfl; have zg0 := (blk_cell Z13.out 0).trans rfl; have zg1 := (blk_cell Z13.out 1).trans rfl; have zg2 := (blk_cell Z13.out 2).trans rfl; have zg3 := (blk_cell Z13.out 3).trans rfl; have zg4 := (blk_cell Z13.out 4).trans rfl; have zg5 := (blk_cell Z13.out 5).trans rfl; have zg6 := (blk_cell Z13.out 6).trans rfl) | ((with_reducible refine gate_dst (N := 25) rfl ?_); refine goesL_ _ rfl rfl Try.func8 (by kernel_rfl) rfl #[.agg #[.slice Ag0 ng0 cg0, .slice Ag1 ng1 cg1, .slice Ag2 ng2 cg2, .int .i64 a4, .bool a5, .int .i64 a6, .int .i64 a7], .agg #[.slice Aa0 na0 ca0, .slice Aa1 na1 ca1, .slice Aa2 na2 ca2, .int .i64 a4, .bool a5, .int .i64 a6, .int .i64 a7]] rfl gl ?_; refine (eqG G0.out W0.out F4.out).mono ?_; rintro e w6 ⟨rfl, hb⟩; refine ⟨_, rfl, ?_⟩; clear zp0 zp1 zp2 zp3 zp4 zp5 zp6 zp7 za0 za1 za2 za3 za4 za5 za6 zx0 zx1 zx2 zx3 zx4 zx5 zx6 zx7 zg0 zg1 zg2 zg3 zg4 zg5 zg6; have n0_ := Aside0.mk (below_step HB.out hb); have n1_ := Aside0.mk (blk_below ZP.out hb); have n2_ := Aside0.mk (W0.out.step (fun k_ _ hk_ => hb.block k_ hk_)); have n3_ := Aside0.mk (blk_below Z10.out hb); have n4_ := Aside0.mk (X0.out.step (fun k_ _ hk_ => hb.block k_ hk_)); have n5_ := Aside0.mk (blk_below Z11.out hb); have n6_ := Aside0.mk (G0.out.step (fun k_ _ hk_ => hb.block k_ hk_)); have n7_ := Aside0.mk (blk_below Z13.out hb); clear HB ZP W0 Z10 X0 Z11 G0 Z13; have HB := n0_; have ZP := n1_; have W0 := n2_; have Z10 := n3_; have X0 := n4_; have Z11 := n5_; have G0 := n6_; have Z13 := n7_; clear n0_ n1_ n2_ n3_ n4_ n5_ n6_ n7_; clear hb; have zp0 := (blk_cell ZP.out 0).trans rfl; have zp1 := (blk_cell ZP.out 1).trans rfl; have zp2 := (blk_cell ZP.out 2).trans rfl; have zp3 := (blk_cell ZP.out 3).trans rfl; have zp4 := (blk_cell ZP.out 4).trans rfl; have zp5 := (blk_cell ZP.out 5).trans rfl; have zp6 := (blk_cell ZP.out 6).trans rfl; have zp7 := (blk_cell ZP.out 7).trans rfl; have za0 := (blk_cell Z10.out 0).trans rfl; have za1 := (blk_cell Z10.out 1).trans rfl; have za2 := (blk_cell Z10.out 2).trans rfl; have za3 := (blk_cell Z10.out 3).trans rfl; have za4 := (blk_cell Z10.out 4).trans rfl; have za5 := (blk_cell Z10.out 5).trans rfl; have za6 := (blk_cell Z10.out 6).trans rfl; have zx0 := (blk_cell Z11.out 0).trans rfl; have zx1 := (blk_cell Z11.out 1).trans rfl; have zx2 := (blk_cell Z11.out 2).trans rfl; have zx3 := (blk_cell Z11.out 3).trans rfl; have zx4 := (blk_cell Z11.out 4).trans rfl; have zx5 := (blk_cell Z11.out 5).trans rfl; have zx6 := (blk_cell Z11.out 6).trans rfl; have zx7 := (blk_cell Z11.out 7).trans rfl; have zg0 := (blk_cell Z13.out 0).trans rfl; have zg1 := (blk_cell Z13.out 1).trans rfl; have zg2 := (blk_cell Z13.out 2).trans rfl; have zg3 := (blk_cell Z13.out 3).trans rfl; have zg4 := (blk_cell Z13.out 4).trans rfl; have zg5 := (blk_cell Z13.out 5).trans rfl; have zg6 := (blk_cell Z13.out 6).trans rfl))
 have hb := below_drew1 (Below.refl w6.heap.size w6)
 clear zp0 zp1 zp2 zp3 zp4 zp5 zp6 zp7 za0 za1 za2 za3 za4 za5 za6 zx0 zx1 zx2 zx3 zx4 zx5 zx6 zx7 zg0 zg1 zg2 zg3 zg4 zg5 zg6
 have n0_ := Aside0.mk (below_step HB.out hb)
 have n1_ := Aside0.mk (blk_below ZP.out hb)
 have n2_ := Aside0.mk (W0.out.step (fun k_ _ hk_ => hb.block k_ hk_))
 have n3_ := Aside0.mk (blk_below Z10.out hb)
 have n4_ := Aside0.mk (X0.out.step (fun k_ _ hk_ => hb.block k_ hk_))
 have n5_ := Aside0.mk (blk_below Z11.out hb)
 have n6_ := Aside0.mk (G0.out.step (fun k_ _ hk_ => hb.block k_ hk_))
 have n7_ := Aside0.mk (blk_below Z13.out hb)
 clear HB ZP W0 Z10 X0 Z11 G0 Z13
 have HB := n0_
 have ZP := n1_
 have W0 := n2_
 have Z10 := n3_
 have X0 := n4_
 have Z11 := n5_
 have G0 := n6_
 have Z13 := n7_
 clear n0_ n1_ n2_ n3_ n4_ n5_ n6_ n7_
 clear hb
 have zp0 := (blk_cell ZP.out 0).trans rfl
 have zp1 := (blk_cell ZP.out 1).trans rfl
 have zp2 := (blk_cell ZP.out 2).trans rfl
 have zp3 := (blk_cell ZP.out 3).trans rfl
 have zp4 := (blk_cell ZP.out 4).trans rfl
 have zp5 := (blk_cell ZP.out 5).trans rfl
 have zp6 := (blk_cell ZP.out 6).trans rfl
 have zp7 := (blk_cell ZP.out 7).trans rfl
 have za0 := (blk_cell Z10.out 0).trans rfl
 have za1 := (blk_cell Z10.out 1).trans rfl
 have za2 := (blk_cell Z10.out 2).trans rfl
 have za3 := (blk_cell Z10.out 3).trans rfl
 have za4 := (blk_cell Z10.out 4).trans rfl
 have za5 := (blk_cell Z10.out 5).trans rfl
 have za6 := (blk_cell Z10.out 6).trans rfl
 have zx0 := (blk_cell Z11.out 0).trans rfl
 have zx1 := (blk_cell Z11.out 1).trans rfl
 have zx2 := (blk_cell Z11.out 2).trans rfl
 have zx3 := (blk_cell Z11.out 3).trans rfl
 have zx4 := (blk_cell Z11.out 4).trans rfl
 have zx5 := (blk_cell Z11.out 5).trans rfl
 have zx6 := (blk_cell Z11.out 6).trans rfl
 have zx7 := (blk_cell Z11.out 7).trans rfl
 have zg0 := (blk_cell Z13.out 0).trans rfl
 have zg1 := (blk_cell Z13.out 1).trans rfl
 have zg2 := (blk_cell Z13.out 2).trans rfl
 have zg3 := (blk_cell Z13.out 3).trans rfl
 have zg4 := (blk_cell Z13.out 4).trans rfl
 have zg5 := (blk_cell Z13.out 5).trans rfl
 have zg6 := (blk_cell Z13.out 6).trans rfl
 go_region_held3 (fun w' => w'.cell? ⟨w4.heap.size, 0, none⟩ = some (.slice Ax0 nx0 cx0) ∧ w'.cell? ⟨w4.heap.size, 1, none⟩ = some (.slice Ax1 nx1 cx1) ∧ w'.cell? ⟨w4.heap.size, 2, none⟩ = some (.slice Ax2 nx2 cx2) ∧ w'.cell? ⟨w4.heap.size, 3, none⟩ = some (.slice Ax3 nx3 cx3) ∧ w'.cell? ⟨w4.heap.size, 4, none⟩ = some (.int .i64 a4) ∧ w'.cell? ⟨w4.heap.size, 5, none⟩ = some (.bool a5) ∧ w'.cell? ⟨w4.heap.size, 6, none⟩ = some (.int .i64 a6) ∧ w'.cell? ⟨w4.heap.size, 7, none⟩ = some (.int .i64 a7) ∧ w'.cell? ⟨w.heap.size, 0, none⟩ = some (.slice A0 a0.length c0) ∧ w'.cell? ⟨w.heap.size, 1, none⟩ = some (.slice A1 a1.length c1) ∧ w'.cell? ⟨w.heap.size, 2, none⟩ = some (.slice A2 a2.length c2) ∧ w'.cell? ⟨w.heap.size, 3, none⟩ = some (.slice A3 a3.length c3) ∧ w'.cell? ⟨w.heap.size, 4, none⟩ = some (.int .i64 a4) ∧ w'.cell? ⟨w.heap.size, 5, none⟩ = some (.bool a5) ∧ w'.cell? ⟨w.heap.size, 6, none⟩ = some (.int .i64 a6) ∧ w'.cell? ⟨w.heap.size, 7, none⟩ = some (.int .i64 a7)) (exact ⟨(blk_cell Z11.out 0).trans rfl, (blk_cell Z11.out 1).trans rfl, (blk_cell Z11.out 2).trans rfl, (blk_cell Z11.out 3).trans rfl, (blk_cell Z11.out 4).trans rfl, (blk_cell Z11.out 5).trans rfl, (blk_cell Z11.out 6).trans rfl, (blk_cell Z11.out 7).trans rfl, (blk_cell ZP.out 0).trans rfl, (blk_cell ZP.out 1).trans rfl, (blk_cell ZP.out 2).trans rfl, (blk_cell ZP.out 3).trans rfl, (blk_cell ZP.out 4).trans rfl, (blk_cell ZP.out 5).trans rfl, (blk_cell ZP.out 6).trans rfl, (blk_cell ZP.out 7).trans rfl⟩) (first | (go_at_call 6; refine (toX (HR.out.below HB.out) F1.out).mono ?_; rintro e w8 ⟨At0, At1, At2, At3, nt0, nt1, nt2, nt3, ct0, ct1, ct2, ct3, rfl, hX, hb⟩; have T0 := Aside0.mk hX; clear hX; clear zp0 zp1 zp2 zp3 zp4 zp5 zp6 zp7 za0 za1 za2 za3 za4 za5 za6 zx0 zx1 zx2 zx3 zx4 zx5 zx6 zx7 zg0 zg1 zg2 zg3 zg4 zg5 zg6; have n0_ := Aside0.mk (below_step HB.out hb); have n1_ := Aside0.mk (blk_below ZP.out hb); have n2_ := Aside0.mk (W0.out.step (fun k_ _ hk_ => hb.block k_ hk_)); have n3_ := Aside0.mk (blk_below Z10.out hb); have n4_ := Aside0.mk (X0.out.step (fun k_ _ hk_ => hb.block k_ hk_)); have n5_ := Aside0.mk (blk_below Z11.out hb); have n6_ := Aside0.mk (G0.out.step (fun k_ _ hk_ => hb.block k_ hk_)); have n7_ := Aside0.mk (blk_below Z13.out hb); clear HB ZP W0 Z10 X0 Z11 G0 Z13; have HB := n0_; have ZP := n1_; have W0 := n2_; have Z10 := n3_; have X0 := n4_; have Z11 := n5_; have G0 := n6_; have Z13 := n7_; clear n0_ n1_ n2_ n3_ n4_ n5_ n6_ n7_; clear hb; have zp0 := (blk_cell ZP.out 0).trans rfl; have zp1 := (blk_cell ZP.out 1).trans rfl; have zp2 := (blk_cell ZP.out 2).trans rfl; have zp3 := (blk_cell ZP.out 3).trans rfl; have zp4 := (blk_cell ZP.out 4).trans rfl; have zp5 := (blk_cell ZP.out 5).trans rfl; have zp6 := (blk_cell ZP.out 6).trans rfl; have zp7 := (blk_cell ZP.out 7).trans rfl; have za0 := (blk_cell Z10.out 0).trans rfl; have za1 := (blk_cell Z10.out 1).trans rfl; have za2 := (blk_cell Z10.out 2).trans rfl; have za3 := (blk_cell Z10.out 3).trans rfl; have za4 := (blk_cell Z10.out 4).trans rfl; have za5 := (blk_cell Z10.out 5).trans rfl; have za6 := (blk_cell Z10.out 6).trans rfl; have zx0 := (blk_cell Z11.out 0).trans rfl; have zx1 := (blk_cell Z11.out 1).trans rfl; have zx2 := (blk_cell Z11.out 2).trans rfl; have zx3 := (blk_cell Z11.out 3).trans rfl; have zx4 := (blk_cell Z11.out 4).trans rfl; have zx5 := (blk_cell Z11.out 5).trans rfl; have zx6 := (blk_cell Z11.out 6).trans rfl; have zx7 := (blk_cell Z11.out 7).trans rfl; have zg0 := (blk_cell Z13.out 0).trans rfl; have zg1 := (blk_cell Z13.out 1).trans rfl; have zg2 := (blk_cell Z13.out 2).trans rfl; have zg3 := (blk_cell Z13.out 3).trans rfl; have zg4 := (blk_cell Z13.out 4).trans rfl; have zg5 := (blk_cell Z13.out 5).trans rfl; have zg6 := (blk_cell Z13.out 6).trans rfl) | (go_at_call 9; refine (eqX X0.out T0.out F5.out).mono ?_; rintro e w9 ⟨rfl, hb⟩; clear T0; clear zp0 zp1 zp2 zp3 zp4 zp5 zp6 zp7 za0 za1 za2 za3 za4 za5 za6 zx0 zx1 zx2 zx3 zx4 zx5 zx6 zx7 zg0 zg1 zg2 zg3 zg4 zg5 zg6; have n0_ := Aside0.mk (below_step HB.out hb); have n1_ := Aside0.mk (blk_below ZP.out hb); have n2_ := Aside0.mk (W0.out.step (fun k_ _ hk_ => hb.block k_ hk_)); have n3_ := Aside0.mk (blk_below Z10.out hb); have n4_ := Aside0.mk (X0.out.step (fun k_ _ hk_ => hb.block k_ hk_)); have n5_ := Aside0.mk (blk_below Z11.out hb); have n6_ := Aside0.mk (G0.out.step (fun k_ _ hk_ => hb.block k_ hk_)); have n7_ := Aside0.mk (blk_below Z13.out hb); clear HB ZP W0 Z10 X0 Z11 G0 Z13; have HB := n0_; have ZP := n1_; have W0 := n2_; have Z10 := n3_; have X0 := n4_; have Z11 := n5_; have G0 := n6_; have Z13 := n7_; clear n0_ n1_ n2_ n3_ n4_ n5_ n6_ n7_; clear hb; have zp0 := (blk_cell ZP.out 0).trans rfl; have zp1 := (blk_cell ZP.out 1).trans rfl; have zp2 := (blk_cell ZP.out 2).trans rfl; have zp3 := (blk_cell ZP.out 3).trans rfl; have zp4 := (blk_cell ZP.out 4).trans rfl; have zp5 := (blk_cell ZP.out 5).trans rfl; have zp6 := (blk_cell ZP.out 6).trans rfl; have zp7 := (blk_cell ZP.out 7).trans rfl; have za0 := (blk_cell Z10.out 0).trans rfl; have za1 := (blk_cell Z10.out 1).trans rfl; have za2 := (blk_cell Z10.out 2).trans rfl; have za3 := (blk_cell Z10.out 3).trans rfl; have za4 := (blk_cell Z10.out 4).trans rfl; have za5 := (blk_cell Z10.out 5).trans rfl; have za6 := (blk_cell Z10.out 6).trans rfl; have zx0 := (blk_cell Z11.out 0).trans rfl; have zx1 := (blk_cell Z11.out 1).trans rfl; have zx2 := (blk_cell Z11.out 2).trans rfl; have zx3 := (blk_cell Z11.out 3).trans rfl; have zx4 := (blk_cell Z11.out 4).trans rfl; have zx5 := (blk_cell Z11.out 5).trans rfl; have zx6 := (blk_cell Z11.out 6).trans rfl; have zx7 := (blk_cell Z11.out 7).trans rfl; have zg0 := (blk_cell Z13.out 0).trans rfl; have zg1 := (blk_cell Z13.out 1).trans rfl; have zg2 := (blk_cell Z13.out 2).trans rfl; have zg3 := (blk_cell Z13.out 3).trans rfl; have zg4 := (blk_cell Z13.out 4).trans rfl; have zg5 := (blk_cell Z13.out 5).trans rfl; have zg6 := (blk_cell Z13.out 6).trans rfl))
 go_wp2_with (first | ((with_reducible refine gate_dst (N := 34) rfl ?_); refine goesL_ _ rfl rfl Try.func10 (by kernel_rfl) rfl #[.agg #[.slice Ax0 nx0 cx0, .slice Ax1 nx1 cx1, .slice Ax2 nx2 cx2, .slice Ax3 nx3 cx3, .int .i64 a4, .bool a5, .int .i64 a6, .int .i64 a7], .int .i64 1] rfl gl ?_; refine (markX (w0 := w) HB.out X0.out F6.out.1).mono ?_; rintro e w10 ⟨rfl, hb, hk⟩; refine ⟨_, rfl, ?_⟩; clear X0; clear zp0 zp1 zp2 zp3 zp4 zp5 zp6 zp7 za0 za1 za2 za3 za4 za5 za6 zx0 zx1 zx2 zx3 zx4 zx5 zx6 zx7 zg0 zg1 zg2 zg3 zg4 zg5 zg6; have n0_ := Aside0.mk (hb); have n1_ := Aside0.mk ((hk.2 _ (blk_lt ZP.out) (fun h_ => by have h9 := HS.out; have h8 := h_; first | omega | (simp at h8; done) | (simp at h8; omega))).trans ZP.out); have n2_ := Aside0.mk (W0.out.step (fun k_ a_ b_ => hk.2 k_ b_ (fun h_ => by have h9 := HS.out; have h7 := a_; have h8 := h_; first | omega | (simp at h7 h8; done) | (simp at h7 h8; omega)))); have n3_ := Aside0.mk ((hk.2 _ (blk_lt Z10.out) (fun h_ => by have h9 := HS.out; have h8 := h_; first | omega | (simp at h8; done) | (simp at h8; omega))).trans Z10.out); have n4_ := Aside0.mk ((hk.2 _ (blk_lt Z11.out) (fun h_ => by have h9 := HS.out; have h8 := h_; first | omega | (simp at h8; done) | (simp at h8; omega))).trans Z11.out); have n5_ := Aside0.mk (G0.out.step (fun k_ a_ b_ => hk.2 k_ b_ (fun h_ => by have h9 := HS.out; have h7 := a_; have h8 := h_; first | omega | (simp at h7 h8; done) | (simp at h7 h8; omega)))); have n6_ := Aside0.mk ((hk.2 _ (blk_lt Z13.out) (fun h_ => by have h9 := HS.out; have h8 := h_; first | omega | (simp at h8; done) | (simp at h8; omega))).trans Z13.out); clear HB ZP W0 Z10 Z11 G0 Z13; have HB := n0_; have ZP := n1_; have W0 := n2_; have Z10 := n3_; have Z11 := n4_; have G0 := n5_; have Z13 := n6_; clear n0_ n1_ n2_ n3_ n4_ n5_ n6_; clear hb hk; have zp0 := (blk_cell ZP.out 0).trans rfl; have zp1 := (blk_cell ZP.out 1).trans rfl; have zp2 := (blk_cell ZP.out 2).trans rfl; have zp3 := (blk_cell ZP.out 3).trans rfl; have zp4 := (blk_cell ZP.out 4).trans rfl; have zp5 := (blk_cell ZP.out 5).trans rfl; have zp6 := (blk_cell ZP.out 6).trans rfl; have zp7 := (blk_cell ZP.out 7).trans rfl; have za0 := (blk_cell Z10.out 0).trans rfl; have za1 := (blk_cell Z10.out 1).trans rfl; have za2 := (blk_cell Z10.out 2).trans rfl; have za3 := (blk_cell Z10.out 3).trans rfl; have za4 := (blk_cell Z10.out 4).trans rfl; have za5 := (blk_cell Z10.out 5).trans rfl; have za6 := (blk_cell Z10.out 6).trans rfl; have zx0 := (blk_cell Z11.out 0).trans rfl; have zx1 := (blk_cell Z11.out 1).trans rfl; have zx2 := (blk_cell Z11.out 2).trans rfl; have zx3 := (blk_cell Z11.out 3).trans rfl; have zx4 := (blk_cell Z11.out 4).trans rfl; have zx5 := (blk_cell Z11.out 5).trans rfl; have zx6 := (blk_cell Z11.out 6).trans rfl; have zx7 := (blk_cell Z11.out 7).trans rfl; have zg0 := (blk_cell Z13.out 0).trans rfl; have zg1 := (blk_cell Z13.out 1).trans rfl; have zg2 := (blk_cell Z13.out 2).trans rfl; have zg3 := (blk_cell Z13.out 3).trans rfl; have zg4 := (blk_cell Z13.out 4).trans rfl; have zg5 := (blk_cell Z13.out 5).trans rfl; have zg6 := (blk_cell Z13.out 6).trans rfl) | ((refine gate_guard (by rfl) ?_); (with_reducible refine gate_dst (N := 40) rfl ?_); refine goesL_ _ rfl rfl Try.func8 (by kernel_rfl) rfl #[.agg #[.slice Ag0 ng0 cg0, .slice Ag1 ng1 cg1, .slice Ag2 ng2 cg2, .int .i64 a4, .bool a5, .int .i64 a6, .int .i64 a7], .agg #[.slice Aa0 na0 ca0, .slice Aa1 na1 ca1, .slice Aa2 na2 ca2, .int .i64 a4, .bool a5, .int .i64 a6, .int .i64 a7]] rfl gl ?_; refine (eqG G0.out W0.out F4.out).mono ?_; rintro e w11 ⟨rfl, hb⟩; refine ⟨_, rfl, ?_⟩; clear zp0 zp1 zp2 zp3 zp4 zp5 zp6 zp7 za0 za1 za2 za3 za4 za5 za6 zx0 zx1 zx2 zx3 zx4 zx5 zx6 zx7 zg0 zg1 zg2 zg3 zg4 zg5 zg6; have n0_ := Aside0.mk (below_step HB.out hb); have n1_ := Aside0.mk (blk_below ZP.out hb); have n2_ := Aside0.mk (W0.out.step (fun k_ _ hk_ => hb.block k_ hk_)); have n3_ := Aside0.mk (blk_below Z10.out hb); have n4_ := Aside0.mk (blk_below Z11.out hb); have n5_ := Aside0.mk (G0.out.step (fun k_ _ hk_ => hb.block k_ hk_)); have n6_ := Aside0.mk (blk_below Z13.out hb); clear HB ZP W0 Z10 Z11 G0 Z13; have HB := n0_; have ZP := n1_; have W0 := n2_; have Z10 := n3_; have Z11 := n4_; have G0 := n5_; have Z13 := n6_; clear n0_ n1_ n2_ n3_ n4_ n5_ n6_; clear hb; have zp0 := (blk_cell ZP.out 0).trans rfl; have zp1 := (blk_cell ZP.out 1).trans rfl; have zp2 := (blk_cell ZP.out 2).trans rfl; have zp3 := (blk_cell ZP.out 3).trans rfl; have zp4 := (blk_cell ZP.out 4).trans rfl; have zp5 := (blk_cell ZP.out 5).trans rfl; have zp6 := (blk_cell ZP.out 6).trans rfl; have zp7 := (blk_cell ZP.out 7).trans rfl; have za0 := (blk_cell Z10.out 0).trans rfl; have za1 := (blk_cell Z10.out 1).trans rfl; have za2 := (blk_cell Z10.out 2).trans rfl; have za3 := (blk_cell Z10.out 3).trans rfl; have za4 := (blk_cell Z10.out 4).trans rfl; have za5 := (blk_cell Z10.out 5).trans rfl; have za6 := (blk_cell Z10.out 6).trans rfl; have zx0 := (blk_cell Z11.out 0).trans rfl; have zx1 := (blk_cell Z11.out 1).trans rfl; have zx2 := (blk_cell Z11.out 2).trans rfl; have zx3 := (blk_cell Z11.out 3).trans rfl; have zx4 := (blk_cell Z11.out 4).trans rfl; have zx5 := (blk_cell Z11.out 5).trans rfl; have zx6 := (blk_cell Z11.out 6).trans rfl; have zx7 := (blk_cell Z11.out 7).trans rfl; have zg0 := (blk_cell Z13.out 0).trans rfl; have zg1 := (blk_cell Z13.out 1).trans rfl; have zg2 := (blk_cell Z13.out 2).trans rfl; have zg3 := (blk_cell Z13.out 3).trans rfl; have zg4 := (blk_cell Z13.out 4).trans rfl; have zg5 := (blk_cell Z13.out 5).trans rfl; have zg6 := (blk_cell Z13.out 6).trans rfl) | ((with_reducible refine gate_dst (N := 45) rfl ?_); refine goesL_ _ rfl rfl Try.func11 (by kernel_rfl) rfl #[.agg #[.slice Ag0 ng0 cg0, .slice Ag1 ng1 cg1, .slice Ag2 ng2 cg2, .int .i64 a4, .bool a5, .int .i64 a6, .int .i64 a7], .int .i64 1] rfl gl ?_; refine (markGm F7.out.2.1 (w0 := w) HB.out G0.out).mono ?_; rintro e w12 ⟨rfl, hG, hb, hk⟩; refine ⟨_, rfl, ?_⟩; clear G0; clear zp0 zp1 zp2 zp3 zp4 zp5 zp6 zp7 za0 za1 za2 za3 za4 za5 za6 zx0 zx1 zx2 zx3 zx4 zx5 zx6 zx7 zg0 zg1 zg2 zg3 zg4 zg5 zg6; have n0_ := Aside0.mk (hb); have n1_ := Aside0.mk ((hk.2 _ (blk_lt ZP.out) (fun h_ => by have h9 := HS.out; have h8 := h_; first | omega | (simp at h8; done) | (simp at h8; omega))).trans ZP.out); have n2_ := Aside0.mk (W0.out.step (fun k_ a_ b_ => hk.2 k_ b_ (fun h_ => by have h9 := HS.out; have h7 := a_; have h8 := h_; first | omega | (simp at h7 h8; done) | (simp at h7 h8; omega)))); have n3_ := Aside0.mk ((hk.2 _ (blk_lt Z10.out) (fun h_ => by have h9 := HS.out; have h8 := h_; first | omega | (simp at h8; done) | (simp at h8; omega))).trans Z10.out); have n4_ := Aside0.mk ((hk.2 _ (blk_lt Z11.out) (fun h_ => by have h9 := HS.out; have h8 := h_; first | omega | (simp at h8; done) | (simp at h8; omega))).trans Z11.out); have n5_ := Aside0.mk ((hk.2 _ (blk_lt Z13.out) (fun h_ => by have h9 := HS.out; have h8 := h_; first | omega | (simp at h8; done) | (simp at h8; omega))).trans Z13.out); clear HB ZP W0 Z10 Z11 Z13; have HB := n0_; have ZP := n1_; have W0 := n2_; have Z10 := n3_; have Z11 := n4_; have Z13 := n5_; clear n0_ n1_ n2_ n3_ n4_ n5_; clear hb hk; have zp0 := (blk_cell ZP.out 0).trans rfl; have zp1 := (blk_cell ZP.out 1).trans rfl; have zp2 := (blk_cell ZP.out 2).trans rfl; have zp3 := (blk_cell ZP.out 3).trans rfl; have zp4 := (blk_cell ZP.out 4).trans rfl; have zp5 := (blk_cell ZP.out 5).trans rfl; have zp6 := (blk_cell ZP.out 6).trans rfl; have zp7 := (blk_cell ZP.out 7).trans rfl; have za0 := (blk_cell Z10.out 0).trans rfl; have za1 := (blk_cell Z10.out 1).trans rfl; have za2 := (blk_cell Z10.out 2).trans rfl; have za3 := (blk_cell Z10.out 3).trans rfl; have za4 := (blk_cell Z10.out 4).trans rfl; have za5 := (blk_cell Z10.out 5).trans rfl; have za6 := (blk_cell Z10.out 6).trans rfl; have zx0 := (blk_cell Z11.out 0).trans rfl; have zx1 := (blk_cell Z11.out 1).trans rfl; have zx2 := (blk_cell Z11.out 2).trans rfl; have zx3 := (blk_cell Z11.out 3).trans rfl; have zx4 := (blk_cell Z11.out 4).trans rfl; have zx5 := (blk_cell Z11.out 5).trans rfl; have zx6 := (blk_cell Z11.out 6).trans rfl; have zx7 := (blk_cell Z11.out 7).trans rfl; have zg0 := (blk_cell Z13.out 0).trans rfl; have zg1 := (blk_cell Z13.out 1).trans rfl; have zg2 := (blk_cell Z13.out 2).trans rfl; have zg3 := (blk_cell Z13.out 3).trans rfl; have zg4 := (blk_cell Z13.out 4).trans rfl; have zg5 := (blk_cell Z13.out 5).trans rfl; have zg6 := (blk_cell Z13.out 6).trans rfl; have G0 := Aside0.mk hG; clear hG) | ((with_reducible refine gate_dst (N := 48) rfl ?_); refine goesL_ _ rfl rfl Try.func12 (by kernel_rfl) rfl #[.agg #[.slice Ag0 ng0 cg0, .slice Ag1 ng1 cg1, .slice Ag2 ng2 cg2, .int .i64 a4, .bool a5, .int .i64 a6, .int .i64 a7], .int .i64 1] rfl gl ?_; refine (heldG G0.out F7.out.1).mono ?_; rintro e w13 ⟨rfl, hb⟩; refine ⟨_, rfl, ?_⟩; clear zp0 zp1 zp2 zp3 zp4 zp5 zp6 zp7 za0 za1 za2 za3 za4 za5 za6 zx0 zx1 zx2 zx3 zx4 zx5 zx6 zx7 zg0 zg1 zg2 zg3 zg4 zg5 zg6; have n0_ := Aside0.mk (below_step HB.out hb); have n1_ := Aside0.mk (blk_below ZP.out hb); have n2_ := Aside0.mk (W0.out.step (fun k_ _ hk_ => hb.block k_ hk_)); have n3_ := Aside0.mk (blk_below Z10.out hb); have n4_ := Aside0.mk (blk_below Z11.out hb); have n5_ := Aside0.mk (G0.out.step (fun k_ _ hk_ => hb.block k_ hk_)); have n6_ := Aside0.mk (blk_below Z13.out hb); clear HB ZP W0 Z10 Z11 G0 Z13; have HB := n0_; have ZP := n1_; have W0 := n2_; have Z10 := n3_; have Z11 := n4_; have G0 := n5_; have Z13 := n6_; clear n0_ n1_ n2_ n3_ n4_ n5_ n6_; clear hb; have zp0 := (blk_cell ZP.out 0).trans rfl; have zp1 := (blk_cell ZP.out 1).trans rfl; have zp2 := (blk_cell ZP.out 2).trans rfl; have zp3 := (blk_cell ZP.out 3).trans rfl; have zp4 := (blk_cell ZP.out 4).trans rfl; have zp5 := (blk_cell ZP.out 5).trans rfl; have zp6 := (blk_cell ZP.out 6).trans rfl; have zp7 := (blk_cell ZP.out 7).trans rfl; have za0 := (blk_cell Z10.out 0).trans rfl; have za1 := (blk_cell Z10.out 1).trans rfl; have za2 := (blk_cell Z10.out 2).trans rfl; have za3 := (blk_cell Z10.out 3).trans rfl; have za4 := (blk_cell Z10.out 4).trans rfl; have za5 := (blk_cell Z10.out 5).trans rfl; have za6 := (blk_cell Z10.out 6).trans rfl; have zx0 := (blk_cell Z11.out 0).trans rfl; have zx1 := (blk_cell Z11.out 1).trans rfl; have zx2 := (blk_cell Z11.out 2).trans rfl; have zx3 := (blk_cell Z11.out 3).trans rfl; have zx4 := (blk_cell Z11.out 4).trans rfl; have zx5 := (blk_cell Z11.out 5).trans rfl; have zx6 := (blk_cell Z11.out 6).trans rfl; have zx7 := (blk_cell Z11.out 7).trans rfl; have zg0 := (blk_cell Z13.out 0).trans rfl; have zg1 := (blk_cell Z13.out 1).trans rfl; have zg2 := (blk_cell Z13.out 2).trans rfl; have zg3 := (blk_cell Z13.out 3).trans rfl; have zg4 := (blk_cell Z13.out 4).trans rfl; have zg5 := (blk_cell Z13.out 5).trans rfl; have zg6 := (blk_cell Z13.out 6).trans rfl) | ((with_reducible refine gate_dst (N := 55) rfl ?_); refine goesL_ _ rfl rfl Try.func6 (by kernel_rfl) rfl #[.agg #[.slice A0 a0.length c0, .slice A1 a1.length c1, .slice A2 a2.length c2, .slice A3 a3.length c3, .int .i64 a4, .bool a5, .int .i64 a6, .int .i64 a7]] rfl gl ?_; refine (toX (HR.out.below HB.out) F1.out).mono ?_; rintro e w14 ⟨At0, At1, At2, At3, nt0, nt1, nt2, nt3, ct0, ct1, ct2, ct3, rfl, hX, hb⟩; refine ⟨_, rfl, ?_⟩; have T0 := Aside0.mk hX; clear hX; clear zp0 zp1 zp2 zp3 zp4 zp5 zp6 zp7 za0 za1 za2 za3 za4 za5 za6 zx0 zx1 zx2 zx3 zx4 zx5 zx6 zx7 zg0 zg1 zg2 zg3 zg4 zg5 zg6; have n0_ := Aside0.mk (below_step HB.out hb); have n1_ := Aside0.mk (blk_below ZP.out hb); have n2_ := Aside0.mk (W0.out.step (fun k_ _ hk_ => hb.block k_ hk_)); have n3_ := Aside0.mk (blk_below Z10.out hb); have n4_ := Aside0.mk (blk_below Z11.out hb); have n5_ := Aside0.mk (G0.out.step (fun k_ _ hk_ => hb.block k_ hk_)); have n6_ := Aside0.mk (blk_below Z13.out hb); clear HB ZP W0 Z10 Z11 G0 Z13; have HB := n0_; have ZP := n1_; have W0 := n2_; have Z10 := n3_; have Z11 := n4_; have G0 := n5_; have Z13 := n6_; clear n0_ n1_ n2_ n3_ n4_ n5_ n6_; clear hb; have zp0 := (blk_cell ZP.out 0).trans rfl; have zp1 := (blk_cell ZP.out 1).trans rfl; have zp2 := (blk_cell ZP.out 2).trans rfl; have zp3 := (blk_cell ZP.out 3).trans rfl; have zp4 := (blk_cell ZP.out 4).trans rfl; have zp5 := (blk_cell ZP.out 5).trans rfl; have zp6 := (blk_cell ZP.out 6).trans rfl; have zp7 := (blk_cell ZP.out 7).trans rfl; have za0 := (blk_cell Z10.out 0).trans rfl; have za1 := (blk_cell Z10.out 1).trans rfl; have za2 := (blk_cell Z10.out 2).trans rfl; have za3 := (blk_cell Z10.out 3).trans rfl; have za4 := (blk_cell Z10.out 4).trans rfl; have za5 := (blk_cell Z10.out 5).trans rfl; have za6 := (blk_cell Z10.out 6).trans rfl; have zx0 := (blk_cell Z11.out 0).trans rfl; have zx1 := (blk_cell Z11.out 1).trans rfl; have zx2 := (blk_cell Z11.out 2).trans rfl; have zx3 := (blk_cell Z11.out 3).trans rfl; have zx4 := (blk_cell Z11.out 4).trans rfl; have zx5 := (blk_cell Z11.out 5).trans rfl; have zx6 := (blk_cell Z11.out 6).trans rfl; have zx7 := (blk_cell Z11.out 7).trans rfl; have zg0 := (blk_cell Z13.out 0).trans rfl; have zg1 := (blk_cell Z13.out 1).trans rfl; have zg2 := (blk_cell Z13.out 2).trans rfl; have zg3 := (blk_cell Z13.out 3).trans rfl; have zg4 := (blk_cell Z13.out 4).trans rfl; have zg5 := (blk_cell Z13.out 5).trans rfl; have zg6 := (blk_cell Z13.out 6).trans rfl) | ((with_reducible refine gate_dst (N := 56) rfl ?_); refine goesL_ _ rfl rfl Try.func7 (by kernel_rfl) rfl #[.agg #[.slice At0 nt0 ct0, .slice At1 nt1 ct1, .slice At2 nt2 ct2, .slice At3 nt3 ct3, .int .i64 a4, .bool a5, .int .i64 a6, .int .i64 a7]] rfl gl ?_; refine (implG T0.out F3.out).mono ?_; rintro e w15 ⟨Ah0, Ah1, Ah2, nh0, nh1, nh2, ch0, ch1, ch2, rfl, hG, hb⟩; refine ⟨_, rfl, ?_⟩; have H0 := Aside0.mk hG; clear T0 hG; clear zp0 zp1 zp2 zp3 zp4 zp5 zp6 zp7 za0 za1 za2 za3 za4 za5 za6 zx0 zx1 zx2 zx3 zx4 zx5 zx6 zx7 zg0 zg1 zg2 zg3 zg4 zg5 zg6; have n0_ := Aside0.mk (below_step HB.out hb); have n1_ := Aside0.mk (blk_below ZP.out hb); have n2_ := Aside0.mk (W0.out.step (fun k_ _ hk_ => hb.block k_ hk_)); have n3_ := Aside0.mk (blk_below Z10.out hb); have n4_ := Aside0.mk (blk_below Z11.out hb); have n5_ := Aside0.mk (G0.out.step (fun k_ _ hk_ => hb.block k_ hk_)); have n6_ := Aside0.mk (blk_below Z13.out hb); clear HB ZP W0 Z10 Z11 G0 Z13; have HB := n0_; have ZP := n1_; have W0 := n2_; have Z10 := n3_; have Z11 := n4_; have G0 := n5_; have Z13 := n6_; clear n0_ n1_ n2_ n3_ n4_ n5_ n6_; clear hb; have zp0 := (blk_cell ZP.out 0).trans rfl; have zp1 := (blk_cell ZP.out 1).trans rfl; have zp2 := (blk_cell ZP.out 2).trans rfl; have zp3 := (blk_cell ZP.out 3).trans rfl; have zp4 := (blk_cell ZP.out 4).trans rfl; have zp5 := (blk_cell ZP.out 5).trans rfl; have zp6 := (blk_cell ZP.out 6).trans rfl; have zp7 := (blk_cell ZP.out 7).trans rfl; have za0 := (blk_cell Z10.out 0).trans rfl; have za1 := (blk_cell Z10.out 1).trans rfl; have za2 := (blk_cell Z10.out 2).trans rfl; have za3 := (blk_cell Z10.out 3).trans rfl; have za4 := (blk_cell Z10.out 4).trans rfl; have za5 := (blk_cell Z10.out 5).trans rfl; have za6 := (blk_cell Z10.out 6).trans rfl; have zx0 := (blk_cell Z11.out 0).trans rfl; have zx1 := (blk_cell Z11.out 1).trans rfl; have zx2 := (blk_cell Z11.out 2).trans rfl; have zx3 := (blk_cell Z11.out 3).trans rfl; have zx4 := (blk_cell Z11.out 4).trans rfl; have zx5 := (blk_cell Z11.out 5).trans rfl; have zx6 := (blk_cell Z11.out 6).trans rfl; have zx7 := (blk_cell Z11.out 7).trans rfl; have zg0 := (blk_cell Z13.out 0).trans rfl; have zg1 := (blk_cell Z13.out 1).trans rfl; have zg2 := (blk_cell Z13.out 2).trans rfl; have zg3 := (blk_cell Z13.out 3).trans rfl; have zg4 := (blk_cell Z13.out 4).trans rfl; have zg5 := (blk_cell Z13.out 5).trans rfl; have zg6 := (blk_cell Z13.out 6).trans rfl; clear zp0 zp1 zp2 zp3 zp4 zp5 zp6 zp7 za0 za1 za2 za3 za4 za5 za6 zx0 zx1 zx2 zx3 zx4 zx5 zx6 zx7 zg0 zg1 zg2 zg3 zg4 zg5 zg6; have hb := below_alloc (Below.refl w15.heap.size w15) (.cells #[.slice Ah0 nh0 ch0, .slice Ah1 nh1 ch1, .slice Ah2 nh2 ch2, .int .i64 a4, .bool a5, .int .i64 a6, .int .i64 a7] 31); have Z17 := Aside0.mk (heap_alloc_new w15 (.cells #[.slice Ah0 nh0 ch0, .slice Ah1 nh1 ch1, .slice Ah2 nh2 ch2, .int .i64 a4, .bool a5, .int .i64 a6, .int .i64 a7] 31)); have n0_ := Aside0.mk (below_step HB.out hb); have n1_ := Aside0.mk (blk_below ZP.out hb); have n2_ := Aside0.mk (W0.out.step (fun k_ _ hk_ => hb.block k_ hk_)); have n3_ := Aside0.mk (blk_below Z10.out hb); have n4_ := Aside0.mk (blk_below Z11.out hb); have n5_ := Aside0.mk (G0.out.step (fun k_ _ hk_ => hb.block k_ hk_)); have n6_ := Aside0.mk (blk_below Z13.out hb); have n7_ := Aside0.mk (H0.out.step (fun k_ _ hk_ => hb.block k_ hk_)); clear HB ZP W0 Z10 Z11 G0 Z13 H0; have HB := n0_; have ZP := n1_; have W0 := n2_; have Z10 := n3_; have Z11 := n4_; have G0 := n5_; have Z13 := n6_; have H0 := n7_; clear n0_ n1_ n2_ n3_ n4_ n5_ n6_ n7_; clear hb; have zp0 := (blk_cell ZP.out 0).trans rfl; have zp1 := (blk_cell ZP.out 1).trans rfl; have zp2 := (blk_cell ZP.out 2).trans rfl; have zp3 := (blk_cell ZP.out 3).trans rfl; have zp4 := (blk_cell ZP.out 4).trans rfl; have zp5 := (blk_cell ZP.out 5).trans rfl; have zp6 := (blk_cell ZP.out 6).trans rfl; have zp7 := (blk_cell ZP.out 7).trans rfl; have za0 := (blk_cell Z10.out 0).trans rfl; have za1 := (blk_cell Z10.out 1).trans rfl; have za2 := (blk_cell Z10.out 2).trans rfl; have za3 := (blk_cell Z10.out 3).trans rfl; have za4 := (blk_cell Z10.out 4).trans rfl; have za5 := (blk_cell Z10.out 5).trans rfl; have za6 := (blk_cell Z10.out 6).trans rfl; have zx0 := (blk_cell Z11.out 0).trans rfl; have zx1 := (blk_cell Z11.out 1).trans rfl; have zx2 := (blk_cell Z11.out 2).trans rfl; have zx3 := (blk_cell Z11.out 3).trans rfl; have zx4 := (blk_cell Z11.out 4).trans rfl; have zx5 := (blk_cell Z11.out 5).trans rfl; have zx6 := (blk_cell Z11.out 6).trans rfl; have zx7 := (blk_cell Z11.out 7).trans rfl; have zg0 := (blk_cell Z13.out 0).trans rfl; have zg1 := (blk_cell Z13.out 1).trans rfl; have zg2 := (blk_cell Z13.out 2).trans rfl; have zg3 := (blk_cell Z13.out 3).trans rfl; have zg4 := (blk_cell Z13.out 4).trans rfl; have zg5 := (blk_cell Z13.out 5).trans rfl; have zg6 := (blk_cell Z13.out 6).trans rfl; have zh0 := (blk_cell Z17.out 0).trans rfl; have zh1 := (blk_cell Z17.out 1).trans rfl; have zh2 := (blk_cell Z17.out 2).trans rfl; have zh3 := (blk_cell Z17.out 3).trans rfl; have zh4 := (blk_cell Z17.out 4).trans rfl; have zh5 := (blk_cell Z17.out 5).trans rfl; have zh6 := (blk_cell Z17.out 6).trans rfl) | ((with_reducible refine gate_dst (N := 59) rfl ?_); refine goesL_ _ rfl rfl Try.func8 (by kernel_rfl) rfl #[.agg #[.slice Ah0 nh0 ch0, .slice Ah1 nh1 ch1, .slice Ah2 nh2 ch2, .int .i64 a4, .bool a5, .int .i64 a6, .int .i64 a7], .agg #[.slice Aa0 na0 ca0, .slice Aa1 na1 ca1, .slice Aa2 na2 ca2, .int .i64 a4, .bool a5, .int .i64 a6, .int .i64 a7]] rfl gl ?_; refine (eqG H0.out W0.out F4.out).mono ?_; rintro e w16 ⟨rfl, hb⟩; refine ⟨_, rfl, ?_⟩; clear zp0 zp1 zp2 zp3 zp4 zp5 zp6 zp7 za0 za1 za2 za3 za4 za5 za6 zx0 zx1 zx2 zx3 zx4 zx5 zx6 zx7 zg0 zg1 zg2 zg3 zg4 zg5 zg6 zh0 zh1 zh2 zh3 zh4 zh5 zh6; have n0_ := Aside0.mk (below_step HB.out hb); have n1_ := Aside0.mk (blk_below ZP.out hb); have n2_ := Aside0.mk (W0.out.step (fun k_ _ hk_ => hb.block k_ hk_)); have n3_ := Aside0.mk (blk_below Z10.out hb); have n4_ := Aside0.mk (blk_below Z11.out hb); have n5_ := Aside0.mk (G0.out.step (fun k_ _ hk_ => hb.block k_ hk_)); have n6_ := Aside0.mk (blk_below Z13.out hb); have n7_ := Aside0.mk (H0.out.step (fun k_ _ hk_ => hb.block k_ hk_)); have n8_ := Aside0.mk (blk_below Z17.out hb); clear HB ZP W0 Z10 Z11 G0 Z13 H0 Z17; have HB := n0_; have ZP := n1_; have W0 := n2_; have Z10 := n3_; have Z11 := n4_; have G0 := n5_; have Z13 := n6_; have H0 := n7_; have Z17 := n8_; clear n0_ n1_ n2_ n3_ n4_ n5_ n6_ n7_ n8_; clear hb; have zp0 := (blk_cell ZP.out 0).trans rfl; have zp1 := (blk_cell ZP.out 1).trans rfl; have zp2 := (blk_cell ZP.out 2).trans rfl; have zp3 := (blk_cell ZP.out 3).trans rfl; have zp4 := (blk_cell ZP.out 4).trans rfl; have zp5 := (blk_cell ZP.out 5).trans rfl; have zp6 := (blk_cell ZP.out 6).trans rfl; have zp7 := (blk_cell ZP.out 7).trans rfl; have za0 := (blk_cell Z10.out 0).trans rfl; have za1 := (blk_cell Z10.out 1).trans rfl; have za2 := (blk_cell Z10.out 2).trans rfl; have za3 := (blk_cell Z10.out 3).trans rfl; have za4 := (blk_cell Z10.out 4).trans rfl; have za5 := (blk_cell Z10.out 5).trans rfl; have za6 := (blk_cell Z10.out 6).trans rfl; have zx0 := (blk_cell Z11.out 0).trans rfl; have zx1 := (blk_cell Z11.out 1).trans rfl; have zx2 := (blk_cell Z11.out 2).trans rfl; have zx3 := (blk_cell Z11.out 3).trans rfl; have zx4 := (blk_cell Z11.out 4).trans rfl; have zx5 := (blk_cell Z11.out 5).trans rfl; have zx6 := (blk_cell Z11.out 6).trans rfl; have zx7 := (blk_cell Z11.out 7).trans rfl; have zg0 := (blk_cell Z13.out 0).trans rfl; have zg1 := (blk_cell Z13.out 1).trans rfl; have zg2 := (blk_cell Z13.out 2).trans rfl; have zg3 := (blk_cell Z13.out 3).trans rfl; have zg4 := (blk_cell Z13.out 4).trans rfl; have zg5 := (blk_cell Z13.out 5).trans rfl; have zg6 := (blk_cell Z13.out 6).trans rfl; have zh0 := (blk_cell Z17.out 0).trans rfl; have zh1 := (blk_cell Z17.out 1).trans rfl; have zh2 := (blk_cell Z17.out 2).trans rfl; have zh3 := (blk_cell Z17.out 3).trans rfl; have zh4 := (blk_cell Z17.out 4).trans rfl; have zh5 := (blk_cell Z17.out 5).trans rfl; have zh6 := (blk_cell Z17.out 6).trans rfl) | ((with_reducible refine gate_dst (N := 63) rfl ?_); refine goesL_ _ rfl rfl Try.func12 (by kernel_rfl) rfl #[.agg #[.slice Ag0 ng0 cg0, .slice Ag1 ng1 cg1, .slice Ag2 ng2 cg2, .int .i64 a4, .bool a5, .int .i64 a6, .int .i64 a7], .int .i64 1] rfl gl ?_; refine (heldG G0.out F7.out.1).mono ?_; rintro e w17 ⟨rfl, hb⟩; refine ⟨_, rfl, ?_⟩; skip; have n0_ := Aside0.mk (below_step HB.out hb); have n1_ := Aside0.mk (G0.out.step (fun k_ _ hk_ => hb.block k_ hk_)); clear HB G0; have HB := n0_; have G0 := n1_; clear n0_ n1_; clear hb; skip))
 go_ret
 exact ⟨rfl, HB.out⟩
end Go.Proofs.Yticdldoijkdffaa.QFnExactMixTold
