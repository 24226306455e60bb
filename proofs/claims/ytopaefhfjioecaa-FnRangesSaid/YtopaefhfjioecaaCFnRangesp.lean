import Derived.Test.YtopaefhfjioecaaCFnRangesg7
namespace Go.Proofs.Ytopaefhfjioecaa.Pure
open Go.RowKit Go.Proofs.Ytopaefhfjioecaa.QFnRanges Go.Proofs.YtopaefhfjioecaaW.PrintWords Go.Proofs.YtopaefhfjioecaaW.PrintLast
set_option linter.unusedVariables false
set_option linter.unusedSimpArgs false
theorem om {Q : Prop} (h : Q := by omega) : Q := h
theorem Ev.succ {α : Type} {g : Nat → Option α} {r : α} (h : Ev (fun k => g (k + 1)) r) : Ev g r := Ev.step (fun _ => rfl) h
theorem Ev.yes {α : Type} {c : Prop} [Decidable c] {g f : Nat → Option α} {r : α} (hc : c) (h : Ev g r) : Ev (fun k => if c then g k else f k) r := Ev.congr (fun _ => if_pos hc) h
theorem Ev.no {α : Type} {c : Prop} [Decidable c] {g f : Nat → Option α} {r : α} (hc : ¬ c) (h : Ev f r) : Ev (fun k => if c then g k else f k) r := Ev.congr (fun _ => if_neg hc) h
theorem Ev.cases {α : Type} {c : Prop} [Decidable c] {g f : Nat → Option α} {r : α} (h1 : c → Ev g r) (h2 : ¬ c → Ev f r) : Ev (fun k => if c then g k else f k) r := by
 by_cases hc : c
 ·exact Ev.yes hc (h1 hc)
 ·exact Ev.no hc (h2 hc)
theorem Ev.flat {α β : Type} {g : Option α} {f : Nat → α → Option β} {a : α} {r : β} (h : g = some a) (k : Ev (fun n => f n a) r) : Ev (fun n => g.bind (f n)) r := Ev.bind (g := fun _ => g) ⟨0, fun _ _ => h⟩ k
theorem wrap_in {n : Int} (h0 : -9223372036854775808 ≤ n) (h1 : n ≤ 9223372036854775807) : wrap64 n = n := by unfold wrap64; omega
theorem wrap_lo (n : Int) : -9223372036854775808 ≤ wrap64 n := by unfold wrap64; omega
theorem beq_no {a b : Int} (h : ¬ a = b) : (a == b) = false := beq_eq_false_iff_ne.2 h
theorem Ev.uniq {α : Type} {g : Nat → Option α} {r r' : α} (h : Ev g r) (h' : Ev g r') : r = r' := by
 obtain ⟨a, ha⟩ := h
 obtain ⟨b, hb⟩ := h'
 have h1 := ha (max a b) (Nat.le_max_left _ _)
 rw [hb (max a b) (Nat.le_max_right _ _)] at h1
 exact (Option.some.inj h1).symm
theorem idx_next {i n : Nat} (h : i < n) (hn : n ≤ 1048576) : wrap64 ((i : Int) + 1) = ((i + 1 : Nat) : Int) := by rw [wrap_in om om]; simp
def left (m a : Int) : Int := if m ≤ a then a - m else -1
def isLeast (w : List Bool) (a : Nat) : Prop := a < w.length ∧ w.getD a false = true ∧ ∀ b, b < a → w.getD b false = false
theorem least_ex (w : List Bool) : (∀ b, w.getD b false = false) ∨ ∃ a, isLeast w a := by
 induction w with
 | nil => exact Or.inl (fun b => by simp)
 | cons x w ih =>
  cases x with
  | true => exact Or.inr ⟨0, by simp, by simp, fun b hb => by omega⟩
  | false =>
   rcases ih with h | ⟨a, h1, h2, h3⟩
   ·refine Or.inl (fun b => ?_)
    cases b with
    | zero => simp
    | succ b => simpa using h b
   ·refine Or.inr ⟨a + 1, by simpa using h1, by simpa using h2, fun b hb => ?_⟩
    cases b with
    | zero => simp
    | succ b => simpa using h3 b om
def nexts (len : Nat) (v : Int) : List Int → List Int → List Bool → Except (List Int × Int) (List Int × List Bool)
 | [], h, w => .ok (h, w)
 | n :: r, h, w => if (len : Int) ≤ n then .error (h, 6) else if 0 ≤ rd h n ∧ rd h n ≠ v then .error (h, 5) else if rd h n < 0 then nexts len v r (h.set n.toNat v) (w.set n.toNat true) else nexts len v r h w
structure Mach where
 len : Nat
 bad : Nat → Int → Bool
 v : Nat → Int → Int
 nx : Nat → List Int
def Mach.step (M : Mach) (h : List Int) (w : List Bool) (a : Nat) : Except (List Int × Int) (List Int × List Bool) := if M.bad a (rd h a) = true then .error (h, 5) else nexts M.len (M.v a (rd h a)) (M.nx a) h (w.set a false)
inductive Run (M : Mach) : List Int → List Bool → List Int × Int × Int → Prop
 | stop {h w} : (∀ b, w.getD b false = false) → Run M h w (h, 0, 0)
 | bad {h w a h' c} : isLeast w a → M.step h w a = .error (h', c) → Run M h w (h', (a : Int), c)
 | go {h w a h' w' r} : isLeast w a → M.step h w a = .ok (h', w') → Run M h' w' r → Run M h w r
def sumTo (g : Nat → Nat) : Nat → Nat
 | 0 => 0
 | n + 1 => sumTo g n + g n
theorem sumTo_congr {g g' : Nat → Nat} : ∀ n, (∀ i, i < n → g i = g' i) → sumTo g n = sumTo g' n
 | 0, _ => rfl
 | n + 1, h => by simp only [sumTo]; rw [sumTo_congr n (fun i hi => h i om), h n om]
theorem sumTo_at {g g' : Nat → Nat} {a : Nat} (he : ∀ i, i ≠ a → g i = g' i) : ∀ n, a < n → sumTo g n + g' a = sumTo g' n + g a
 | 0, h => by omega
 | n + 1, h => by
  simp only [sumTo]
  by_cases hn : a = n
  ·subst hn
   rw [sumTo_congr a (fun i hi => he i om)]; omega
  ·have := sumTo_at he n om
   rw [he n (fun e => hn e.symm)]; omega
def wt (len : Nat) (h : List Int) (w : List Bool) (a : Nat) : Nat := (if rd h a < 0 ∨ w.getD a false = true then 2 * len + 1 else 0) + (if rd h a < 0 ∧ w.getD a false = true then len - a else 0)
theorem rd_nat (h : List Int) (a : Nat) : rd h (a : Int) = h.getD a 0 := by simp [rd]
theorem rd_set {h : List Int} {n : Nat} (hn : n < h.length) (x : Int) (i : Nat) : rd (h.set n x) (i : Int) = if i = n then x else rd h i := by
 rw [rd_nat, rd_nat, List.getD_eq_getElem?_getD, List.getD_eq_getElem?_getD, List.getElem?_set]
 by_cases e : n = i
 ·subst e; simp [hn]
 ·rw [if_neg e, if_neg (fun e' => e e'.symm)]
theorem gb_set {w : List Bool} {n : Nat} (hn : n < w.length) (x : Bool) (i : Nat) : (w.set n x).getD i false = if i = n then x else w.getD i false := by
 rw [List.getD_eq_getElem?_getD, List.getD_eq_getElem?_getD, List.getElem?_set]
 by_cases e : n = i
 ·subst e; simp [hn]
 ·rw [if_neg e, if_neg (fun e' => e e'.symm)]
theorem nexts_len (len : Nat) (v : Int) : ∀ (l h : List Int) (w : List Bool), h.length = len → w.length = len → ∀ h' w', nexts len v l h w = .ok (h', w') → h'.length = len ∧ w'.length = len
 | [], h, w, h0, h1, h', w', e => by simp only [nexts, Except.ok.injEq, Prod.mk.injEq] at e; obtain ⟨rfl, rfl⟩ := e; exact ⟨h0, h1⟩
 | n :: r, h, w, h0, h1, h', w', e => by
  simp only [nexts] at e
  split at e
  ·cases e
  ·split at e
   ·cases e
   ·split at e
    ·exact nexts_len len v r _ _ (by simpa using h0) (by simpa using h1) h' w' e
    ·exact nexts_len len v r _ _ h0 h1 h' w' e
theorem nexts_bad (len : Nat) (v : Int) : ∀ (l h : List Int) (w : List Bool), h.length = len → ∀ h' c, nexts len v l h w = .error (h', c) → h'.length = len ∧ (c = 5 ∨ c = 6)
 | [], h, w, h0, h', c, e => by simp [nexts] at e
 | n :: r, h, w, h0, h', c, e => by
  simp only [nexts] at e
  split at e
  ·simp only [Except.error.injEq, Prod.mk.injEq] at e; obtain ⟨rfl, rfl⟩ := e; exact ⟨h0, Or.inr rfl⟩
  ·split at e
   ·simp only [Except.error.injEq, Prod.mk.injEq] at e; obtain ⟨rfl, rfl⟩ := e; exact ⟨h0, Or.inl rfl⟩
   ·split at e
    ·exact nexts_bad len v r _ _ (by simpa using h0) h' c e
    ·exact nexts_bad len v r _ _ h0 h' c e
theorem nexts_wt (len : Nat) (v : Int) : ∀ (l h : List Int) (w : List Bool), h.length = len → w.length = len → (∀ n ∈ l, 0 ≤ n) → ∀ h' w', nexts len v l h w = .ok (h', w') →
  sumTo (wt len h' w') len ≤ sumTo (wt len h w) len + (l.map fun n => len - n.toNat).sum
 | [], h, w, h0, h1, hp, h', w', e => by simp only [nexts, Except.ok.injEq, Prod.mk.injEq] at e; obtain ⟨rfl, rfl⟩ := e; simp
 | n :: r, h, w, h0, h1, hp, h', w', e => by
  have hn := hp n (by simp)
  have hr : ∀ m ∈ r, 0 ≤ m := fun m hm => hp m (by simp [hm])
  simp only [nexts] at e
  simp only [List.map_cons, List.sum_cons]
  split at e
  ·cases e
  rename_i hlt
  split at e
  ·cases e
  split at e
  ·rename_i hneg
   have ih := nexts_wt len v r _ _ (by simpa using h0) (by simpa using h1) hr h' w' e
   have hb : n.toNat < len := by omega
   have eq : ((n.toNat : Nat) : Int) = n := by omega
   have st := sumTo_at (g := wt len (h.set n.toNat v) (w.set n.toNat true)) (g' := wt len h w) (a := n.toNat) (fun i hi => by
    unfold wt
    rw [rd_set om, gb_set om, if_neg hi, if_neg hi]) len hb
   have w1 : wt len (h.set n.toNat v) (w.set n.toNat true) n.toNat ≤ 2 * len + 1 + (len - n.toNat) := by
    unfold wt; split <;> split <;> omega
   have w2 : 2 * len + 1 ≤ wt len h w n.toNat := by
    unfold wt; rw [eq, if_pos (Or.inl hneg)]; omega
   omega
  ·have ih := nexts_wt len v r _ _ h0 h1 hr h' w' e
   omega
structure Mach.Good (M : Mach) : Prop where
 nn : ∀ a, a < M.len → ∀ n ∈ M.nx a, 0 ≤ n
 two : ∀ a, a < M.len → (M.nx a).length ≤ 2
 lo : ∀ a x, -9223372036854775808 ≤ M.v a x
 neg : ∀ a, a < M.len → ∀ x, x < 0 → -9223372036854775808 ≤ x → M.bad a x = false → M.nx a = [] ∨ M.nx a = [(a : Int) + 1]
theorem nexts_all {P : Int → Prop} (len : Nat) (v : Int) (hv : P v) : ∀ (l h : List Int) (w : List Bool), h.length = len → (∀ n ∈ l, 0 ≤ n) → (∀ a : Nat, P (rd h a)) → ∀ h' w', nexts len v l h w = .ok (h', w') → ∀ a : Nat, P (rd h' a)
 | [], h, w, h0, hp, i1, h', w', e => by simp only [nexts, Except.ok.injEq, Prod.mk.injEq] at e; obtain ⟨rfl, rfl⟩ := e; exact i1
 | n :: r, h, w, h0, hp, i1, h', w', e => by
  have hn := hp n (by simp)
  have hr : ∀ m ∈ r, 0 ≤ m := fun m hm => hp m (by simp [hm])
  simp only [nexts] at e
  split at e
  ·cases e
  split at e
  ·cases e
  split at e
  ·refine nexts_all len v hv r _ _ (by simpa using h0) hr (fun a => ?_) h' w' e
   rw [rd_set om]
   split
   ·exact hv
   ·exact i1 a
  ·exact nexts_all len v hv r _ _ h0 hr i1 h' w' e
theorem step_wt {M : Mach} (G : M.Good) {h : List Int} {w : List Bool} {a : Nat} (h0 : h.length = M.len) (h1 : w.length = M.len) (hl : isLeast w a) (hR : ∀ b : Nat, -9223372036854775808 ≤ rd h b) {h' : List Int} {w' : List Bool} (e : M.step h w a = .ok (h', w')) :
  sumTo (wt M.len h' w') M.len < sumTo (wt M.len h w) M.len ∧ (h'.length = M.len ∧ w'.length = M.len) ∧ ∀ b : Nat, -9223372036854775808 ≤ rd h' b := by
 obtain ⟨ha, hw, _⟩ := hl
 have ha' : a < M.len := by omega
 unfold Mach.step at e
 split at e
 ·cases e
 rename_i hb
 have hL := nexts_len _ _ _ _ _ h0 (by simpa using h1) _ _ e
 refine ⟨?_, hL, nexts_all _ _ (G.lo _ _) _ _ _ h0 (G.nn a ha') hR _ _ e⟩
 have hs := nexts_wt _ _ _ _ _ h0 (by simpa using h1) (G.nn a ha') _ _ e
 have st := sumTo_at (g := wt M.len h (w.set a false)) (g' := wt M.len h w) (a := a) (fun i hi => by
  unfold wt
  rw [gb_set ha, if_neg hi]) M.len ha'
 by_cases hx : rd h a < 0
 ·have w1 : wt M.len h (w.set a false) a = 2 * M.len + 1 := by
   unfold wt; rw [gb_set ha]; simp [hx]
  have w2 : wt M.len h w a = 2 * M.len + 1 + (M.len - a) := by
   unfold wt; rw [if_pos (Or.inl hx), if_pos ⟨hx, hw⟩]
  rcases G.neg a ha' _ hx (hR a) (by simpa using hb) with hn | hn
  ·rw [hn] at hs; simp at hs; omega
  ·rw [hn] at hs; simp at hs
   omega
 ·have w1 : wt M.len h (w.set a false) a = 0 := by
   unfold wt; rw [gb_set ha]; simp [hx]
  have w2 : wt M.len h w a = 2 * M.len + 1 := by
   unfold wt; rw [if_pos (Or.inr hw), if_neg (fun c => hx c.1)]
  have h2 := G.two a ha'
  have hs2 : ((M.nx a).map fun n => M.len - n.toNat).sum ≤ 2 * M.len := by
   match hq : M.nx a with
   | [] => simp
   | [x] => simp; omega
   | [x, y] => simp; omega
   | x :: y :: z :: t => rw [hq] at h2; simp at h2
  omega
theorem run_ends {M : Mach} (G : M.Good) : ∀ (m : Nat) (h : List Int) (w : List Bool), h.length = M.len → w.length = M.len → (∀ b : Nat, -9223372036854775808 ≤ rd h b) → sumTo (wt M.len h w) M.len ≤ m → ∃ r, Run M h w r := by
 intro m
 induction m with
 | zero =>
  intro h w h0 h1 hR hm
  rcases least_ex w with hn | ⟨a, ha⟩
  ·exact ⟨_, Run.stop hn⟩
  ·match e : M.step h w a with
   | .error (h', c) => exact ⟨_, Run.bad ha e⟩
   | .ok (h', w') => have := (step_wt G h0 h1 ha hR e).1; omega
 | succ m ih =>
  intro h w h0 h1 hR hm
  rcases least_ex w with hn | ⟨a, ha⟩
  ·exact ⟨_, Run.stop hn⟩
  ·match e : M.step h w a with
   | .error (h', c) => exact ⟨_, Run.bad ha e⟩
   | .ok (h', w') =>
    obtain ⟨hs, hl, hR'⟩ := step_wt G h0 h1 ha hR e
    obtain ⟨r, hr⟩ := ih h' w' hl.1 hl.2 hR' om
    exact ⟨r, Run.go ha e hr⟩
theorem step_bad {M : Mach} {h : List Int} {w : List Bool} {a : Nat} (h0 : h.length = M.len) {h' : List Int} {c : Int} (e : M.step h w a = .error (h', c)) : h'.length = M.len ∧ (c = 5 ∨ c = 6) := by
 unfold Mach.step at e
 split at e
 ·simp only [Except.error.injEq, Prod.mk.injEq] at e; obtain ⟨rfl, rfl⟩ := e; exact ⟨h0, Or.inl rfl⟩
 ·exact nexts_bad _ _ _ _ _ h0 _ _ e
theorem step_len {M : Mach} {h : List Int} {w : List Bool} {a : Nat} (h0 : h.length = M.len) (h1 : w.length = M.len) {h' : List Int} {w' : List Bool} (e : M.step h w a = .ok (h', w')) : h'.length = M.len ∧ w'.length = M.len := by
 unfold Mach.step at e
 split at e
 ·cases e
 ·exact nexts_len _ _ _ _ _ h0 (by simpa using h1) _ _ e
theorem run_len {M : Mach} {h : List Int} {w : List Bool} {r : List Int × Int × Int} (hr : Run M h w r) : h.length = M.len → w.length = M.len → r.1.length = M.len ∧ (r.2.2 = 0 ∨ r.2.2 = 5 ∨ r.2.2 = 6) ∧ (r.2.2 = 0 → r.2.1 = 0) := by
 induction hr with
 | stop hn => intro h0 h1; exact ⟨h0, Or.inl rfl, fun _ => rfl⟩
 | bad ha e => intro h0 h1; have := step_bad h0 e; exact ⟨this.1, Or.inr this.2, fun hc => by have := this.2; simp at hc; omega⟩
 | go ha e _ ih => intro h0 h1; have := step_len h0 h1 e; exact ih this.1 this.2
theorem nexts_ok {P : Int → Prop} (len : Nat) (v : Int) (hv : P v) : ∀ (l h : List Int) (w : List Bool), h.length = len → w.length = len → (∀ n ∈ l, 0 ≤ n) → (∀ a : Nat, w.getD a false = true → P (rd h a)) → (∀ a : Nat, P (rd h a) ∨ rd h a < 0) → ∀ h' w', nexts len v l h w = .ok (h', w') →
  (∀ a : Nat, w'.getD a false = true → P (rd h' a)) ∧ (∀ a : Nat, P (rd h' a) ∨ rd h' a < 0)
 | [], h, w, h0, h1, hp, i1, i2, h', w', e => by simp only [nexts, Except.ok.injEq, Prod.mk.injEq] at e; obtain ⟨rfl, rfl⟩ := e; exact ⟨i1, i2⟩
 | n :: r, h, w, h0, h1, hp, i1, i2, h', w', e => by
  have hn := hp n (by simp)
  have hr : ∀ m ∈ r, 0 ≤ m := fun m hm => hp m (by simp [hm])
  simp only [nexts] at e
  split at e
  ·cases e
  rename_i hlt
  split at e
  ·cases e
  split at e
  ·have hb : n.toNat < len := by omega
   refine nexts_ok len v hv r _ _ (by simpa using h0) (by simpa using h1) hr (fun a ha => ?_) (fun a => ?_) h' w' e
   ·rw [rd_set om]
    rw [gb_set om] at ha
    split
    ·exact hv
    ·rename_i hne; rw [if_neg hne] at ha; exact i1 a ha
   ·rw [rd_set om]
    split
    ·exact Or.inl hv
    ·exact i2 a
  ·exact nexts_ok len v hv r _ _ h0 h1 hr i1 i2 h' w' e
theorem run_same {M M' : Mach} {P : Int → Prop} (e1 : M'.len = M.len) (e2 : M'.v = M.v) (e3 : M'.nx = M.nx) (G : M.Good) (hb : ∀ a, a < M.len → ∀ x, P x → M'.bad a x = M.bad a x) (hv : ∀ a, a < M.len → ∀ x, P x → M.bad a x = false → P (M.v a x))
  {h : List Int} {w : List Bool} {r : List Int × Int × Int} (hr : Run M h w r) : h.length = M.len → w.length = M.len → (∀ a : Nat, w.getD a false = true → P (rd h a)) → (∀ a : Nat, P (rd h a) ∨ rd h a < 0) → Run M' h w r := by
 induction hr with
 | stop hn => intro _ _ _ _; exact Run.stop hn
 | @bad h w a h' c ha e =>
  intro h0 h1 i1 i2
  refine Run.bad ha ?_
  have hl : a < M.len := by have := ha.1; omega
  unfold Mach.step at e ⊢
  rw [hb a hl _ (i1 a ha.2.1), e1, e2, e3]; exact e
 | @go h w a h' w' r ha e _ ih =>
  intro h0 h1 i1 i2
  have hl : a < M.len := by have := ha.1; omega
  have hL := step_len h0 h1 e
  have e' := e
  unfold Mach.step at e
  split at e
  ·cases e
  rename_i hnb
  have := nexts_ok (P := P) M.len (M.v a (rd h a)) (hv a hl _ (i1 a ha.2.1) (by simpa using hnb)) (M.nx a) h (w.set a false) h0 (by simpa using h1) (G.nn a hl) (fun b hb => by
   rw [gb_set ha.1] at hb
   split at hb
   ·cases hb
   ·exact i1 b hb) i2 h' w' e
  refine Run.go ha ?_ (ih hL.1 hL.2 this.1 this.2)
  unfold Mach.step at e' ⊢
  rw [hb a hl _ (i1 a ha.2.1), e1, e2, e3]; exact e'
theorem in_some (a b c : Int) : impl_in.f a b c = some (decide (b ≤ a) && decide (a ≤ c)) := by
 unfold impl_in.f
 by_cases h : a ≥ b
 ·rw [if_pos h]; simp [show b ≤ a from h]
 ·rw [if_neg h]; simp [show ¬ b ≤ a from h]
def hasB {α : Type} (p : List α) (f : Int) : Bool := decide (0 ≤ f) && decide (f < p.length)
theorem hasFunc_some (p : List S35) (f : Int) : impl_hasFunc.f p f = some (hasB p f) := by
 unfold impl_hasFunc.f hasB
 by_cases h : f ≥ 0
 ·rw [if_pos h]; simp [show 0 ≤ f from h]
 ·rw [if_neg h]; simp [show ¬ 0 ≤ f from h]
theorem ite_some' {α : Type} {c : Prop} [Decidable c] {a b : α} : (if c then some a else some b) = some (if c then a else b) := by split <;> rfl
theorem hasB_iff {α : Type} {p : List α} {f : Int} : hasB p f = true ↔ 0 ≤ f ∧ f < p.length := by simp [hasB]
def isBin (op : Int) : Bool := decide (10 ≤ op) && decide (op ≤ 23)
def isUn (op : Int) : Bool := decide (24 ≤ op) && decide (op ≤ 29)
theorem implBin_some (op : Int) : impl_isBinary.f op = some (isBin op) := by unfold impl_isBinary.f; rw [in_some]; rfl
theorem implUn_some (op : Int) : impl_isUnary.f op = some (isUn op) := by unfold impl_isUnary.f; rw [in_some]; rfl
theorem specBin_some (op : Int) : spec_l03Binary.f op = some (isBin op) := by
 unfold spec_l03Binary.f isBin
 by_cases h : op ≥ 10
 ·rw [if_pos h]; simp [show 10 ≤ op from h]
 ·rw [if_neg h]; simp [show ¬ 10 ≤ op from h]
theorem specUn_some (op : Int) : spec_l03Unary.f op = some (isUn op) := by
 unfold spec_l03Unary.f isUn
 by_cases h : op ≥ 24
 ·rw [if_pos h]; simp [show 24 ≤ op from h]
 ·rw [if_neg h]; simp [show ¬ 24 ≤ op from h]
def takesV (p : List S35) (op a : Int) : Int :=
 if isBin op = true then 2 else if op = 35 then 2 else if op = 36 then 3 else if op = 32 then (if hasB p a = true then (rd_T35 p a).f0 else 0)
 else if isUn op = true then 1 else if op = 3 then 1 else if op = 4 then 1 else if op = 5 then 1 else if op = 31 then 1 else if op = 33 then 1 else if op = 34 then 1 else if op = 37 then 1 else if op = 38 then 1 else 0
theorem ite_ite {α : Type} {c : Prop} [Decidable c] (a b d : α) : (if c then (if c then a else b) else d) = (if c then a else d) := by by_cases h : c <;> simp [h]
theorem implTakes_ev (p : List S35) (op a : Int) : Ev (fun k => impl_Takes.f k p op a) (takesV p op a) := by
 refine Ev.of (fun k => impl_Takes.mono _ _ _ k) (k := 2) ?_
 unfold impl_Takes.f takesV
 rw [implBin_some, Option.bind_some]
 by_cases hb : isBin op = true
 ·rw [if_pos hb, if_pos hb]; simp only [impl_Takes.j0]; rw [if_pos hb]
 ·rw [if_neg hb, if_neg hb]
  simp only [impl_Takes.j0, impl_Takes.j1, implUn_some, hasFunc_some, Option.bind_some]
  by_cases h35 : op = 35
  ·rw [if_pos (by simp [h35]), if_pos h35]
  ·rw [if_neg (by simp [h35]), if_neg h35]
   by_cases h32 : op = 32
   ·subst h32
    simp only [show ((32 : Int) = 36) = False from by simp, if_false, if_true]
    by_cases hh : hasB p a = true
    ·have h2 := hasB_iff.1 hh
     simp only [if_pos hh, if_pos h2.1, if_pos h2.2]
    ·simp only [if_neg hh]
   ·rw [if_neg h32, if_neg h32]
    simp only [beq_iff_eq, ite_ite, ite_some']
theorem specTakes_ev (p : List S35) (op a : Int) : Ev (fun k => spec_Takes.f k p op a) (takesV p op a) := by
 refine Ev.of (fun k => spec_Takes.mono _ _ _ k) (k := 2) ?_
 unfold spec_Takes.f takesV
 rw [specBin_some, Option.bind_some]
 by_cases hb : isBin op = true
 ·rw [if_pos hb, if_pos hb]; simp only [spec_Takes.j0, if_true]
 ·rw [if_neg hb, if_neg hb]
  simp only [spec_Takes.j0, spec_Takes.j1, specUn_some, Option.bind_some]
  by_cases h35 : op = 35
  ·rw [if_pos (by simp [h35]), if_pos h35]
  ·rw [if_neg (by simp [h35]), if_neg h35]
   by_cases h32 : op = 32
   ·subst h32
    simp only [show ((32 : Int) = 36) = False from by simp, if_false, if_true]
    by_cases hh : hasB p a = true
    ·have h2 := hasB_iff.1 hh
     rw [if_neg om, if_neg om, if_pos h2.1, if_pos h2.2]; simp only [if_pos hh]
    ·simp only [if_neg hh]
     have h2 : ¬ (0 ≤ a ∧ a < p.length) := fun h => hh (hasB_iff.2 h)
     by_cases h0 : a < 0
     ·rw [if_pos h0]
     ·rw [if_neg h0, if_pos om]
   ·rw [if_neg h32, if_neg h32]
    simp only [beq_iff_eq, ite_ite, ite_some']
def putsV (op : Int) : Int := if isBin op = true then 1 else if isUn op = true then 1 else if op = 4 then 2 else if op = 1 then 1 else if op = 2 then 1 else if op = 32 then 1 else if op = 34 then 1 else if op = 35 then 1 else if op = 37 then 1 else 0
theorem putsV_bd (op : Int) : 0 ≤ putsV op ∧ putsV op ≤ 2 := by unfold putsV; repeat' split <;> omega
theorem isBin_iff {op : Int} : isBin op = true ↔ 10 ≤ op ∧ op ≤ 23 := by simp [isBin]
theorem isUn_iff {op : Int} : isUn op = true ↔ 24 ≤ op ∧ op ≤ 29 := by simp [isUn]
theorem implArith_some (op : Int) : impl_isArith.f op = some (decide (10 ≤ op) && decide (op ≤ 29)) := by unfold impl_isArith.f; rw [in_some]; rfl
theorem arith_split (op : Int) : (decide (10 ≤ op) && decide (op ≤ 29)) = true ↔ isBin op = true ∨ isUn op = true := by
 rw [isBin_iff, isUn_iff]; simp only [Bool.and_eq_true, decide_eq_true_eq]; omega
theorem implPuts_ev (op a : Int) : Ev (fun k => impl_Puts.f k op a) (putsV op) := by
 refine Ev.of (fun k => impl_Puts.mono _ _ k) (k := 1) ?_
 unfold impl_Puts.f putsV
 simp only [impl_Puts.j0, implArith_some, Option.bind_some, arith_split]
 by_cases h4 : op = 4
 ·subst h4; simp [isBin, isUn]
 by_cases h1 : op = 1
 ·subst h1; simp [isBin, isUn]
 by_cases h2 : op = 2
 ·subst h2; simp [isBin, isUn]
 by_cases h32 : op = 32
 ·subst h32; simp [isBin, isUn]
 by_cases h34 : op = 34
 ·subst h34; simp [isBin, isUn]
 by_cases h35 : op = 35
 ·subst h35; simp [isBin, isUn]
 by_cases h37 : op = 37
 ·subst h37; simp [isBin, isUn]
 simp only [if_neg h4, if_neg h1, if_neg h2, if_neg h32, if_neg h34, if_neg h35, beq_no h37, Bool.false_eq_true, if_false, if_neg h37]
 by_cases hb : isBin op = true
 ·simp [hb]
 ·by_cases hu : isUn op = true
  ·simp [hb, hu]
  ·simp [hb, hu]
theorem specPuts_ev (op a : Int) : Ev (fun k => spec_Puts.f k op a) (putsV op) := by
 refine Ev.of (fun k => spec_Puts.mono _ _ k) (k := 2) ?_
 unfold spec_Puts.f putsV
 rw [specBin_some, specUn_some, Option.bind_some, Option.bind_some]
 simp only [spec_Puts.j0, spec_Puts.j1, beq_iff_eq, ite_ite, ite_some', if_true]
def namedB (op : Int) : Bool := (decide (1 ≤ op) && decide (op ≤ 5)) || (decide (10 ≤ op) && decide (op ≤ 38))
def nameV (op : Int) : ByteArray := (impl_OpName.f op).getD ⟨#[]⟩
theorem names_small : ∀ n : Nat, n < 39 → impl_OpName.f (n : Int) = some (nameV (n : Int)) ∧ spec_OpName.f 1 (n : Int) = some (nameV (n : Int)) ∧ (((nameV (n : Int)).toList = []) ↔ namedB (n : Int) = false) := by
 decide +kernel
theorem name_all (op : Int) : impl_OpName.f op = some (nameV op) ∧ spec_OpName.f 1 op = some (nameV op) ∧ (((nameV op).toList = []) ↔ namedB op = false) := by
 by_cases hr : 0 ≤ op ∧ op ≤ 38
 ·obtain ⟨n, rfl⟩ := Int.eq_ofNat_of_zero_le hr.1
  exact names_small n om
 ·have h1 : impl_OpName.f op = some ⟨#[]⟩ := by
   unfold impl_OpName.f impl_in.f
   by_cases hc : op ≥ 0
   ·rw [if_pos hc]
    have : decide (op ≤ 38) = false := by simp; omega
    simp [this]
   ·rw [if_neg hc]
    simp
  have hv : nameV op = ⟨#[]⟩ := by unfold nameV; rw [h1]; rfl
  rw [hv]
  refine ⟨h1, ?_, ?_⟩
  ·unfold spec_OpName.f
   simp only [Option.bind_some]
   by_cases hc : op ≥ 1
   ·rw [if_pos hc]
    have : decide (op ≤ 5) = false := by simp; omega
    simp only [this, spec_OpName.j0]
    by_cases hd : op ≥ 10
    ·rw [if_neg (by simp), if_pos hd, if_neg om]
    ·rw [if_neg (by simp), if_neg hd]
   ·rw [if_neg hc]
    simp only [spec_OpName.j0]
    rw [if_neg (by simp), if_neg om]
  ·have : namedB op = false := by
    unfold namedB
    simp
    omega
   simp [this]
theorem implName_some (op : Int) : impl_OpName.f op = some (nameV op) := (name_all op).1
theorem specName_ev (op : Int) : Ev (fun k => spec_OpName.f k op) (nameV op) := Ev.of (fun k => spec_OpName.mono _ k) (name_all op).2.1
theorem name_none (op : Int) : (nameV op).toList = [] ↔ namedB op = false := (name_all op).2.2
def insRightV (p : List S35) (f op a : Int) : Bool :=
 if hasB p f = true then
  (if op = 1 then true else if op = 2 ∨ op = 3 then decide (0 ≤ a) && decide (a < (rd_T35 p f).f1) else if op = 30 ∨ op = 31 then decide (0 ≤ a) && decide (a < (rd_T35 p f).f2.length)
  else if op = 32 then hasB p a else namedB op && (a == 0))
 else false
theorem and_some (a : Int) (q : Prop) [Decidable q] : (if a ≥ 0 then some (decide q) else some false) = some (decide (0 ≤ a) && decide q) := by
 by_cases h : a ≥ 0
 ·rw [if_pos h]; simp [show 0 ≤ a from h]
 ·rw [if_neg h]; simp [show ¬ 0 ≤ a from h]
theorem implInsRight_ev (p : List S35) (f op a : Int) : Ev (fun k => impl_InsRight.f k p f op a) (insRightV p f op a) := by
 refine Ev.of (fun k => impl_InsRight.mono _ _ _ _ k) (k := 2) ?_
 unfold impl_InsRight.f insRightV
 rw [hasFunc_some, Option.bind_some]
 by_cases hf : hasB p f = true
 ·have h2 := hasB_iff.1 hf
  simp only [if_pos hf, impl_InsRight.j0, impl_InsRight.j1, if_pos h2.1, if_pos h2.2, and_some, hasFunc_some, implName_some, Option.bind_some]
  by_cases h1 : op = 1
  ·simp only [if_pos h1]
  simp only [if_neg h1]
  by_cases h2 : op = 2
  ·subst h2; simp
  by_cases h3 : op = 3
  ·subst h3; simp
  simp only [if_neg h2, beq_no h3, Bool.false_eq_true, if_false, h2, h3, or_self]
  by_cases h30 : op = 30
  ·subst h30; simp
  by_cases h31 : op = 31
  ·subst h31; simp
  simp only [if_neg h30, beq_no h31, Bool.false_eq_true, if_false, h30, h31, or_self]
  by_cases h32 : op = 32
  ·simp only [if_pos h32]
  simp only [if_neg h32, name_none]
  cases namedB op <;> simp
 ·simp only [if_neg hf]
theorem specInsRight_ev (p : List S35) (f op a : Int) : Ev (fun k => spec_InsRight.f k p f op a) (insRightV p f op a) := by
 unfold spec_InsRight.f insRightV
 by_cases h0 : f < 0
 ·have hf : ¬ hasB p f = true := fun h => by have := hasB_iff.1 h; omega
  rw [if_neg hf]
  refine Ev.yes h0 (Ev.succ ?_)
  simp only [spec_InsRight.j0, if_true]
  exact Ev.now _
 refine Ev.no h0 (Ev.succ ?_)
 simp only [spec_InsRight.j0]
 by_cases hl : f ≥ (p.length : Int)
 ·have hf : ¬ hasB p f = true := fun h => by have := hasB_iff.1 h; omega
  rw [if_neg hf]
  exact Ev.yes (by simp [hl]) (Ev.now _)
 have hf : hasB p f = true := hasB_iff.2 ⟨by omega, by omega⟩
 have hg0 : 0 ≤ f := by omega
 have hg1 : f < (p.length : Int) := by omega
 rw [if_pos hf]
 refine Ev.no (by simp; omega) ?_
 by_cases h1 : op = 1
 ·rw [if_pos h1]; exact Ev.yes h1 (Ev.now _)
 refine Ev.no h1 ?_
 rw [if_neg h1]
 have hj2 : ∀ b : Bool, Ev (fun k => spec_InsRight.j2 k f op b p op a) (if b = true then decide (0 ≤ a) && decide (a < (rd_T35 p f).f2.length) else if op = 32 then hasB p a else namedB op && (a == 0)) := by
  intro b
  refine Ev.succ ?_
  simp only [spec_InsRight.j2, if_pos hg0, if_pos hg1, and_some]
  refine Ev.cases (fun hb => ?_) (fun hb => ?_)
  ·rw [if_pos hb]; exact Ev.now _
  ·rw [if_neg hb]
   refine Ev.cases (fun h32 => ?_) (fun h32 => ?_)
   ·rw [if_pos h32]; exact Ev.now _
   ·rw [if_neg h32]
    refine Ev.bind (specName_ev op) ?_
    simp only [name_none]
    cases namedB op
    ·exact Ev.yes rfl (by simpa using Ev.now false)
    ·exact Ev.no (by simp) (by simpa using Ev.now (a == 0))
 have hj1 : ∀ b : Bool, Ev (fun k => spec_InsRight.j1 k f op b p op a) (if b = true then decide (0 ≤ a) && decide (a < (rd_T35 p f).f1) else if op = 30 ∨ op = 31 then decide (0 ≤ a) && decide (a < (rd_T35 p f).f2.length) else if op = 32 then hasB p a else namedB op && (a == 0)) := by
  intro b
  refine Ev.succ ?_
  simp only [spec_InsRight.j1, if_pos hg0, if_pos hg1, and_some]
  refine Ev.cases (fun hb => ?_) (fun hb => ?_)
  ·rw [if_pos hb]; exact Ev.now _
  ·rw [if_neg hb]
   refine Ev.cases (fun h30 => ?_) (fun h30 => ?_)
   ·have := hj2 (op == 30)
    simpa [h30] using this
   ·have := hj2 (op == 31)
    by_cases h31 : op = 31
    ·simpa [h31] using this
    ·simpa [h30, h31] using this
 refine Ev.cases (fun h2 => ?_) (fun h2 => ?_)
 ·simpa [h2] using hj1 (op == 2)
 ·by_cases h3 : op = 3
  ·simpa [h3] using hj1 (op == 3)
  ·simpa [h2, h3] using hj1 (op == 3)
def nxV (op a : Int) (n : Nat) : List Int := if op = 33 then [] else if op = 30 then [a] else if op = 31 then [(n : Int) + 1, a] else [(n : Int) + 1]
def cdI (c : List S38) (a : Nat) : S38 := rd_T38 c (a : Int)
def tkV (p : List S35) (c : List S38) (a : Nat) : Int := takesV p (cdI c a).f0 (cdI c a).f1
def nextH (p : List S35) (c : List S38) (a : Nat) (x : Int) : Int := wrap64 (wrap64 (x - tkV p c a) + putsV (cdI c a).f0)
def machS (p : List S35) (c : List S38) : Mach := ⟨c.length, fun a x => decide (tkV p c a > x) || decide (nextH p c a x > 8), nextH p c, fun a => nxV (cdI c a).f0 (cdI c a).f1 a⟩
def machI (p : List S35) (c : List S38) : Mach := ⟨c.length, fun a x => decide (wrap64 (x - tkV p c a) < 0) || decide (nextH p c a x > 8), nextH p c, fun a => nxV (cdI c a).f0 (cdI c a).f1 a⟩
def okJ (c : List S38) : Prop := ∀ a, a < c.length → (cdI c a).f0 = 30 ∨ (cdI c a).f0 = 31 → 0 ≤ (cdI c a).f1 ∧ (cdI c a).f1 < c.length
theorem takesV_bd (p : List S35) (op a : Int) (h : op ≠ 32) : 0 ≤ takesV p op a ∧ takesV p op a ≤ 3 := by
 unfold takesV
 rw [if_neg h]
 repeat' split <;> omega
theorem nxV_mem {op a : Int} {n : Nat} {L : Nat} (hn : n < L) (h : op = 30 ∨ op = 31 → 0 ≤ a ∧ a < L) : ∀ m ∈ nxV op a n, 0 ≤ m ∧ m ≤ L := by
 intro m hm
 unfold nxV at hm
 split at hm
 ·simp at hm
 split at hm
 ·rename_i h30; have := h (Or.inl h30); simp at hm; omega
 split at hm
 ·rename_i h31; have := h (Or.inr h31); simp at hm; omega
 ·simp at hm; omega
theorem nxV_two (op a : Int) (n : Nat) : (nxV op a n).length ≤ 2 := by
 unfold nxV
 split
 ·simp
 split
 ·simp
 split <;> simp
theorem nextH_lo (p : List S35) (c : List S38) (a : Nat) (x : Int) : -9223372036854775808 ≤ nextH p c a x := wrap_lo _
theorem takesV_30 (p : List S35) (a : Int) : takesV p 30 a = 0 := by simp [takesV, isBin, isUn]
theorem takesV_31 (p : List S35) (a : Int) : takesV p 31 a = 1 := by simp [takesV, isBin, isUn]
theorem putsV_31 : putsV 31 = 0 := by simp [putsV, isBin, isUn]
theorem goodS (p : List S35) (c : List S38) (hj : okJ c) : (machS p c).Good where
 nn := fun a ha n hn => (nxV_mem ha (hj a ha) n hn).1
 two := fun a _ => nxV_two _ _ _
 lo := fun a x => nextH_lo p c a x
 neg := fun a ha x hx _ hb => by
  simp only [machS, Bool.or_eq_false_iff, decide_eq_false_iff_not] at hb
  by_cases h32 : (cdI c a).f0 = 32
  ·simp only [machS, h32]; exact Or.inr (by simp [nxV])
  ·have := takesV_bd p (cdI c a).f0 (cdI c a).f1 h32
   have h1 := hb.1
   unfold tkV at h1
   omega
theorem goodI (p : List S35) (c : List S38) (hj : okJ c) : (machI p c).Good where
 nn := fun a ha n hn => (nxV_mem ha (hj a ha) n hn).1
 two := fun a _ => nxV_two _ _ _
 lo := fun a x => nextH_lo p c a x
 neg := fun a ha x hx hlo hb => by
  simp only [machI, Bool.or_eq_false_iff, decide_eq_false_iff_not] at hb
  show nxV (cdI c a).f0 (cdI c a).f1 a = [] ∨ nxV (cdI c a).f0 (cdI c a).f1 a = [(a : Int) + 1]
  unfold nxV
  by_cases h33 : (cdI c a).f0 = 33
  ·rw [if_pos h33]; exact Or.inl rfl
  rw [if_neg h33]
  by_cases h30 : (cdI c a).f0 = 30
  ·exfalso
   have h1 := hb.1
   unfold tkV at h1
   rw [h30, takesV_30, wrap_in om om] at h1
   omega
  rw [if_neg h30]
  by_cases h31 : (cdI c a).f0 = 31
  ·exfalso
   have h1 := hb.1
   have h2 := hb.2
   unfold nextH at h2
   unfold tkV at h1 h2
   rw [h31, takesV_31] at h1 h2
   rw [putsV_31] at h2
   unfold wrap64 at h1 h2
   omega
  rw [if_neg h31]; exact Or.inr rfl
theorem rdOf_nat (w : List Bool) (a : Nat) : rdOf false w (a : Int) = w.getD a false := by simp [rdOf]
theorem specLeast_l0 (w : List Bool) (hw : w.length ≤ 1048576) (a : Nat) (ha : isLeast w a) : ∀ (d i : Nat), i + d = a → Ev (fun k => spec_l04Least.l0 k w (i : Int)) (a : Int) := by
 intro d
 have hlt := ha.1
 induction d with
 | zero =>
  intro i hi
  have e : i = a := by omega
  subst e
  refine Ev.succ ?_
  simp only [spec_l04Least.l0]
  exact Ev.yes om (Ev.yes om (Ev.yes (by rw [rdOf_nat]; exact ha.2.1) (Ev.now _)))
 | succ d ih =>
  intro i hi
  refine Ev.succ ?_
  simp only [spec_l04Least.l0]
  refine Ev.yes om (Ev.yes om (Ev.no (by rw [rdOf_nat, ha.2.2 i om]; simp) ?_))
  rw [idx_next (show i < w.length by omega) hw]
  exact ih (i + 1) om
theorem specLeast_n0 (w : List Bool) (hw : w.length ≤ 1048576) (ha : ∀ b, w.getD b false = false) : ∀ (d i : Nat), i + d = w.length → Ev (fun k => spec_l04Least.l0 k w (i : Int)) (-1) := by
 intro d
 induction d with
 | zero =>
  intro i hi
  refine Ev.succ ?_
  simp only [spec_l04Least.l0]
  exact Ev.no om (Ev.now _)
 | succ d ih =>
  intro i hi
  refine Ev.succ ?_
  simp only [spec_l04Least.l0]
  refine Ev.yes om (Ev.yes om (Ev.no (by rw [rdOf_nat, ha i]; simp) ?_))
  rw [idx_next (show i < w.length by omega) hw]
  exact ih (i + 1) om
theorem specLeast_ev (w : List Bool) (hw : w.length ≤ 1048576) (a : Nat) (ha : isLeast w a) : Ev (fun k => spec_l04Least.f k w) (a : Int) := by
 unfold spec_l04Least.f; exact specLeast_l0 w hw a ha a 0 om
theorem specLeast_no (w : List Bool) (hw : w.length ≤ 1048576) (ha : ∀ b, w.getD b false = false) : Ev (fun k => spec_l04Least.f k w) (-1) := by
 unfold spec_l04Least.f; exact specLeast_n0 w hw ha w.length 0 om
theorem rd_cons_at {x : List Int} {i : Nat} {n : Int} {r : List Int} (h : x.drop i = n :: r) : i < x.length ∧ rd x (i : Int) = n ∧ x.drop (i + 1) = r := by
 have hi : i < x.length := by
  rcases Nat.lt_or_ge i x.length with h' | h'
  ·exact h'
  ·rw [List.drop_of_length_le h'] at h; cases h
 rw [List.drop_eq_getElem_cons hi] at h
 injection h with h1 h2
 refine ⟨hi, ?_, h2⟩
 rw [rd_nat, List.getD_eq_getElem?_getD, List.getElem?_eq_getElem hi]; exact h1
theorem spec_l2_ev (p : List S35) (c : List S38) (f v b0 b1 : Int) (R : List Int × Int × Int × Int) : ∀ (r x : List Int) (i : Nat) (h : List Int) (w : List Bool), x.drop i = r → x.length ≤ 1048576 → h.length = c.length → w.length = c.length → (∀ n ∈ r, 0 ≤ n) →
  (∀ h' e, nexts c.length v r h w = .error (h', e) → R = (h', b0, b1, e)) → (∀ h' w', nexts c.length v r h w = .ok (h', w') → Ev (fun k => spec_l04Heights.l1 k f c h' w' p) R) → Ev (fun k => spec_l04Heights.l2 k f c h w v x (i : Int) p b0 b1 5) R
 | [], x, i, h, w, hx, hl, h0, h1, hp, he, ho => by
  refine Ev.succ ?_
  simp only [spec_l04Heights.l2]
  have : x.length ≤ i := List.drop_eq_nil_iff.1 hx
  exact Ev.no om (ho h w rfl)
 | n :: r, x, i, h, w, hx, hl, h0, h1, hp, he, ho => by
  obtain ⟨hi, hn, hd⟩ := rd_cons_at hx
  have hn0 := hp n (by simp)
  refine Ev.succ ?_
  simp only [spec_l04Heights.l2, hn]
  simp only [nexts] at he ho
  refine Ev.yes om (Ev.yes om ?_)
  by_cases hL : (c.length : Int) ≤ n
  ·rw [if_pos hL] at he
   rw [he _ _ rfl]
   exact Ev.yes hL (Ev.now _)
  rw [if_neg hL] at he ho
  refine Ev.no hL (Ev.yes hn0 (Ev.yes om ?_))
  have key : ∀ b : Bool, (b = true ↔ 0 ≤ rd h n ∧ rd h n ≠ v) → Ev (fun k => spec_l04Heights.j8 k f c h w v x (i : Int) b p b0 b1 5) R := by
   intro b hb
   refine Ev.succ ?_
   simp only [spec_l04Heights.j8, hn]
   by_cases hB : 0 ≤ rd h n ∧ rd h n ≠ v
   ·rw [if_pos hB] at he
    rw [he _ _ rfl]
    exact Ev.yes (hb.2 hB) (Ev.now _)
   rw [if_neg hB] at he ho
   refine Ev.no (fun hc => hB (hb.1 hc)) (Ev.yes om (Ev.yes om (Ev.yes hn0 (Ev.yes om ?_))))
   rw [idx_next hi hl]
   by_cases hN : rd h n < 0
   ·rw [if_pos hN] at he ho
    refine Ev.yes hN (Ev.yes om ?_)
    exact spec_l2_ev p c f v b0 b1 R r x (i + 1) _ _ hd hl (by simpa using h0) (by simpa using h1) (fun m hm => hp m (by simp [hm])) he ho
   ·rw [if_neg hN] at he ho
    refine Ev.no hN ?_
    exact spec_l2_ev p c f v b0 b1 R r x (i + 1) _ _ hd hl h0 h1 (fun m hm => hp m (by simp [hm])) he ho
  by_cases hge : rd h n ≥ 0
  ·refine Ev.yes hge (key _ ?_)
   simp only [bne_iff_ne, ne_eq]
   exact ⟨fun hv => ⟨hge, hv⟩, fun hv => hv.2⟩
  ·refine Ev.no hge (key _ ?_)
   simp only [Bool.false_eq_true, false_iff]
   exact fun hv => hge hv.1
theorem spec_run {p : List S35} {c : List S38} (f : Int) (hc : c.length ≤ 1048576) (hj : okJ c) {h : List Int} {w : List Bool} {r : List Int × Int × Int} (hr : Run (machS p c) h w r) :
  h.length = c.length → w.length = c.length → Ev (fun k => spec_l04Heights.l1 k f c h w p) (r.1, (if r.2.2 = 0 then 0 else f), r.2.1, r.2.2) := by
 have step : ∀ {h : List Int} {w : List Bool} {a : Nat} (R : List Int × Int × Int × Int), isLeast w a → h.length = c.length → w.length = c.length → (∀ h' e, (machS p c).step h w a = .error (h', e) → R = (h', f, (a : Int), e)) →
   (∀ h' w', (machS p c).step h w a = .ok (h', w') → Ev (fun k => spec_l04Heights.l1 k f c h' w' p) R) → Ev (fun k => spec_l04Heights.l1 k f c h w p) R := by
  intro h w a R ha h0 h1 he ho
  have hal : a < c.length := by have := ha.1; omega
  refine Ev.succ ?_
  simp only [spec_l04Heights.l1]
  refine Ev.bind (specLeast_ev w om a ha) (Ev.no om (Ev.yes om (Ev.yes om ?_)))
  simp only [Option.bind_some]
  refine Ev.yes om (Ev.bind (specTakes_ev p _ _) (Ev.yes om (Ev.bind (specPuts_ev _ _) ?_)))
  have key : ∀ b : Bool, b = (machS p c).bad a (rd h a) → Ev (fun k => spec_l04Heights.j2 k f c h (w.set a false) (a : Int) (nextH p c a (rd h a)) b p (cdI c a).f0 (cdI c a).f1 f (a : Int) 5) R := by
   intro b hb
   unfold Mach.step at he ho
   rw [← hb] at he ho
   refine Ev.succ ?_
   simp only [spec_l04Heights.j2, Option.bind_some]
   cases b with
   | true =>
    simp only [if_true] at he
    rw [he _ _ rfl]
    exact Ev.yes rfl (Ev.now _)
   | false =>
    simp only [Bool.false_eq_true, if_false] at he ho
    refine Ev.no (by simp) ?_
    have fin : ∀ x : List Int, x = nxV (cdI c a).f0 (cdI c a).f1 a → Ev (fun k => spec_l04Heights.j6 k f c h (w.set a false) (nextH p c a (rd h a)) x p f (a : Int) 5) R := by
     intro x hx
     refine Ev.succ ?_
     simp only [spec_l04Heights.j6]
     have hx2 := nxV_two (cdI c a).f0 (cdI c a).f1 a
     exact spec_l2_ev p c f _ f (a : Int) R x x 0 h (w.set a false) rfl (by rw [hx]; omega) h0 (by simpa using h1) (by rw [hx]; exact fun n hn => (nxV_mem hal (hj a hal) n hn).1) (by rw [hx]; exact he) (by rw [hx]; exact ho)
    have f5 : ∀ (x : List Int) (b : Bool), x.length ≤ 2 → (if b = true then x ++ [(cdI c a).f1] else x) = nxV (cdI c a).f0 (cdI c a).f1 a → Ev (fun k => spec_l04Heights.j5 k f c h (w.set a false) (nextH p c a (rd h a)) x b p (cdI c a).f0 (cdI c a).f1 f (a : Int) 5) R := by
     intro x b hxl hx
     refine Ev.succ ?_
     simp only [spec_l04Heights.j5]
     cases b with
     | true => exact Ev.yes rfl (Ev.yes om (fin _ (by simpa using hx)))
     | false => exact Ev.no (by simp) (fin _ (by simpa using hx))
    have f4 : ∀ (x : List Int), x.length ≤ 2 → (if (cdI c a).f0 = 30 ∨ (cdI c a).f0 = 31 then x ++ [(cdI c a).f1] else x) = nxV (cdI c a).f0 (cdI c a).f1 a → Ev (fun k => spec_l04Heights.j4 k f c h (w.set a false) (nextH p c a (rd h a)) x p (cdI c a).f0 (cdI c a).f1 f (a : Int) 5) R := by
     intro x hxl hx
     refine Ev.succ ?_
     simp only [spec_l04Heights.j4]
     refine Ev.cases (fun h30 => f5 _ _ hxl ?_) (fun h30 => f5 _ _ hxl ?_)
     ·rw [← hx]; simp [h30]
     ·rw [← hx]
      by_cases h31 : (cdI c a).f0 = 31
      ·simp [h31]
      ·simp [h30, h31]
    have f3 : ∀ b : Bool, (b = true ↔ (cdI c a).f0 ≠ 30 ∧ (cdI c a).f0 ≠ 33) → Ev (fun k => spec_l04Heights.j3 k f c h (w.set a false) (a : Int) (nextH p c a (rd h a)) [] b p (cdI c a).f0 (cdI c a).f1 f (a : Int) 5) R := by
     intro b hb3
     refine Ev.succ ?_
     simp only [spec_l04Heights.j3]
     have hw1 : wrap64 ((a : Int) + 1) = (a : Int) + 1 := wrap_in om om
     cases b with
     | true =>
      have hb4 := hb3.1 rfl
      refine Ev.yes rfl (Ev.yes (by simp) (f4 _ (by simp) ?_))
      unfold nxV
      rw [hw1, if_neg hb4.2, if_neg hb4.1]
      by_cases h31 : (cdI c a).f0 = 31
      ·simp [h31]
      ·simp [h31, hb4.1]
     | false =>
      refine Ev.no (by simp) (f4 _ (by simp) ?_)
      unfold nxV
      by_cases h33 : (cdI c a).f0 = 33
      ·simp [h33]
      ·by_cases h30 : (cdI c a).f0 = 30
       ·simp [h30]
       ·exact absurd (hb3.2 ⟨h30, h33⟩) (by simp)
    refine Ev.cases (fun h30 => f3 _ ?_) (fun h30 => f3 _ ?_)
    ·simp [h30]
    ·simp [h30]
  by_cases ht : tkV p c a > rd h a
  ·refine Ev.yes ht (key true ?_)
   simp [machS, ht]
  ·refine Ev.no ht (key _ ?_)
   simp only [machS, show decide (tkV p c a > rd h a) = false from by simpa using ht, Bool.false_or]
   rfl
 induction hr with
 | @stop h w hn =>
  intro h0 h1
  refine Ev.succ ?_
  simp only [spec_l04Heights.l1]
  exact Ev.bind (specLeast_no w om hn) (Ev.yes om (Ev.now _))
 | @bad h w a h' e ha hs =>
  intro h0 h1
  have h5 := step_bad (M := machS p c) h0 hs
  refine step _ ha h0 h1 (fun h'' e' q => ?_) (fun h'' w'' q => ?_)
  ·rw [hs] at q
   simp only [Except.error.injEq, Prod.mk.injEq] at q
   obtain ⟨rfl, rfl⟩ := q
   have : ¬ e = 0 := by omega
   simp [this]
  ·rw [hs] at q; cases q
 | @go h w a h' w' r ha hs hr ih =>
  intro h0 h1
  have hl := step_len (M := machS p c) h0 h1 hs
  refine step _ ha h0 h1 (fun h'' e' q => ?_) (fun h'' w'' q => ?_)
  ·rw [hs] at q; cases q
  ·rw [hs] at q
   simp only [Except.ok.injEq, Prod.mk.injEq] at q
   obtain ⟨rfl, rfl⟩ := q
   exact ih hl.1 hl.2
theorem impl_next_some (op a : Int) (n : Nat) (hn : n ≤ 1048576) : impl_next.f op a (n : Int) = some (nxV op a n) := by
 unfold impl_next.f nxV
 rw [wrap_in (show -9223372036854775808 ≤ (n : Int) + 1 by omega) om]
 simp only [ite_some']
theorem mn_eq (a b : Int) : mn a b = if b < a then b else a := rfl
theorem impl_skip (p : List S35) (c : List S38) (hc : c.length ≤ 1048576) (h : List Int) (w : List Bool) (h1 : w.length = c.length) (R : List Int × Int × Int) (m : Nat) (hm : m ≤ c.length) (hz : ∀ b, b < m → w.getD b false = false) (hR : Ev (fun k => impl_heightsOf.l1 k c h w (m : Int) p) R) :
  ∀ (d i : Nat), i + d = m → Ev (fun k => impl_heightsOf.l1 k c h w (i : Int) p) R := by
 intro d
 induction d with
 | zero =>
  intro i hi
  have e : i = m := by omega
  subst e; exact hR
 | succ d ih =>
  intro i hi
  refine Ev.succ ?_
  simp only [impl_heightsOf.l1]
  refine Ev.yes om (Ev.yes om (Ev.yes om (Ev.no (by rw [rdOf_nat, hz i om]; simp) ?_)))
  rw [idx_next (show i < c.length by omega) hc]
  exact ih (i + 1) om
theorem impl_l2_ev (p : List S35) (c : List S38) (hc : c.length ≤ 1048576) (a : Nat) (lft op arg v : Int) (hv : v = wrap64 (lft + putsV op)) (R : List Int × Int × Int) : ∀ (r x : List Int) (i : Nat) (h : List Int) (w : List Bool) (m : Nat), x.drop i = r → x.length ≤ 1048576 → h.length = c.length → w.length = c.length → (∀ n ∈ r, 0 ≤ n ∧ n ≤ c.length) →
  m ≤ c.length → (∀ b, b < m → w.getD b false = false) → (∀ h' e, nexts c.length v r h w = .error (h', e) → R = (h', (a : Int), e)) →
  (∀ h' w', nexts c.length v r h w = .ok (h', w') → ∀ m', m' ≤ c.length → (∀ b, b < m' → w'.getD b false = false) → Ev (fun k => impl_heightsOf.l1 k c h' w' (m' : Nat) p) R) →
  Ev (fun k => impl_heightsOf.l2 k c h w (a : Int) lft (m : Int) x (x.length : Int) (i : Int) p op arg) R
 | [], x, i, h, w, m, hx, hl, h0, h1, hp, hm, hz, he, ho => by
  refine Ev.succ ?_
  simp only [impl_heightsOf.l2]
  have : x.length ≤ i := List.drop_eq_nil_iff.1 hx
  exact Ev.no om (ho h w rfl m hm hz)
 | n :: r, x, i, h, w, m, hx, hl, h0, h1, hp, hm, hz, he, ho => by
  obtain ⟨hi, hn, hd⟩ := rd_cons_at hx
  have hn0 := hp n (by simp)
  refine Ev.succ ?_
  simp only [impl_heightsOf.l2, hn]
  simp only [nexts] at he ho
  refine Ev.yes om (Ev.yes om (Ev.yes om ?_))
  by_cases hL : (c.length : Int) ≤ n
  ·rw [if_pos hL] at he
   rw [he _ _ rfl]
   exact Ev.yes om (Ev.now _)
  rw [if_neg hL] at he ho
  refine Ev.no om (Ev.yes om (Ev.yes om ?_))
  have key : ∀ b : Bool, (b = true ↔ 0 ≤ rd h n ∧ rd h n ≠ v) → Ev (fun k => impl_heightsOf.j4 k c h w (a : Int) lft (m : Int) n x (x.length : Int) (i : Int) b p op arg) R := by
   intro b hb
   refine Ev.succ ?_
   simp only [impl_heightsOf.j4]
   by_cases hB : 0 ≤ rd h n ∧ rd h n ≠ v
   ·rw [if_pos hB] at he
    rw [he _ _ rfl]
    exact Ev.yes (hb.2 hB) (Ev.now _)
   rw [if_neg hB] at he ho
   refine Ev.no (fun hc => hB (hb.1 hc)) (Ev.yes om (Ev.yes om ?_))
   rw [idx_next hi hl]
   by_cases hN : rd h n < 0
   ·rw [if_pos hN] at he ho
    refine Ev.yes hN (Ev.bind (implPuts_ev op arg) (Ev.yes om ?_))
    rw [← hv, mn_eq]
    have e : (if n < (m : Int) then n else (m : Int)) = ((if n.toNat < m then n.toNat else m : Nat) : Int) := by
     by_cases hnm : n < (m : Int)
     ·rw [if_pos hnm, if_pos om]; omega
     ·rw [if_neg hnm, if_neg om]
    rw [e]
    refine impl_l2_ev p c hc a lft op arg v hv R r x (i + 1) _ _ _ hd hl (by simpa using h0) (by simpa using h1) (fun q hq => hp q (by simp [hq])) (by split <;> omega) (fun b hb => ?_) he ho
    rw [gb_set om]
    have hb2 : b < n.toNat ∧ b < m := by split at hb <;> omega
    rw [if_neg om]
    exact hz b hb2.2
   ·rw [if_neg hN] at he ho
    refine Ev.no hN ?_
    exact impl_l2_ev p c hc a lft op arg v hv R r x (i + 1) _ _ m hd hl h0 h1 (fun q hq => hp q (by simp [hq])) hm hz he ho
  by_cases hge : rd h n ≥ 0
  ·refine Ev.yes hge (Ev.bind (implPuts_ev op arg) (key _ ?_))
   rw [← hv]
   simp only [bne_iff_ne, ne_eq]
   exact ⟨fun hv => ⟨hge, hv⟩, fun hv => hv.2⟩
  ·refine Ev.no hge (key _ ?_)
   simp only [Bool.false_eq_true, false_iff]
   exact fun hv => hge hv.1
theorem impl_run {p : List S35} {c : List S38} (hc : c.length ≤ 1048576) (hj : okJ c) {h : List Int} {w : List Bool} {r : List Int × Int × Int} (hr : Run (machI p c) h w r) :
  h.length = c.length → w.length = c.length → ∀ m : Nat, m ≤ c.length → (∀ b, b < m → w.getD b false = false) → Ev (fun k => impl_heightsOf.l1 k c h w (m : Int) p) r := by
 have step : ∀ {h : List Int} {w : List Bool} {a : Nat} (R : List Int × Int × Int) (m : Nat), m ≤ c.length → (∀ b, b < m → w.getD b false = false) → isLeast w a → h.length = c.length → w.length = c.length → (∀ h' e, (machI p c).step h w a = .error (h', e) → R = (h', (a : Int), e)) →
   (∀ h' w', (machI p c).step h w a = .ok (h', w') → ∀ m', m' ≤ c.length → (∀ b, b < m' → w'.getD b false = false) → Ev (fun k => impl_heightsOf.l1 k c h' w' (m' : Nat) p) R) → Ev (fun k => impl_heightsOf.l1 k c h w (m : Int) p) R := by
  intro h w a R m hm hz ha h0 h1 he ho
  have hal : a < c.length := by have := ha.1; omega
  have hma : m ≤ a := by
   rcases Nat.lt_or_ge a m with q | q
   ·have := hz a q; rw [ha.2.1] at this; cases this
   ·exact q
  refine impl_skip p c hc h w h1 R a om ha.2.2 ?_ (a - m) m om
  refine Ev.succ ?_
  simp only [impl_heightsOf.l1]
  refine Ev.yes om (Ev.yes om (Ev.yes om (Ev.yes (by rw [rdOf_nat]; exact ha.2.1) ?_)))
  simp only [Option.bind_some]
  refine Ev.yes om (Ev.bind (implTakes_ev p _ _) ?_)
  have key : ∀ b : Bool, b = (machI p c).bad a (rd h a) → Ev (fun k => impl_heightsOf.j2 k c h (w.set a false) (a : Int) (wrap64 (rd h a - tkV p c a)) b p (cdI c a).f0 (cdI c a).f1) R := by
   intro b hb
   unfold Mach.step at he ho
   rw [← hb] at he ho
   refine Ev.succ ?_
   simp only [impl_heightsOf.j2]
   cases b with
   | true =>
    simp only [if_true] at he
    rw [he _ _ rfl]
    exact Ev.yes rfl (Ev.now _)
   | false =>
    simp only [Bool.false_eq_true, if_false] at he ho
    refine Ev.no (by simp) (Ev.flat (impl_next_some _ _ a om) ?_)
    have hx2 := nxV_two (cdI c a).f0 (cdI c a).f1 a
    refine impl_l2_ev p c hc a _ _ _ _ rfl R _ _ 0 h (w.set a false) a rfl om h0 (by simpa using h1) (fun n hn => nxV_mem hal (hj a hal) n hn) om (fun b hb => ?_) he ho
    rw [gb_set om]
    split
    ·rfl
    ·exact ha.2.2 b hb
  refine Ev.cases (fun ht => key true ?_) (fun ht => Ev.bind (implPuts_ev _ _) (key _ ?_))
  ·have ht' : wrap64 (rd h a - tkV p c a) < 0 := ht
   simp [machI, ht']
  ·have ht' : ¬ wrap64 (rd h a - tkV p c a) < 0 := ht
   simp only [machI, show decide (wrap64 (rd h a - tkV p c a) < 0) = false from by simpa using ht', Bool.false_or]
   rfl
 induction hr with
 | @stop h w hn =>
  intro h0 h1 m hm hz
  refine impl_skip p c hc h w h1 _ c.length om (fun b _ => hn b) ?_ (c.length - m) m om
  refine Ev.succ ?_
  simp only [impl_heightsOf.l1]
  exact Ev.no om (Ev.now _)
 | @bad h w a h' e ha hs =>
  intro h0 h1 m hm hz
  refine step _ m hm hz ha h0 h1 (fun h'' e' q => ?_) (fun h'' w'' q => ?_)
  ·rw [hs] at q
   simp only [Except.error.injEq, Prod.mk.injEq] at q
   obtain ⟨rfl, rfl⟩ := q
   rfl
  ·rw [hs] at q; cases q
 | @go h w a h' w' r ha hs hr ih =>
  intro h0 h1 m hm hz
  have hl := step_len (M := machI p c) h0 h1 hs
  refine step _ m hm hz ha h0 h1 (fun h'' e' q => ?_) (fun h'' w'' q => ?_)
  ·rw [hs] at q; cases q
  ·rw [hs] at q
   simp only [Except.ok.injEq, Prod.mk.injEq] at q
   obtain ⟨rfl, rfl⟩ := q
   exact ih hl.1 hl.2
def h0V (L : Nat) : List Int := (List.replicate L (-1)).set 0 0
def w0V (L : Nat) : List Bool := (List.replicate L false).set 0 true
theorem fill_take {h : List Int} {L i : Nat} (hl : h.length = L) (hi : i < L) (ht : h.take i = List.replicate i (-1)) : (h.set i (-1)).take (i + 1) = List.replicate (i + 1) (-1) := by
 rw [List.take_succ_eq_append_getElem (by simp; omega), List.take_set_of_le (Nat.le_refl _), ht, List.getElem_set_self]
 simp [List.replicate_succ']
theorem rd_rep (L : Nat) (x : Int) (a : Nat) : rd (List.replicate L x) (a : Int) = if a < L then x else 0 := by
 rw [rd_nat, List.getD_eq_getElem?_getD, List.getElem?_replicate]
 split <;> rfl
theorem gb_rep (L : Nat) (a : Nat) : (List.replicate L false).getD a false = false := by
 rw [List.getD_eq_getElem?_getD, List.getElem?_replicate]
 split <;> rfl
theorem h0V_rd {L : Nat} (hL : 1 ≤ L) (a : Nat) : rd (h0V L) (a : Int) = if a = 0 then 0 else if a < L then -1 else 0 := by
 unfold h0V
 rw [rd_set (by simp; omega), rd_rep]
theorem w0V_gb {L : Nat} (hL : 1 ≤ L) (a : Nat) : (w0V L).getD a false = decide (a = 0) := by
 unfold w0V
 rw [gb_set (by simp; omega), gb_rep]
 by_cases h : a = 0 <;> simp [h]
def insAll (p : List S35) (f : Int) (c : List S38) : Prop := ∀ a, a < c.length → insRightV p f (cdI c a).f0 (cdI c a).f1 = true
def formF (p : List S35) (f : Int) (x : S35) : Prop := 0 ≤ x.f0 ∧ x.f0 ≤ 4 ∧ x.f0 ≤ x.f1 ∧ x.f1 ≤ 8 ∧ 1 ≤ x.f2.length ∧ x.f2.length ≤ 60 ∧ insAll p f x.f2
def fnI (p : List S35) (f : Nat) : S35 := rd_T35 p (f : Int)
theorem insAll_okJ {p : List S35} {f : Nat} (h : insAll p f (fnI p f).f2) : okJ (fnI p f).f2 := by
 intro a ha hj
 have := h a ha
 unfold insRightV at this
 split at this
 ·rw [if_neg om, if_neg om] at this
  try rw [if_pos hj] at this
  rw [Bool.and_eq_true, decide_eq_true_eq, decide_eq_true_eq] at this
  exact this
 ·cases this
theorem start_ends {M : Mach} (G : M.Good) (hL : 1 ≤ M.len) : ∃ r, Run M (h0V M.len) (w0V M.len) r := by
 refine run_ends G _ _ _ (by simp [h0V]) (by simp [w0V]) (fun b => ?_) (Nat.le_refl _)
 rw [h0V_rd hL]; split
 ·omega
 ·split <;> omega
theorem specHeights_ev {p : List S35} {f : Nat} (hf : f < p.length) (h1 : 1 ≤ (fnI p f).f2.length) (h2 : (fnI p f).f2.length ≤ 1048576) (hj : okJ (fnI p f).f2) {r : List Int × Int × Int}
  (hr : Run (machS p (fnI p f).f2) (h0V (fnI p f).f2.length) (w0V (fnI p f).f2.length) r) : Ev (fun k => spec_l04Heights.f k p (f : Int)) (r.1, (if r.2.2 = 0 then 0 else (f : Int)), r.2.1, r.2.2) := by
 unfold spec_l04Heights.f
 have e : (rd_T35 p (f : Int)).f2 = (fnI p f).f2 := rfl
 simp only [e]
 refine Ev.yes om (Ev.yes om (Ev.yes om (Ev.yes om ?_)))
 simp only [Int.toNat_natCast]
 have key : ∀ (d i : Nat) (h : List Int), i + d = (fnI p f).f2.length → h.length = (fnI p f).f2.length → h.take i = List.replicate i (-1) → Ev (fun k => spec_l04Heights.l0 k (f : Int) (fnI p f).f2 h (i : Int) p) (r.1, (if r.2.2 = 0 then 0 else (f : Int)), r.2.1, r.2.2) := by
  intro d
  induction d with
  | zero =>
   intro i h hi hl ht
   refine Ev.succ ?_
   simp only [spec_l04Heights.l0]
   refine Ev.no om (Ev.yes om (Ev.yes om (Ev.yes om ?_)))
   simp only [Option.bind_some, Int.toNat_natCast]
   refine Ev.yes (by simp; omega) ?_
   rw [List.take_of_length_le om] at ht
   have := spec_run (f : Int) h2 hj hr (by simp [h0V]) (by simp [w0V])
   rw [ht, show i = (fnI p f).f2.length by omega]
   exact this
  | succ d ih =>
   intro i h hi hl ht
   refine Ev.succ ?_
   simp only [spec_l04Heights.l0]
   refine Ev.yes om (Ev.yes om ?_)
   rw [idx_next (show i < (fnI p f).f2.length by omega) h2]
   simp only [Int.toNat_natCast]
   exact ih (i + 1) _ om (by simpa using hl) (fill_take hl om ht)
 exact key (fnI p f).f2.length 0 _ om (by simp) (by simp)
theorem implHeights_ev {p : List S35} {f : Nat} (hf : f < p.length) (h1 : 1 ≤ (fnI p f).f2.length) (h2 : (fnI p f).f2.length ≤ 1048576) (hj : okJ (fnI p f).f2) {r : List Int × Int × Int}
  (hr : Run (machI p (fnI p f).f2) (h0V (fnI p f).f2.length) (w0V (fnI p f).f2.length) r) : Ev (fun k => impl_heightsOf.f k p (f : Int)) r := by
 unfold impl_heightsOf.f
 have e : (rd_T35 p (f : Int)).f2 = (fnI p f).f2 := rfl
 simp only [e]
 refine Ev.yes om (Ev.yes om (Ev.yes om (Ev.yes om ?_)))
 simp only [Int.toNat_natCast, Option.bind_some, List.length_replicate]
 refine Ev.yes om ?_
 have key : ∀ (d i : Nat) (h : List Int), i + d = (fnI p f).f2.length → h.length = (fnI p f).f2.length → h.take i = List.replicate i (-1) → Ev (fun k => impl_heightsOf.l0 k (fnI p f).f2 h (List.replicate (fnI p f).f2.length false) ((fnI p f).f2.length : Int) (i : Int) p) r := by
  intro d
  induction d with
  | zero =>
   intro i h hi hl ht
   refine Ev.succ ?_
   simp only [impl_heightsOf.l0]
   refine Ev.no om (Ev.yes om (Ev.yes (by simp; omega) ?_))
   rw [List.take_of_length_le om] at ht
   have := impl_run h2 hj hr (by simp [h0V]) (by simp [w0V]) 0 om (fun b hb => by omega)
   rw [ht, show i = (fnI p f).f2.length by omega]
   exact this
  | succ d ih =>
   intro i h hi hl ht
   refine Ev.succ ?_
   simp only [impl_heightsOf.l0]
   refine Ev.yes om (Ev.yes om (Ev.yes om ?_))
   rw [idx_next (show i < (fnI p f).f2.length by omega) h2]
   simp only [Int.toNat_natCast]
   exact ih (i + 1) _ om (by simpa using hl) (fill_take hl om ht)
 exact key (fnI p f).f2.length 0 _ om (by simp) (by simp)
def rightS (p : List S35) (f : Nat) (h : List Int) : Prop := formF p f (fnI p f) ∧ Run (machS p (fnI p f).f2) (h0V (fnI p f).f2.length) (w0V (fnI p f).f2.length) (h, 0, 0)
def rightI (p : List S35) (f : Nat) (h : List Int) : Prop := formF p f (fnI p f) ∧ Run (machI p (fnI p f).f2) (h0V (fnI p f).f2.length) (w0V (fnI p f).f2.length) (h, 0, 0)
theorem form_okJ {p : List S35} {f : Nat} (h : formF p f (fnI p f)) : okJ (fnI p f).f2 := insAll_okJ h.2.2.2.2.2.2
theorem specFunc_ins {p : List S35} {f : Nat} (c : List S38) (hc : c.length ≤ 1048576) (b0 b1 : Int) {R : Int × Int × Int} (bad : ∀ a, a < c.length → insRightV p f (cdI c a).f0 (cdI c a).f1 = false → (∀ b, b < a → insRightV p f (cdI c b).f0 (cdI c b).f1 = true) → R = ((f : Int), (a : Int), 1))
  (good : insAll p f c → Ev (fun k => (spec_l04Heights.f k p (f : Int)).bind fun t => (some (t.2.1, t.2.2.1, t.2.2.2) : Option (Int × Int × Int))) R) : Ev (fun k => spec_l04Func.l0 k (f : Int) 0 p b0 b1 c) R := by
 have key : ∀ (d i : Nat), i + d = c.length → (∀ b, b < i → insRightV p f (cdI c b).f0 (cdI c b).f1 = true) → Ev (fun k => spec_l04Func.l0 k (f : Int) (i : Int) p b0 b1 c) R := by
  intro d
  induction d with
  | zero =>
   intro i hi hb
   refine Ev.succ ?_
   simp only [spec_l04Func.l0]
   exact Ev.no om (good (fun a ha => hb a om))
  | succ d ih =>
   intro i hi hb
   refine Ev.succ ?_
   simp only [spec_l04Func.l0]
   refine Ev.yes om (Ev.yes om (Ev.bind (specInsRight_ev p f _ _) ?_))
   show Ev (fun k => if insRightV p f (cdI c i).f0 (cdI c i).f1 = true then _ else _) R
   refine Ev.cases (fun ht => ?_) (fun ht => ?_)
   ·rw [idx_next (show i < c.length by omega) hc]
    refine ih (i + 1) om (fun b hb' => ?_)
    rcases Nat.lt_succ_iff_lt_or_eq.1 hb' with q | q
    ·exact hb b q
    ·rw [q]; exact ht
   ·rw [bad i om (by simpa using ht) hb]; exact Ev.now _
 exact key c.length 0 om (fun b hb => by omega)
theorem specFunc_ev (p : List S35) {f : Nat} (hf : f < p.length) : (∃ h, rightS p f h ∧ Ev (fun k => spec_l04Func.f k p (f : Int)) (0, 0, 0)) ∨ ((¬ ∃ h, rightS p f h ∧ Ev (fun k => spec_l04Func.f k p (f : Int)) (0, 0, 0)) ∧ ∃ r : Int × Int × Int, r.2.2 ≠ 0 ∧ Ev (fun k => spec_l04Func.f k p (f : Int)) r) := by
 by_cases hc : ∃ h, rightS p f h ∧ Ev (fun k => spec_l04Func.f k p (f : Int)) (0, 0, 0)
 ·exact Or.inl hc
 refine Or.inr ⟨hc, ?_⟩
 by_cases hs : 0 ≤ (fnI p f).f0 ∧ (fnI p f).f0 ≤ 4 ∧ (fnI p f).f0 ≤ (fnI p f).f1 ∧ (fnI p f).f1 ≤ 8 ∧ 1 ≤ (fnI p f).f2.length ∧ (fnI p f).f2.length ≤ 60
 case neg =>
  refine ⟨((f : Int), 0, 1), by simp, ?_⟩
  unfold spec_l04Func.f
  have e : rd_T35 p (f : Int) = fnI p f := rfl
  simp only [e]
  have bad : Ev (fun k => spec_l04Func.j0 k (f : Int) true p (fnI p f).f0 (fnI p f).f1 (fnI p f).f2) ((f : Int), 0, 1) := by
   refine Ev.succ ?_
   simp only [spec_l04Func.j0]
   exact Ev.yes (by simp) (Ev.now _)
  refine Ev.yes om (Ev.yes om (Ev.cases (fun _ => bad) (fun q0 => Ev.cases (fun _ => bad) (fun q1 => Ev.cases (fun _ => bad) (fun q2 => Ev.cases (fun _ => bad) (fun q3 => Ev.cases (fun _ => bad) (fun q4 => ?_)))))))
  rw [show decide (((fnI p f).f2.length : Int) > 60) = true from by simp; omega]
  exact bad
 obtain ⟨s0, s1, s2, s3, s4, s5⟩ := hs
 have go : ∀ R : Int × Int × Int, Ev (fun k => spec_l04Func.l0 k (f : Int) 0 p (fnI p f).f0 (fnI p f).f1 (fnI p f).f2) R → Ev (fun k => spec_l04Func.f k p (f : Int)) R := by
  intro R hR
  unfold spec_l04Func.f
  have e : rd_T35 p (f : Int) = fnI p f := rfl
  simp only [e]
  refine Ev.yes om (Ev.yes om (Ev.no om (Ev.no om (Ev.no om (Ev.no om (Ev.no om (Ev.succ ?_)))))))
  simp only [spec_l04Func.j0]
  exact Ev.no (by simp; omega) hR
 by_cases hi : insAll p f (fnI p f).f2
 case neg =>
  have : ∃ a, a < (fnI p f).f2.length ∧ insRightV p f (cdI (fnI p f).f2 a).f0 (cdI (fnI p f).f2 a).f1 = false := by
   refine Classical.byContradiction fun hn => hi (fun a ha => ?_)
   cases e : insRightV p f (cdI (fnI p f).f2 a).f0 (cdI (fnI p f).f2 a).f1
   ·exact absurd ⟨a, ha, e⟩ hn
   ·rfl
  have least : ∃ a, a < (fnI p f).f2.length ∧ insRightV p f (cdI (fnI p f).f2 a).f0 (cdI (fnI p f).f2 a).f1 = false ∧ ∀ b, b < a → insRightV p f (cdI (fnI p f).f2 b).f0 (cdI (fnI p f).f2 b).f1 = true := by
   obtain ⟨a, ha, hb⟩ := this
   have : ∀ n a, a ≤ n → a < (fnI p f).f2.length → insRightV p f (cdI (fnI p f).f2 a).f0 (cdI (fnI p f).f2 a).f1 = false → ∃ a, a < (fnI p f).f2.length ∧ insRightV p f (cdI (fnI p f).f2 a).f0 (cdI (fnI p f).f2 a).f1 = false ∧ ∀ b, b < a → insRightV p f (cdI (fnI p f).f2 b).f0 (cdI (fnI p f).f2 b).f1 = true := by
    intro n
    induction n with
    | zero => intro a h0 h1 h2; exact ⟨a, h1, h2, fun b hb => by omega⟩
    | succ n ih =>
     intro a h0 h1 h2
     by_cases hx : ∃ b, b < a ∧ insRightV p f (cdI (fnI p f).f2 b).f0 (cdI (fnI p f).f2 b).f1 = false
     ·obtain ⟨b, hb, hb2⟩ := hx
      exact ih b om om hb2
     ·refine ⟨a, h1, h2, fun b hb => ?_⟩
      cases e : insRightV p f (cdI (fnI p f).f2 b).f0 (cdI (fnI p f).f2 b).f1
      ·exact absurd ⟨b, hb, e⟩ hx
      ·rfl
   exact this a a (Nat.le_refl _) ha hb
  obtain ⟨a, h1, h2, h3⟩ := least
  refine ⟨((f : Int), (a : Int), 1), by simp, go _ (specFunc_ins _ om _ _ (fun b hb1 hb2 hb3 => ?_) (fun hg => absurd hg hi))⟩
  have : a = b := by
   rcases Nat.lt_trichotomy a b with q | q | q
   ·have := hb3 a q; rw [h2] at this; cases this
   ·exact q
   ·have := h3 b q; rw [hb2] at this; cases this
  rw [this]
 obtain ⟨r, hr⟩ := start_ends (goodS p _ (insAll_okJ hi)) s4
 have hh := specHeights_ev hf s4 om (insAll_okJ hi) hr
 have hfn := go _ (specFunc_ins _ om _ _ (fun a h1 h2 _ => by have := hi a h1; rw [this] at h2; cases h2) (fun _ => Ev.bind hh (Ev.now _)))
 have hlen := run_len hr (by simp [h0V, machS]) (by simp [w0V, machS])
 by_cases h0 : r.2.2 = 0
 ·exfalso
  have e : r = (r.1, 0, 0) := by
   obtain ⟨a, b, c⟩ := r
   simp only at h0 hlen ⊢
   rw [h0, hlen.2.2 h0]
  refine hc ⟨r.1, ⟨⟨s0, s1, s2, s3, s4, s5, hi⟩, e ▸ hr⟩, ?_⟩
  simpa [h0, hlen.2.2 h0] using hfn
 ·exact ⟨_, h0, hfn⟩
theorem specVerify_ev (p : List S35) : (1 ≤ p.length ∧ p.length ≤ 6 ∧ (∀ f, f < p.length → ∃ h, rightS p f h) ∧ Ev (fun k => spec_Verify.f k p) (0, 0, 0)) ∨ (¬ (1 ≤ p.length ∧ p.length ≤ 6 ∧ ∀ f, f < p.length → ∃ h, rightS p f h)) ∧ ∃ r : Int × Int × Int, r.2.2 ≠ 0 ∧ Ev (fun k => spec_Verify.f k p) r := by
 by_cases hl : 1 ≤ p.length ∧ p.length ≤ 6
 case neg =>
  refine Or.inr ⟨fun h => hl ⟨h.1, h.2.1⟩, (0, 0, 1), by simp, ?_⟩
  unfold spec_Verify.f
  have bad : Ev (fun k => spec_Verify.j0 k true p) (0, 0, 1) := by
   refine Ev.succ ?_
   simp only [spec_Verify.j0]
   exact Ev.yes (by simp) (Ev.now _)
  refine Ev.cases (fun _ => bad) (fun q => ?_)
  rw [show decide ((p.length : Int) > 6) = true from by simp; omega]
  exact bad
 have go : ∀ R : Int × Int × Int, Ev (fun k => spec_Verify.l0 k 0 p) R → Ev (fun k => spec_Verify.f k p) R := by
  intro R hR
  unfold spec_Verify.f
  refine Ev.no om (Ev.succ ?_)
  simp only [spec_Verify.j0]
  exact Ev.no (by simp; omega) hR
 by_cases ha : ∀ f, f < p.length → ∃ h, rightS p f h ∧ Ev (fun k => spec_l04Func.f k p (f : Int)) (0, 0, 0)
 ·refine Or.inl ⟨hl.1, hl.2, fun f hf => ?_, go _ ?_⟩
  ·obtain ⟨h, h1, _⟩ := ha f hf; exact ⟨h, h1⟩
  have key : ∀ (d i : Nat), i + d = p.length → Ev (fun k => spec_Verify.l0 k (i : Int) p) (0, 0, 0) := by
   intro d
   induction d with
   | zero =>
    intro i hi
    refine Ev.succ ?_
    simp only [spec_Verify.l0]
    exact Ev.no om (Ev.now _)
   | succ d ih =>
    intro i hi
    refine Ev.succ ?_
    simp only [spec_Verify.l0]
    obtain ⟨h, _, h2⟩ := ha i om
    refine Ev.yes om (Ev.bind h2 (Ev.yes rfl ?_))
    rw [idx_next (show i < p.length by omega) om]
    exact ih (i + 1) om
  exact key p.length 0 om
 ·have hb : ∃ f, f < p.length ∧ ¬ ∃ h, rightS p f h ∧ Ev (fun k => spec_l04Func.f k p (f : Int)) (0, 0, 0) := by
   refine Classical.byContradiction fun hn => ha (fun f hf => ?_)
   exact Classical.byContradiction fun hq => hn ⟨f, hf, hq⟩
  obtain ⟨f, hf, hbad⟩ := hb
  refine Or.inr ⟨fun hall => ?_, ?_⟩
  ·obtain ⟨h, hh⟩ := hall.2.2 f hf
   have s := hh.1
   have h1 := specHeights_ev hf s.2.2.2.2.1 (by have := s.2.2.2.2.2.1; omega) (form_okJ s) hh.2
   refine hbad ⟨h, hh, ?_⟩
   rcases specFunc_ev p hf with ⟨h', hh', e⟩ | ⟨hn, r, hr, e⟩
   ·exact e
   ·exfalso
    have e2 : Ev (fun k => spec_l04Func.f k p (f : Int)) (0, 0, 0) := by
     unfold spec_l04Func.f
     have e : rd_T35 p (f : Int) = fnI p f := rfl
     simp only [e]
     obtain ⟨s0, s1, s2, s3, s4, s5, s6⟩ := s
     refine Ev.yes om (Ev.yes om (Ev.no om (Ev.no om (Ev.no om (Ev.no om (Ev.no om (Ev.succ ?_)))))))
     simp only [spec_l04Func.j0]
     refine Ev.no (by simp; omega) (specFunc_ins _ om _ _ (fun a q1 q2 _ => by have := s6 a q1; rw [this] at q2; cases q2) (fun _ => Ev.bind h1 (by simpa using Ev.now _)))
    have := Pure.Ev.uniq e e2
    rw [this] at hr; exact hr rfl
  ·have key : ∀ (d i : Nat), i + d = f → ∃ r : Int × Int × Int, r.2.2 ≠ 0 ∧ Ev (fun k => spec_Verify.l0 k (i : Int) p) r := by
    intro d
    induction d with
    | zero =>
     intro i hi
     have e : i = f := by omega
     subst e
     rcases specFunc_ev p hf with q | ⟨_, r, hr, e⟩
     ·exact absurd q hbad
     ·refine ⟨r, hr, Ev.succ ?_⟩
      simp only [spec_Verify.l0]
      exact Ev.yes om (Ev.bind e (Ev.no hr (Ev.now _)))
    | succ d ih =>
     intro i hi
     rcases specFunc_ev p (show i < p.length by omega) with ⟨h, _, e⟩ | ⟨_, r, hr, e⟩
     ·obtain ⟨r, hr, e2⟩ := ih (i + 1) om
      refine ⟨r, hr, Ev.succ ?_⟩
      simp only [spec_Verify.l0]
      refine Ev.yes om (Ev.bind e (Ev.yes rfl ?_))
      rw [idx_next (show i < p.length by omega) om]
      exact e2
     ·refine ⟨r, hr, Ev.succ ?_⟩
      simp only [spec_Verify.l0]
      exact Ev.yes om (Ev.bind e (Ev.no hr (Ev.now _)))
   obtain ⟨r, hr, e⟩ := key f 0 om
   exact ⟨r, hr, go r e⟩
def rdH (hs : List (List Int)) (f : Nat) : List Int := rd_L7 hs (f : Int)
theorem smallTk {p : List S35} (hp : ∀ f, f < p.length → 0 ≤ (fnI p f).f0 ∧ (fnI p f).f0 ≤ 4) (c : List S38) (a : Nat) : 0 ≤ tkV p c a ∧ tkV p c a ≤ 4 := by
 unfold tkV
 by_cases h32 : (cdI c a).f0 = 32
 ·unfold takesV
  rw [h32, if_neg (by decide), if_neg (by decide), if_neg (by decide), if_pos rfl]
  split
  ·rename_i hh
   have := hasB_iff.1 hh
   have h1 := hp (cdI c a).f1.toNat om
   have e : (((cdI c a).f1.toNat : Nat) : Int) = (cdI c a).f1 := by omega
   unfold fnI at h1
   rw [e] at h1
   exact h1
  ·omega
 ·have := takesV_bd p (cdI c a).f0 (cdI c a).f1 h32
  omega
theorem small_bad {p : List S35} (hp : ∀ f, f < p.length → 0 ≤ (fnI p f).f0 ∧ (fnI p f).f0 ≤ 4) (c : List S38) (a : Nat) (x : Int) (hx : 0 ≤ x ∧ x ≤ 8) : (machI p c).bad a x = (machS p c).bad a x ∧ ((machS p c).bad a x = false → 0 ≤ nextH p c a x ∧ nextH p c a x ≤ 8) := by
 have ht := smallTk hp c a
 have hq := putsV_bd (cdI c a).f0
 have e1 : wrap64 (x - tkV p c a) = x - tkV p c a := wrap_in om om
 have e2 : nextH p c a x = x - tkV p c a + putsV (cdI c a).f0 := by unfold nextH; rw [e1]; exact wrap_in om om
 simp only [machI, machS, e1, e2]
 constructor
 ·congr 1
  have : (x - tkV p c a < 0) ↔ (tkV p c a > x) := by omega
  simp only [this]
 ·intro h
  simp only [Bool.or_eq_false_iff, decide_eq_false_iff_not] at h
  omega
theorem right_SI {p : List S35} (hp : ∀ f, f < p.length → 0 ≤ (fnI p f).f0 ∧ (fnI p f).f0 ≤ 4) (f : Nat) (h : List Int) : rightS p f h ↔ rightI p f h := by
 have i1 : ∀ L : Nat, 1 ≤ L → (∀ a : Nat, (w0V L).getD a false = true → 0 ≤ rd (h0V L) (a : Int) ∧ rd (h0V L) (a : Int) ≤ 8) := by
  intro L hL a ha
  rw [w0V_gb hL] at ha
  rw [h0V_rd hL, if_pos (by simpa using ha)]; omega
 have i2 : ∀ L : Nat, 1 ≤ L → (∀ a : Nat, (0 ≤ rd (h0V L) (a : Int) ∧ rd (h0V L) (a : Int) ≤ 8) ∨ rd (h0V L) (a : Int) < 0) := by
  intro L hL a
  rw [h0V_rd hL]
  split
  ·omega
  ·split <;> omega
 constructor
 ·rintro ⟨hf, hr⟩
  refine ⟨hf, run_same (M := machS p (fnI p f).f2) (M' := machI p (fnI p f).f2) (P := fun x => 0 ≤ x ∧ x ≤ 8) rfl rfl rfl (goodS p _ (form_okJ hf)) (fun a _ x hx => (small_bad hp _ a x hx).1) (fun a _ x hx hb => (small_bad hp _ a x hx).2 hb) hr (by simp [h0V, machS]) (by simp [w0V, machS]) (i1 _ hf.2.2.2.2.1) (i2 _ hf.2.2.2.2.1)⟩
 ·rintro ⟨hf, hr⟩
  refine ⟨hf, run_same (M := machI p (fnI p f).f2) (M' := machS p (fnI p f).f2) (P := fun x => 0 ≤ x ∧ x ≤ 8) rfl rfl rfl (goodI p _ (form_okJ hf)) (fun a _ x hx => (small_bad hp _ a x hx).1.symm) (fun a _ x hx hb => (small_bad hp _ a x hx).2 (by rw [← (small_bad hp _ a x hx).1]; exact hb)) hr (by simp [h0V, machI]) (by simp [w0V, machI]) (i1 _ hf.2.2.2.2.1) (i2 _ hf.2.2.2.2.1)⟩
theorem implFunc_ins {p : List S35} {f : Nat} (c : List S38) (hc : c.length ≤ 1048576) (acc : List (List Int)) (L I : Int) {R : Int × Int × Int × List (List Int)} (bad : ∀ a : Nat, a < c.length → insRightV p f (cdI c a).f0 (cdI c a).f1 = false → R = ((f : Int), (a : Int), 1, []) ∨ ∃ b, b < a ∧ insRightV p f (cdI c b).f0 (cdI c b).f1 = false)
  (good : insAll p f c → Ev (fun k => (impl_heightsOf.f k p (f : Int)).bind fun t => if t.2.2 = 0 then (if acc.length < 5864062014805 then impl_verify.l0 k (acc ++ [t.1]) p L (wrap64 (I + 1)) p else none) else some ((f : Int), t.2.1, t.2.2, [])) R) : Ev (fun k => impl_verify.l1 k acc (f : Int) p L I c (c.length : Int) 0 p) R := by
 have key : ∀ (d i : Nat), i + d = c.length → (∀ b, b < i → insRightV p f (cdI c b).f0 (cdI c b).f1 = true) → Ev (fun k => impl_verify.l1 k acc (f : Int) p L I c (c.length : Int) (i : Int) p) R := by
  intro d
  induction d with
  | zero =>
   intro i hi hb
   refine Ev.succ ?_
   simp only [impl_verify.l1]
   exact Ev.no om (good (fun a ha => hb a om))
  | succ d ih =>
   intro i hi hb
   refine Ev.succ ?_
   simp only [impl_verify.l1]
   refine Ev.yes om (Ev.yes om (Ev.yes om (Ev.bind (implInsRight_ev p f _ _) ?_)))
   show Ev (fun k => if insRightV p f (cdI c i).f0 (cdI c i).f1 = true then _ else _) R
   refine Ev.cases (fun ht => ?_) (fun ht => ?_)
   ·rw [idx_next (show i < c.length by omega) hc]
    refine ih (i + 1) om (fun b hb' => ?_)
    rcases Nat.lt_succ_iff_lt_or_eq.1 hb' with q | q
    ·exact hb b q
    ·rw [q]; exact ht
   ·rcases bad i om (by simpa using ht) with q | ⟨b, q1, q2⟩
    ·rw [q]; exact Ev.now _
    ·rw [hb b q1] at q2; cases q2
 exact key c.length 0 om (fun b hb => by omega)
theorem impl_form {p : List S35} {f : Nat} (hf : f < p.length) (acc : List (List Int)) {R : Int × Int × Int × List (List Int)}
  (bad : ¬ (0 ≤ (fnI p f).f0 ∧ (fnI p f).f0 ≤ 4 ∧ (fnI p f).f0 ≤ (fnI p f).f1 ∧ (fnI p f).f1 ≤ 8 ∧ 1 ≤ (fnI p f).f2.length ∧ (fnI p f).f2.length ≤ 60) → R = ((f : Int), 0, 1, []))
  (good : (0 ≤ (fnI p f).f0 ∧ (fnI p f).f0 ≤ 4 ∧ (fnI p f).f0 ≤ (fnI p f).f1 ∧ (fnI p f).f1 ≤ 8 ∧ 1 ≤ (fnI p f).f2.length ∧ (fnI p f).f2.length ≤ 60) → Ev (fun k => impl_verify.l1 k acc (f : Int) p (p.length : Int) (f : Int) (fnI p f).f2 ((fnI p f).f2.length : Int) 0 p) R) :
  Ev (fun k => impl_verify.l0 k acc p (p.length : Int) (f : Int) p) R := by
 refine Ev.succ ?_
 simp only [impl_verify.l0]
 have e : rd_T35 p (f : Int) = fnI p f := rfl
 simp only [e]
 have key : ∀ b : Bool, (b = true ↔ ¬ (0 ≤ (fnI p f).f0 ∧ (fnI p f).f0 ≤ 4 ∧ (fnI p f).f0 ≤ (fnI p f).f1 ∧ (fnI p f).f1 ≤ 8 ∧ 1 ≤ (fnI p f).f2.length ∧ (fnI p f).f2.length ≤ 60)) → Ev (fun k => impl_verify.j2 k acc (f : Int) p (p.length : Int) (f : Int) b p (fnI p f).f0 (fnI p f).f1 (fnI p f).f2) R := by
  intro b hb
  refine Ev.succ ?_
  simp only [impl_verify.j2]
  refine Ev.cases (fun q => ?_) (fun q => ?_)
  ·rw [bad (hb.1 q)]; exact Ev.now _
  ·exact good (Classical.not_not.1 fun hn => q (hb.2 hn))
 refine Ev.yes om (Ev.yes om (Ev.yes om (Ev.flat (in_some _ _ _) ?_)))
 refine Ev.cases (fun q0 => ?_) (fun q0 => ?_)
 ·simp only [Bool.and_eq_true, decide_eq_true_eq] at q0
  refine Ev.flat (in_some _ _ _) (Ev.cases (fun q1 => ?_) (fun q1 => ?_))
  ·simp only [Bool.and_eq_true, decide_eq_true_eq] at q1
   refine Ev.flat (in_some _ _ _) (key _ ?_)
   simp only [Bool.not_eq_true', Bool.and_eq_false_iff, decide_eq_false_iff_not]
   omega
  ·simp only [Bool.and_eq_true, decide_eq_true_eq] at q1
   exact key true (by simp only [true_iff]; omega)
 ·simp only [Bool.and_eq_true, decide_eq_true_eq] at q0
  exact key true (by simp only [true_iff]; omega)
theorem impl_step_good {p : List S35} {f : Nat} (hf : f < p.length) (hl : p.length ≤ 1048576) {h : List Int} (hr : rightI p f h) (acc : List (List Int)) (ha : acc.length ≤ 1048576) {R : Int × Int × Int × List (List Int)}
  (hR : Ev (fun k => impl_verify.l0 k (acc ++ [h]) p (p.length : Int) ((f + 1 : Nat) : Int) p) R) : Ev (fun k => impl_verify.l0 k acc p (p.length : Int) (f : Int) p) R := by
 obtain ⟨⟨s0, s1, s2, s3, s4, s5, s6⟩, hrun⟩ := hr
 refine impl_form hf acc (fun hb => absurd ⟨s0, s1, s2, s3, s4, s5⟩ hb) (fun _ => ?_)
 refine implFunc_ins _ om acc _ _ (fun a q1 q2 => by rw [s6 a q1] at q2; cases q2) (fun _ => ?_)
 refine Ev.bind (implHeights_ev hf s4 om (insAll_okJ s6) hrun) (Ev.yes rfl (Ev.yes om ?_))
 rw [idx_next hf hl]
 exact hR
theorem impl_step_bad {p : List S35} {f : Nat} (hf : f < p.length) (hn : ¬ ∃ h, rightI p f h) : ∃ r : Int × Int × Int × List (List Int), r.2.2.1 ≠ 0 ∧ ∀ acc, Ev (fun k => impl_verify.l0 k acc p (p.length : Int) (f : Int) p) r := by
 by_cases hs : 0 ≤ (fnI p f).f0 ∧ (fnI p f).f0 ≤ 4 ∧ (fnI p f).f0 ≤ (fnI p f).f1 ∧ (fnI p f).f1 ≤ 8 ∧ 1 ≤ (fnI p f).f2.length ∧ (fnI p f).f2.length ≤ 60
 case neg => exact ⟨((f : Int), 0, 1, []), by simp, fun acc => impl_form hf acc (fun _ => rfl) (fun h => absurd h hs)⟩
 obtain ⟨s0, s1, s2, s3, s4, s5⟩ := hs
 by_cases hi : insAll p f (fnI p f).f2
 case neg =>
  have : ∃ a, a < (fnI p f).f2.length ∧ insRightV p f (cdI (fnI p f).f2 a).f0 (cdI (fnI p f).f2 a).f1 = false := by
   refine Classical.byContradiction fun hn => hi (fun a ha => ?_)
   cases e : insRightV p f (cdI (fnI p f).f2 a).f0 (cdI (fnI p f).f2 a).f1
   ·exact absurd ⟨a, ha, e⟩ hn
   ·rfl
  obtain ⟨a, ha, hb⟩ := this
  have least : ∀ n a, a ≤ n → a < (fnI p f).f2.length → insRightV p f (cdI (fnI p f).f2 a).f0 (cdI (fnI p f).f2 a).f1 = false → ∃ a, a < (fnI p f).f2.length ∧ insRightV p f (cdI (fnI p f).f2 a).f0 (cdI (fnI p f).f2 a).f1 = false ∧ ∀ b, b < a → insRightV p f (cdI (fnI p f).f2 b).f0 (cdI (fnI p f).f2 b).f1 = true := by
   intro n
   induction n with
   | zero => intro a h0 h1 h2; exact ⟨a, h1, h2, fun b hb => by omega⟩
   | succ n ih =>
    intro a h0 h1 h2
    by_cases hx : ∃ b, b < a ∧ insRightV p f (cdI (fnI p f).f2 b).f0 (cdI (fnI p f).f2 b).f1 = false
    ·obtain ⟨b, hb, hb2⟩ := hx
     exact ih b om om hb2
    ·refine ⟨a, h1, h2, fun b hb => ?_⟩
     cases e : insRightV p f (cdI (fnI p f).f2 b).f0 (cdI (fnI p f).f2 b).f1
     ·exact absurd ⟨b, hb, e⟩ hx
     ·rfl
  obtain ⟨a, h1, h2, h3⟩ := least a a (Nat.le_refl _) ha hb
  refine ⟨((f : Int), (a : Int), 1, []), by simp, fun acc => impl_form hf acc (fun hb => absurd ⟨s0, s1, s2, s3, s4, s5⟩ hb) (fun _ => implFunc_ins _ om acc _ _ (fun b q1 q2 => ?_) (fun hg => absurd hg hi))⟩
  rcases Nat.lt_trichotomy a b with q | q | q
  ·exact Or.inr ⟨a, q, h2⟩
  ·exact Or.inl (by rw [q])
  ·rw [h3 b q] at q2; cases q2
 obtain ⟨r, hr⟩ := start_ends (goodI p _ (insAll_okJ hi)) s4
 have hlen := run_len hr (by simp [h0V, machI]) (by simp [w0V, machI])
 by_cases h0 : r.2.2 = 0
 ·exfalso
  have e : r = (r.1, 0, 0) := by
   obtain ⟨a, b, c⟩ := r
   simp only at h0 hlen ⊢
   rw [h0, hlen.2.2 h0]
  exact hn ⟨r.1, ⟨s0, s1, s2, s3, s4, s5, hi⟩, e ▸ hr⟩
 ·refine ⟨((f : Int), r.2.1, r.2.2, []), h0, fun acc => impl_form hf acc (fun hb => absurd ⟨s0, s1, s2, s3, s4, s5⟩ hb) (fun _ => implFunc_ins _ om acc _ _ (fun a q1 q2 => by rw [hi a q1] at q2; cases q2) (fun _ => ?_))⟩
  exact Ev.bind (implHeights_ev hf s4 om (insAll_okJ hi) hr) (Ev.no h0 (Ev.now _))
theorem rdH_nat (hs : List (List Int)) (f : Nat) : rdH hs f = hs.getD f [] := by simp [rdH, rd_L7]
theorem implVerify_ev (p : List S35) : (1 ≤ p.length ∧ p.length ≤ 6 ∧ (∃ hs : List (List Int), hs.length = p.length ∧ (∀ f, f < p.length → rightI p f (rdH hs f)) ∧ Ev (fun k => impl_verify.f k p) (0, 0, 0, hs))) ∨ (¬ (1 ≤ p.length ∧ p.length ≤ 6 ∧ ∀ f, f < p.length → ∃ h, rightI p f h)) ∧ ∃ r : Int × Int × Int × List (List Int), r.2.2.1 ≠ 0 ∧ Ev (fun k => impl_verify.f k p) r := by
 by_cases hl : 1 ≤ p.length ∧ p.length ≤ 6
 case neg =>
  refine Or.inr ⟨fun h => hl ⟨h.1, h.2.1⟩, (0, 0, 1, []), by simp, ?_⟩
  unfold impl_verify.f
  have bad : Ev (fun k => impl_verify.j0 k true p) (0, 0, 1, []) := by
   refine Ev.succ ?_
   simp only [impl_verify.j0]
   exact Ev.yes (by simp) (Ev.now _)
  refine Ev.cases (fun _ => bad) (fun q => ?_)
  rw [show decide ((p.length : Int) > 6) = true from by simp; omega]
  exact bad
 have go : ∀ R : Int × Int × Int × List (List Int), Ev (fun k => impl_verify.l0 k [] p (p.length : Int) 0 p) R → Ev (fun k => impl_verify.f k p) R := by
  intro R hR
  unfold impl_verify.f
  refine Ev.no om (Ev.succ ?_)
  simp only [impl_verify.j0]
  exact Ev.no (by simp; omega) hR
 by_cases ha : ∀ f, f < p.length → ∃ h, rightI p f h
 ·refine Or.inl ⟨hl.1, hl.2, ?_⟩
  have key : ∀ (d i : Nat) (acc : List (List Int)), i + d = p.length → acc.length = i → (∀ f, f < i → rightI p f (rdH acc f)) → ∃ hs : List (List Int), hs.length = p.length ∧ (∀ f, f < p.length → rightI p f (rdH hs f)) ∧ Ev (fun k => impl_verify.l0 k acc p (p.length : Int) (i : Int) p) (0, 0, 0, hs) := by
   intro d
   induction d with
   | zero =>
    intro i acc hi hl hr
    refine ⟨acc, by omega, fun f hf => hr f om, Ev.succ ?_⟩
    simp only [impl_verify.l0]
    exact Ev.no om (Ev.now _)
   | succ d ih =>
    intro i acc hi hal hr
    obtain ⟨h, hh⟩ := ha i om
    obtain ⟨hs, h1, h2, h3⟩ := ih (i + 1) (acc ++ [h]) om (by simp; omega) (fun f hf => by
     rw [rdH_nat, List.getD_eq_getElem?_getD]
     rcases Nat.lt_succ_iff_lt_or_eq.1 hf with q | q
     ·have := hr f q
      rw [rdH_nat, List.getD_eq_getElem?_getD] at this
      rw [List.getElem?_append_left om]; exact this
     ·rw [q, List.getElem?_append_right om, hal]; simpa using hh)
    exact ⟨hs, h1, h2, impl_step_good om om hh acc om h3⟩
  obtain ⟨hs, h1, h2, h3⟩ := key p.length 0 [] om rfl (fun f hf => by omega)
  exact ⟨hs, h1, h2, go _ h3⟩
 ·refine Or.inr ⟨fun h => ha h.2.2, ?_⟩
  have hb : ∃ f, f < p.length ∧ ¬ ∃ h, rightI p f h := by
   refine Classical.byContradiction fun hn => ha (fun f hf => ?_)
   exact Classical.byContradiction fun hq => hn ⟨f, hf, hq⟩
  obtain ⟨f, hf, hbad⟩ := hb
  have key : ∀ (d i : Nat) (acc : List (List Int)), i + d = f → acc.length = i → ∃ r : Int × Int × Int × List (List Int), r.2.2.1 ≠ 0 ∧ Ev (fun k => impl_verify.l0 k acc p (p.length : Int) (i : Int) p) r := by
   intro d
   induction d with
   | zero =>
    intro i acc hi hal
    have e : i = f := by omega
    subst e
    obtain ⟨r, h1, h2⟩ := impl_step_bad hf hbad
    exact ⟨r, h1, h2 acc⟩
   | succ d ih =>
    intro i acc hi hal
    by_cases hq : ∃ h, rightI p i h
    ·obtain ⟨h, hh⟩ := hq
     obtain ⟨r, h1, h2⟩ := ih (i + 1) (acc ++ [h]) om (by simp; omega)
     exact ⟨r, h1, impl_step_good om om hh acc om h2⟩
    ·obtain ⟨r, h1, h2⟩ := impl_step_bad (show i < p.length by omega) hq
     exact ⟨r, h1, h2 acc⟩
  obtain ⟨r, h1, h2⟩ := key f 0 [] om rfl
  exact ⟨r, h1, go _ h2⟩
theorem verify_both (p : List S35) : (1 ≤ p.length ∧ p.length ≤ 6 ∧ ∃ hs : List (List Int), hs.length = p.length ∧ (∀ f, f < p.length → rightS p f (rdH hs f)) ∧ Ev (fun k => spec_Verify.f k p) (0, 0, 0) ∧ Ev (fun k => impl_verify.f k p) (0, 0, 0, hs)) ∨
  (∃ r : Int × Int × Int, ∃ r' : Int × Int × Int × List (List Int), r.2.2 ≠ 0 ∧ r'.2.2.1 ≠ 0 ∧ Ev (fun k => spec_Verify.f k p) r ∧ Ev (fun k => impl_verify.f k p) r') := by
 have small : ∀ q : Nat → List Int → Prop, (q = rightS p ∨ q = rightI p) → (∀ f, f < p.length → ∃ h, q f h) → ∀ f, f < p.length → 0 ≤ (fnI p f).f0 ∧ (fnI p f).f0 ≤ 4 := by
  intro q hq ha f hf
  obtain ⟨h, hh⟩ := ha f hf
  rcases hq with e | e <;> subst e <;> exact ⟨hh.1.1, hh.1.2.1⟩
 rcases specVerify_ev p with ⟨h1, h2, h3, h4⟩ | ⟨hn, r, hr, he⟩
 ·rcases implVerify_ev p with ⟨_, _, hs, g1, g2, g3⟩ | ⟨gn, _⟩
  ·exact Or.inl ⟨h1, h2, hs, g1, fun f hf => (right_SI (small _ (Or.inl rfl) h3) f _).2 (g2 f hf), h4, g3⟩
  ·exact absurd ⟨h1, h2, fun f hf => by obtain ⟨h, hh⟩ := h3 f hf; exact ⟨h, (right_SI (small _ (Or.inl rfl) h3) f _).1 hh⟩⟩ gn
 ·rcases implVerify_ev p with ⟨h1, h2, hs, g1, g2, g3⟩ | ⟨_, r', hr', he'⟩
  ·have h3 : ∀ f, f < p.length → ∃ h, rightI p f h := fun f hf => ⟨_, g2 f hf⟩
   exact absurd ⟨h1, h2, fun f hf => ⟨_, (right_SI (small _ (Or.inr rfl) h3) f _).2 (g2 f hf)⟩⟩ hn
  ·exact Or.inr ⟨r, r', hr, hr', he, he'⟩
structure RightP (p : List S35) (hs : List (List Int)) : Prop where
 pos : 1 ≤ p.length
 six : p.length ≤ 6
 len : hs.length = p.length
 fn : ∀ f, f < p.length → rightS p f (rdH hs f)
theorem RightP.hlen {p : List S35} {hs : List (List Int)} (R : RightP p hs) {f : Nat} (hf : f < p.length) : (rdH hs f).length = (fnI p f).f2.length := (run_len (R.fn f hf).2 (by simp [h0V, machS]) (by simp [w0V, machS])).1
theorem RightP.form {p : List S35} {hs : List (List Int)} (R : RightP p hs) {f : Nat} (hf : f < p.length) : formF p f (fnI p f) := (R.fn f hf).1
theorem RightP.heights {p : List S35} {hs : List (List Int)} (R : RightP p hs) {f : Nat} (hf : f < p.length) : Ev (fun k => spec_l04Heights.f k p (f : Int)) (rdH hs f, 0, 0, 0) := by
 have s := R.form hf
 exact specHeights_ev hf s.2.2.2.2.1 (by have := s.2.2.2.2.2.1; omega) (form_okJ s) (R.fn f hf).2
theorem known_both (p : List S35) : (∃ hs, RightP p hs ∧ Ev (fun k => spec_l04Right.f k p) true ∧ Ev (fun k => impl_known.f k p) (p, hs, true)) ∨ (∃ hs, Ev (fun k => spec_l04Right.f k p) false ∧ Ev (fun k => impl_known.f k p) (p, hs, false)) := by
 rcases verify_both p with ⟨h1, h2, hs, h3, h4, h5, h6⟩ | ⟨r, r', h1, h2, h3, h4⟩
 ·refine Or.inl ⟨hs, ⟨h1, h2, h3, h4⟩, ?_, ?_⟩
  ·unfold spec_l04Right.f; exact Ev.bind h5 (Ev.now _)
  ·unfold impl_known.f; exact Ev.bind h6 (Ev.now _)
 ·refine Or.inr ⟨r'.2.2.2, ?_, ?_⟩
  ·unfold spec_l04Right.f
   refine Ev.bind h3 ?_
   rw [beq_no h1]; exact Ev.now _
  ·unfold impl_known.f
   refine Ev.bind h4 ?_
   rw [beq_no h2]; exact Ev.now _
theorem is_both (p : List S35) (f : Int) : (∃ hs, RightP p hs ∧ Ev (fun k => spec_l04Is.f k p f) (hasB p f) ∧ Ev (fun k => impl_known.f k p) (p, hs, true)) ∨ (∃ hs, Ev (fun k => spec_l04Is.f k p f) false ∧ Ev (fun k => impl_known.f k p) (p, hs, false)) := by
 rcases known_both p with ⟨hs, h1, h2, h3⟩ | ⟨hs, h1, h2⟩
 ·refine Or.inl ⟨hs, h1, ?_, h3⟩
  unfold spec_l04Is.f
  refine Ev.bind h2 (Ev.yes rfl ?_)
  simp only [and_some]
  exact Ev.now _
 ·refine Or.inr ⟨hs, ?_, h2⟩
  unfold spec_l04Is.f
  exact Ev.bind h1 (Ev.no (by simp) (Ev.now _))
theorem nexts_closed (len : Nat) (v : Int) (hv : 0 ≤ v) : ∀ (l h : List Int) (w : List Bool), h.length = len → w.length = len → (∀ n ∈ l, 0 ≤ n) → ∀ h' w', nexts len v l h w = .ok (h', w') →
  (∀ n ∈ l, n < (len : Int) ∧ rd h' n = v) ∧ (∀ a : Nat, 0 ≤ rd h (a : Int) → rd h' (a : Int) = rd h (a : Int) ∧ w'.getD a false = w.getD a false) ∧ (∀ a : Nat, rd h (a : Int) < 0 → rd h' (a : Int) < 0 ∨ w'.getD a false = true) ∧ ((∀ a : Nat, w.getD a false = true → 0 ≤ rd h (a : Int)) → ∀ a : Nat, w'.getD a false = true → 0 ≤ rd h' (a : Int))
 | [], h, w, _, _, _, h', w', e => by
  simp only [nexts, Except.ok.injEq, Prod.mk.injEq] at e
  obtain ⟨rfl, rfl⟩ := e
  exact ⟨fun n hn => by simp at hn, fun a ha => ⟨rfl, rfl⟩, fun a ha => Or.inl ha, fun k => k⟩
 | n :: r, h, w, h0, h1, hn, h', w', e => by
  simp only [nexts] at e
  have hn0 := hn n (by simp)
  split at e
  ·cases e
  rename_i hlt
  obtain ⟨m, rfl⟩ : ∃ m : Nat, n = (m : Int) := ⟨n.toNat, by omega⟩
  have hm : m < h.length := by omega
  split at e
  ·cases e
  rename_i hne
  split at e
  ·rename_i hneg
   rw [Int.toNat_natCast] at e
   obtain ⟨k1, k2, k3, k4⟩ := nexts_closed len v hv r _ _ (by simpa using h0) (by simpa using h1) (fun q hq => hn q (by simp [hq])) h' w' e
   have hs := fun i => rd_set hm v i
   have ws := fun i => gb_set (show m < w.length by omega) true i
   have km : rd h' (m : Int) = v := by
    have := (k2 m (by rw [hs, if_pos rfl]; exact hv)).1
    rw [this, hs, if_pos rfl]
   refine ⟨fun q hq => ?_, fun a ha => ?_, fun a ha => ?_, fun k => k4 (fun a ha => ?_)⟩
   ·rcases List.mem_cons.1 hq with rfl | hq
    ·exact ⟨by omega, km⟩
    ·exact k1 q hq
   ·have hne : a ≠ m := by rintro rfl; omega
    have := k2 a (by rw [hs, if_neg hne]; exact ha)
    rw [hs, if_neg hne, ws, if_neg hne] at this
    exact this
   ·by_cases ham : a = m
    ·subst ham
     right
     have := (k2 a (by rw [hs, if_pos rfl]; exact hv)).2
     rw [this, ws, if_pos rfl]
    ·exact k3 a (by rw [hs, if_neg ham]; exact ha)
   ·by_cases ham : a = m
    ·subst ham; rw [hs, if_pos rfl]; exact hv
    ·rw [ws, if_neg ham] at ha
     rw [hs, if_neg ham]; exact k a ha
  ·rename_i hpos
   obtain ⟨k1, k2, k3, k4⟩ := nexts_closed len v hv r _ _ h0 h1 (fun q hq => hn q (by simp [hq])) h' w' e
   refine ⟨fun q hq => ?_, k2, k3, k4⟩
   rcases List.mem_cons.1 hq with rfl | hq
   ·have h2 : 0 ≤ rd h (m : Int) := by omega
    have h3 : rd h (m : Int) = v := Classical.byContradiction fun x => hne ⟨h2, x⟩
    exact ⟨by omega, (k2 m h2).1.trans h3⟩
   ·exact k1 q hq
def closedM (M : Mach) (h : List Int) (a : Nat) : Prop := M.bad a (rd h (a : Int)) = false ∧ ∀ n ∈ M.nx a, n < (M.len : Int) ∧ rd h n = M.v a (rd h (a : Int))
theorem run_closed {M : Mach} (G : M.Good) (hv : ∀ a, a < M.len → ∀ x, 0 ≤ x → x ≤ 8 → M.bad a x = false → 0 ≤ M.v a x ∧ M.v a x ≤ 8) {h : List Int} {w : List Bool} {r : List Int × Int × Int} (hr : Run M h w r) : h.length = M.len → w.length = M.len → (∀ a : Nat, -1 ≤ rd h (a : Int) ∧ rd h (a : Int) ≤ 8) →
  (∀ a : Nat, w.getD a false = true → 0 ≤ rd h (a : Int)) → (∀ a : Nat, a < M.len → 0 ≤ rd h (a : Int) → w.getD a false = false → closedM M h a) → r.2.2 = 0 → (∀ a : Nat, -1 ≤ rd r.1 (a : Int) ∧ rd r.1 (a : Int) ≤ 8) ∧ ∀ a : Nat, a < M.len → 0 ≤ rd r.1 (a : Int) → closedM M r.1 a := by
 induction hr with
 | stop hw => exact fun _ _ h8 _ hc _ => ⟨h8, fun a ha h0 => hc a ha h0 (hw a)⟩
 | bad hl e =>
  intro h0 h1 _ _ _ hz
  simp only at hz
  have := (step_bad h0 e).2
  omega
 | @go h w a h' w' r hl e hr ih =>
  intro h0 h1 h8 hw hc hz
  have hlen := step_len h0 h1 e
  have ha : a < M.len := by have := hl.1; omega
  unfold Mach.step at e
  split at e
  ·cases e
  rename_i hb
  have hb : M.bad a (rd h (a : Int)) = false := by simpa using hb
  have ha0 := hw a hl.2.1
  have hva := hv a ha _ ha0 (h8 a).2 hb
  have ws := fun i => gb_set (show a < w.length by omega) false i
  obtain ⟨k1, k2, k3, k4⟩ := nexts_closed M.len (M.v a (rd h (a : Int))) hva.1 (M.nx a) h (w.set a false) h0 (by simpa using h1) (G.nn a ha) h' w' e
  refine ih hlen.1 hlen.2 (nexts_all (P := fun x => -1 ≤ x ∧ x ≤ 8) M.len _ ⟨by omega, hva.2⟩ _ h _ h0 (G.nn a ha) h8 h' w' e) (k4 (fun b hbw => ?_)) (fun b hbl hb0 hbw => ?_) hz
  ·rw [ws] at hbw
   split at hbw
   ·cases hbw
   ·exact hw b hbw
  ·by_cases hbn : rd h (b : Int) < 0
   ·rcases k3 b hbn with q | q
    ·omega
    ·rw [hbw] at q; cases q
   have hbk := k2 b om
   have e1 := hbk.1
   have e2 := hbk.2
   rw [hbw, ws] at e2
   unfold closedM
   rw [e1]
   by_cases hba : b = a
   ·subst hba
    exact ⟨hb, k1⟩
   ·rw [if_neg hba] at e2
    obtain ⟨c1, c2⟩ := hc b hbl om e2.symm
    refine ⟨c1, fun n hn => ?_⟩
    have c3 := c2 n hn
    have hn0 := G.nn b hbl n hn
    obtain ⟨m, rfl⟩ : ∃ m : Nat, n = (m : Int) := ⟨n.toNat, by omega⟩
    refine ⟨c3.1, ?_⟩
    have hvb := hv b hbl _ om (h8 b).2 c1
    rw [(k2 m (by rw [c3.2]; exact hvb.1)).1, c3.2]
theorem RightP.args {p : List S35} {hs : List (List Int)} (R : RightP p hs) : ∀ f, f < p.length → 0 ≤ (fnI p f).f0 ∧ (fnI p f).f0 ≤ 4 := fun f hf => ⟨(R.form hf).1, (R.form hf).2.1⟩
theorem RightP.ends {p : List S35} {hs : List (List Int)} (R : RightP p hs) {f : Nat} (hf : f < p.length) : (∀ a : Nat, -1 ≤ rd (rdH hs f) (a : Int) ∧ rd (rdH hs f) (a : Int) ≤ 8) ∧ ∀ a : Nat, a < (fnI p f).f2.length → 0 ≤ rd (rdH hs f) (a : Int) → closedM (machS p (fnI p f).f2) (rdH hs f) a := by
 obtain ⟨hform, hrun⟩ := R.fn f hf
 have G := goodS p (fnI p f).f2 (form_okJ hform)
 have hL : 1 ≤ (fnI p f).f2.length := hform.2.2.2.2.1
 have sb := small_bad R.args (fnI p f).f2
 exact run_closed G (fun b hb x hx h8 hbad => (sb b x ⟨hx, h8⟩).2 hbad) hrun (by simp [h0V, machS]) (by simp [w0V, machS]) (fun b => by rw [h0V_rd hL]; repeat' split <;> omega)
  (fun b hb => by rw [w0V_gb hL] at hb; simp only [decide_eq_true_eq] at hb; rw [h0V_rd hL, if_pos hb]; omega)
  (fun b hb hb0 hbw => by
   rw [w0V_gb hL] at hbw
   simp only [decide_eq_false_iff_not] at hbw
   have hb' : b < (fnI p f).f2.length := hb
   rw [h0V_rd hL, if_neg hbw, if_pos hb'] at hb0
   omega) rfl
theorem RightP.at_ {p : List S35} {hs : List (List Int)} (R : RightP p hs) {f : Nat} (hf : f < p.length) {a : Nat} (ha : a < (fnI p f).f2.length) (h0 : 0 ≤ rd (rdH hs f) (a : Int)) :
  rd (rdH hs f) (a : Int) ≤ 8 ∧ 0 ≤ tkV p (fnI p f).f2 a ∧ tkV p (fnI p f).f2 a ≤ rd (rdH hs f) (a : Int) ∧ rd (rdH hs f) (a : Int) - tkV p (fnI p f).f2 a + putsV (cdI (fnI p f).f2 a).f0 ≤ 8 ∧
  ∀ n ∈ nxV (cdI (fnI p f).f2 a).f0 (cdI (fnI p f).f2 a).f1 a, 0 ≤ n ∧ n < ((fnI p f).f2.length : Int) ∧ rd (rdH hs f) n = rd (rdH hs f) (a : Int) - tkV p (fnI p f).f2 a + putsV (cdI (fnI p f).f2 a).f0 := by
 obtain ⟨hform, hrun⟩ := R.fn f hf
 have G := goodS p (fnI p f).f2 (form_okJ hform)
 obtain ⟨k8, kc⟩ := R.ends hf
 obtain ⟨c1, c2⟩ := kc a ha h0
 have tk := smallTk R.args (fnI p f).f2 a
 have pb := putsV_bd (cdI (fnI p f).f2 a).f0
 have hx8 := (k8 a).2
 simp only [machS, Bool.or_eq_false_iff, decide_eq_false_iff_not] at c1
 have hx8' : rd (rdH hs f) (a : Int) ≤ 8 := hx8
 have hv : nextH p (fnI p f).f2 a (rd (rdH hs f) (a : Int)) = rd (rdH hs f) (a : Int) - tkV p (fnI p f).f2 a + putsV (cdI (fnI p f).f2 a).f0 := by
  unfold nextH
  rw [wrap_in (n := rd (rdH hs f) (a : Int) - tkV p (fnI p f).f2 a) om om, wrap_in om om]
 rw [hv] at c1
 refine ⟨hx8', tk.1, by omega, by omega, fun n hn => ?_⟩
 have c3 := c2 n hn
 exact ⟨G.nn a ha n hn, c3.1, c3.2.trans hv⟩
theorem i64w (n : Int) : IntKind.i64.wrap n = wrap64 n := by
 unfold wrap64
 simp [IntKind.wrap, IntKind.bits, IntKind.signed]
 split <;> omega
theorem toNat64 (x : Int) : (BitVec.ofInt 64 x).toNat = (x % 18446744073709551616).toNat := by rw [BitVec.toNat_ofInt]; rfl
theorem natB (a : Nat) (h : a < 2 ^ 63) : (BitVec.ofInt 64 (a : Int)).toNat = a := by rw [toNat64]; omega
theorem wrapN (a : Nat) (h : a < 2 ^ 63) : IntKind.i64.wrap ((a : Nat) : Int) = (a : Int) := by rw [i64w, wrap_in om om]
theorem or_nat (a b : Nat) (ha : a < 2 ^ 63) (hb : b < 2 ^ 63) : Go.bits .or .i64 (a : Int) (b : Int) = ((a ||| b : Nat) : Int) := by
 show IntKind.i64.wrap ((BitVec.ofInt 64 (a : Int) ||| BitVec.ofInt 64 (b : Int)).toNat : Int) = _
 rw [BitVec.toNat_or, natB a ha, natB b hb, wrapN _ (Nat.or_lt_two_pow ha hb)]
theorem and_nat (a b : Nat) (ha : a < 2 ^ 63) (hb : b < 2 ^ 63) : Go.bits .and .i64 (a : Int) (b : Int) = ((a &&& b : Nat) : Int) := by
 show IntKind.i64.wrap ((BitVec.ofInt 64 (a : Int) &&& BitVec.ofInt 64 (b : Int)).toNat : Int) = _
 rw [BitVec.toNat_and, natB a ha, natB b hb, wrapN _ (Nat.and_lt_two_pow _ hb)]
def dif (a b : Nat) : Nat := a ^^^ (a &&& b)
theorem dif_bit (a b i : Nat) : (dif a b).testBit i = (a.testBit i && !b.testBit i) := by
 unfold dif
 rw [Nat.testBit_xor, Nat.testBit_and]
 cases a.testBit i <;> cases b.testBit i <;> rfl
theorem andn_nat (a b : Nat) (ha : a < 2 ^ 63) (hb : b < 2 ^ 63) : Go.bits .andNot .i64 (a : Int) (b : Int) = ((dif a b : Nat) : Int) := by
 show IntKind.i64.wrap ((BitVec.ofInt 64 (a : Int) &&& ~~~ BitVec.ofInt 64 (b : Int)).toNat : Int) = _
 have e : (BitVec.ofInt 64 (a : Int) &&& ~~~ BitVec.ofInt 64 (b : Int)).toNat = dif a b := by
  rw [BitVec.toNat_and, BitVec.toNat_not, natB a ha, natB b hb]
  refine Nat.eq_of_testBit_eq fun i => ?_
  rw [dif_bit, Nat.testBit_and, show 2 ^ 64 - 1 - b = 2 ^ 64 - (b + 1) by omega, Nat.testBit_two_pow_sub_succ (show b < 2 ^ 64 by omega)]
  by_cases hi : i < 64
  ·simp [hi]
  ·have : a.testBit i = false := Nat.testBit_lt_two_pow (Nat.lt_of_lt_of_le ha (Nat.pow_le_pow_right (by decide) om))
   simp [this]
 rw [e, wrapN]
 refine Nat.lt_of_le_of_lt ?_ ha
 unfold dif
 have h1 : a &&& b ≤ a := Nat.and_le_left
 exact Nat.le_of_testBit (fun i h => by
  have := dif_bit a b i
  unfold dif at this
  rw [this] at h
  cases e : a.testBit i
  ·rw [e] at h; exact h
  ·rfl)
def rng (lo n : Nat) : Nat := (2 ^ n - 1) <<< lo
theorem rng_bit (lo n i : Nat) : (rng lo n).testBit i = (decide (lo ≤ i) && decide (i < lo + n)) := by
 unfold rng
 rw [Nat.testBit_shiftLeft, Nat.testBit_two_pow_sub_one]
 by_cases h : lo ≤ i
 ·simp only [ge_iff_le, h, decide_true, Bool.true_and]
  exact decide_eq_decide.2 om
 ·simp [h]
theorem rng_lt (lo n m : Nat) (h : lo + n ≤ m) : rng lo n < 2 ^ m := by
 refine Nat.lt_pow_two_of_testBit _ fun i hi => ?_
 rw [rng_bit, decide_eq_false (show ¬ i < lo + n by omega), Bool.and_false]
theorem rng_pos (lo n : Nat) (h : 1 ≤ n) : rng lo n = 2 ^ lo ||| rng (lo + 1) (n - 1) := by
 refine Nat.eq_of_testBit_eq fun i => ?_
 rw [Nat.testBit_or, rng_bit, rng_bit, Nat.testBit_two_pow]
 by_cases e : lo = i
 ·subst e; simp; omega
 ·rw [decide_eq_false e, Bool.false_or]
  by_cases h1 : lo ≤ i
  ·rw [decide_eq_true h1, decide_eq_true (show lo + 1 ≤ i by omega)]
   simp only [Bool.true_and]
   exact decide_eq_decide.2 om
  ·rw [decide_eq_false h1, decide_eq_false (show ¬ lo + 1 ≤ i by omega), Bool.false_and, Bool.false_and]
theorem rng_zero (lo : Nat) : rng lo 0 = 0 := by simp [rng]
theorem shl_nat (a n : Nat) (hn : n ≤ 62) (h : a * 2 ^ n < 2 ^ 63) : shl .i64 (a : Int) (n : Int) = ((a * 2 ^ n : Nat) : Int) := by
 unfold shl
 have e : min ((n : Int).toNat) IntKind.i64.bits = n := by
  rw [Int.toNat_natCast]
  exact Nat.min_eq_left (show n ≤ 64 by omega)
 rw [e, show ((a : Int) * 2 ^ n) = ((a * 2 ^ n : Nat) : Int) by simp, wrapN _ h]
theorem shl_one (n : Nat) (hn : n ≤ 62) : shl .i64 1 (n : Int) = ((2 ^ n : Nat) : Int) := by
 have := shl_nat 1 n hn (by rw [Nat.one_mul]; exact Nat.pow_lt_pow_right (by decide) om)
 simpa using this
theorem shl_rng (lo n : Nat) (h : lo + n ≤ 62) : shl .i64 (wrap64 (shl .i64 1 (n : Int) - 1)) (lo : Int) = ((rng lo n : Nat) : Int) := by
 have hp : 2 ^ n < 2 ^ 63 := Nat.pow_lt_pow_right (by decide) om
 have h1 := Nat.one_le_two_pow (n := n)
 rw [shl_one n om, wrap_in om om, show ((2 ^ n : Nat) : Int) - 1 = ((2 ^ n - 1 : Nat) : Int) by omega]
 have hr := rng_lt lo n 63 om
 unfold rng at hr ⊢
 rw [Nat.shiftLeft_eq] at hr ⊢
 exact shl_nat _ _ om hr
theorem lt_63 {a n : Nat} (h : a < 2 ^ n) (hn : n ≤ 62) : a < 2 ^ 63 := Nat.lt_of_lt_of_le h (Nat.pow_le_pow_right (by decide) om)
theorem bit_lt {a n i : Nat} (h : a < 2 ^ n) (hi : a.testBit i = true) : i < n := by
 refine Classical.byContradiction fun c => ?_
 rw [Nat.testBit_lt_two_pow (Nat.lt_of_lt_of_le h (Nat.pow_le_pow_right (by decide) om))] at hi
 cases hi
theorem lt_bits {a n : Nat} (h : ∀ i, a.testBit i = true → i < n) : a < 2 ^ n := Nat.lt_pow_two_of_testBit _ fun i hi => by
 cases e : a.testBit i with
 | false => rfl
 | true => have := h i e; omega
theorem sub_le {a b : Nat} (h : ∀ i, a.testBit i = true → b.testBit i = true) : a ≤ b := Nat.le_of_testBit h
def getN (o : List Nat) (i : Int) : Nat := o.getD i.toNat 0
def intL (o : List Nat) : List Int := o.map (fun x : Nat => (x : Int))
theorem intL_len (o : List Nat) : (intL o).length = o.length := by simp [intL]
theorem rd_intL (o : List Nat) (i : Int) : rd (intL o) i = (getN o i : Int) := by
 unfold rd intL getN
 rw [List.getD_eq_getElem?_getD, List.getD_eq_getElem?_getD, List.getElem?_map]
 cases o[i.toNat]? <;> rfl
theorem intL_set (o : List Nat) (a v : Nat) : (intL o).set a (v : Int) = intL (o.set a v) := by simp [intL, List.map_set]
theorem getN_set {o : List Nat} {a : Nat} (ha : a < o.length) (v b : Nat) : getN (o.set a v) (b : Int) = if b = a then v else getN o (b : Int) := by
 unfold getN
 rw [Int.toNat_natCast, List.getD_eq_getElem?_getD, List.getD_eq_getElem?_getD, List.getElem?_set]
 by_cases e : a = b
 ·subst e; simp [ha]
 ·rw [if_neg e, if_neg (fun x => e x.symm)]
def behN (o : List Nat) (l : List Int) (s : Nat) : Nat := l.foldl (fun s n => s ||| getN o n) s
theorem behN_bit (o : List Nat) : ∀ (l : List Int) (s i : Nat), (behN o l s).testBit i = true ↔ s.testBit i = true ∨ ∃ n ∈ l, (getN o n).testBit i = true
 | [], s, i => by simp [behN]
 | n :: l, s, i => by
  have e : behN o (n :: l) s = behN o l (s ||| getN o n) := rfl
  rw [e, behN_bit o l, Nat.testBit_or]
  simp only [Bool.or_eq_true, List.mem_cons, exists_eq_or_imp, or_assoc]
def rdsN (op A : Int) (n t : Nat) : Nat := if op = 2 then 2 ^ A.toNat else rng (n - t) t
def wrsN (op A : Int) (n t u : Nat) : Nat := if op = 3 then 2 ^ A.toNat else rng (n - t) u
def wriN (op A : Int) (n t u : Nat) : Nat := if op = 3 then 2 ^ A.toNat else rng (n - t) t ||| rng (n - t) u
def slN (L : Int) (H : List Int) (a : Int) : Nat := (L + rd H a).toNat
def tkN (p : List S35) (c : List S38) (a : Nat) : Nat := (tkV p c a).toNat
def ptN (c : List S38) (a : Nat) : Nat := (putsV (cdI c a).f0).toNat
def newN (p : List S35) (x : S35) (H : List Int) (o : List Nat) (a : Nat) : Nat :=
 (rdsN (cdI x.f2 a).f0 (cdI x.f2 a).f1 (slN x.f1 H a) (tkN p x.f2 a) ||| dif (behN o (nxV (cdI x.f2 a).f0 (cdI x.f2 a).f1 a) 0) (wrsN (cdI x.f2 a).f0 (cdI x.f2 a).f1 (slN x.f1 H a) (tkN p x.f2 a) (ptN x.f2 a))) &&& rng 0 (slN x.f1 H a)
structure Place (p : List S35) (x : S35) (H : List Int) (a : Nat) : Prop where
 l0 : 0 ≤ x.f1
 l8 : x.f1 ≤ 8
 x0 : 0 ≤ rd H (a : Int)
 x8 : rd H (a : Int) ≤ 8
 t0 : 0 ≤ tkV p x.f2 a
 tx : tkV p x.f2 a ≤ rd H (a : Int)
 ux : rd H (a : Int) - tkV p x.f2 a + putsV (cdI x.f2 a).f0 ≤ 8
 ar : (cdI x.f2 a).f0 = 2 ∨ (cdI x.f2 a).f0 = 3 → 0 ≤ (cdI x.f2 a).f1 ∧ (cdI x.f2 a).f1 < x.f1
 nx : ∀ n ∈ nxV (cdI x.f2 a).f0 (cdI x.f2 a).f1 a, 0 ≤ n ∧ n < (x.f2.length : Int) ∧ rd H n = rd H (a : Int) - tkV p x.f2 a + putsV (cdI x.f2 a).f0
theorem RightP.place {p : List S35} {hs : List (List Int)} (R : RightP p hs) {f : Nat} (hf : f < p.length) {a : Nat} (ha : a < (fnI p f).f2.length) (h0 : 0 ≤ rd (rdH hs f) (a : Int)) : Place p (fnI p f) (rdH hs f) a := by
 have s := R.form hf
 obtain ⟨k1, k2, k3, k4, k5⟩ := R.at_ hf ha h0
 refine ⟨by have := s.2.2.1; have := s.1; omega, s.2.2.2.1, h0, k1, k2, k3, k4, fun h => ?_, k5⟩
 have hi := s.2.2.2.2.2.2 a ha
 unfold insRightV at hi
 split at hi
 ·rw [if_neg om] at hi
  (try rw [if_pos h] at hi)
  simp only [Bool.and_eq_true, decide_eq_true_eq] at hi
  exact hi
 ·cases hi
theorem Place.num {p : List S35} {x : S35} {H : List Int} {a : Nat} (P : Place p x H a) : slN x.f1 H a ≤ 16 ∧ tkN p x.f2 a ≤ slN x.f1 H a ∧ slN x.f1 H a - tkN p x.f2 a + ptN x.f2 a ≤ 16 ∧ ptN x.f2 a ≤ 2 ∧ tkN p x.f2 a ≤ 8 := by
 have := P.l0; have := P.l8; have := P.x0; have := P.x8; have := P.t0; have := P.tx; have := P.ux
 have pb := putsV_bd (cdI x.f2 a).f0
 unfold slN tkN ptN
 omega
theorem Place.next {p : List S35} {x : S35} {H : List Int} {a : Nat} (P : Place p x H a) {n : Int} (hn : n ∈ nxV (cdI x.f2 a).f0 (cdI x.f2 a).f1 a) : slN x.f1 H n = slN x.f1 H a - tkN p x.f2 a + ptN x.f2 a ∧ 0 ≤ rd H n := by
 have := P.l0; have := P.x0; have := P.t0; have := P.tx
 have pb := putsV_bd (cdI x.f2 a).f0
 have := (P.nx n hn).2.2
 unfold slN tkN ptN
 omega
def setsJ (x : S35) (H : List Int) (o : List Nat) : Prop := o.length = x.f2.length ∧ ∀ a : Nat, a < x.f2.length → (rd H (a : Int) < 0 → getN o (a : Int) = 0) ∧ (0 ≤ rd H (a : Int) → ∀ i, (getN o (a : Int)).testBit i = true → i < slN x.f1 H a)
theorem beh_lt {p : List S35} {x : S35} {H : List Int} {a : Nat} (P : Place p x H a) {o : List Nat} (J : setsJ x H o) {i : Nat} (hi : (behN o (nxV (cdI x.f2 a).f0 (cdI x.f2 a).f1 a) 0).testBit i = true) : i < slN x.f1 H a - tkN p x.f2 a + ptN x.f2 a := by
 rcases (behN_bit _ _ _ _).1 hi with h | ⟨n, hn, h⟩
 ·simp at h
 ·have hq := P.nx n hn
  obtain ⟨m, rfl⟩ : ∃ m : Nat, n = (m : Int) := ⟨n.toNat, by omega⟩
  have := (J.2 m om).2 (P.next hn).2 i h
  rw [(P.next hn).1] at this
  exact this
theorem beh_16 {p : List S35} {x : S35} {H : List Int} {a : Nat} (P : Place p x H a) {o : List Nat} (J : setsJ x H o) : behN o (nxV (cdI x.f2 a).f0 (cdI x.f2 a).f1 a) 0 < 2 ^ 16 := lt_bits fun i hi => by have := beh_lt P J hi; have := P.num; omega
theorem rds_sub {p : List S35} {x : S35} {H : List Int} {a : Nat} (P : Place p x H a) {i : Nat} (hi : (rdsN (cdI x.f2 a).f0 (cdI x.f2 a).f1 (slN x.f1 H a) (tkN p x.f2 a)).testBit i = true) : i < slN x.f1 H a := by
 have := P.num
 unfold rdsN at hi
 split at hi
 ·rename_i h2
  have h3 := P.ar (Or.inl h2)
  rw [Nat.testBit_two_pow] at hi
  simp only [decide_eq_true_eq] at hi
  have := P.x0
  unfold slN
  omega
 ·rw [rng_bit] at hi
  simp only [Bool.and_eq_true, decide_eq_true_eq] at hi
  omega
theorem A_16 {p : List S35} {x : S35} {H : List Int} {a : Nat} (P : Place p x H a) (h : (cdI x.f2 a).f0 = 2 ∨ (cdI x.f2 a).f0 = 3) : 2 ^ (cdI x.f2 a).f1.toNat < 2 ^ 16 := Nat.pow_lt_pow_right (by decide) (by have := P.ar h; have := P.l8; omega)
theorem rds_16 {p : List S35} {x : S35} {H : List Int} {a : Nat} (P : Place p x H a) : rdsN (cdI x.f2 a).f0 (cdI x.f2 a).f1 (slN x.f1 H a) (tkN p x.f2 a) < 2 ^ 16 := lt_bits fun i hi => by have := rds_sub P hi; have := P.num; omega
theorem wrs_16 {p : List S35} {x : S35} {H : List Int} {a : Nat} (P : Place p x H a) : wrsN (cdI x.f2 a).f0 (cdI x.f2 a).f1 (slN x.f1 H a) (tkN p x.f2 a) (ptN x.f2 a) < 2 ^ 16 := by
 unfold wrsN
 split
 ·exact A_16 P (Or.inr (by assumption))
 ·exact rng_lt _ _ _ P.num.2.2.1
theorem wri_16 {p : List S35} {x : S35} {H : List Int} {a : Nat} (P : Place p x H a) : wriN (cdI x.f2 a).f0 (cdI x.f2 a).f1 (slN x.f1 H a) (tkN p x.f2 a) (ptN x.f2 a) < 2 ^ 16 := by
 unfold wriN
 have := P.num
 split
 ·exact A_16 P (Or.inr (by assumption))
 ·exact Nat.or_lt_two_pow (rng_lt _ _ _ om) (rng_lt _ _ _ om)
theorem dif_same {p : List S35} {x : S35} {H : List Int} {a : Nat} (P : Place p x H a) {o : List Nat} (J : setsJ x H o) : dif (behN o (nxV (cdI x.f2 a).f0 (cdI x.f2 a).f1 a) 0) (wriN (cdI x.f2 a).f0 (cdI x.f2 a).f1 (slN x.f1 H a) (tkN p x.f2 a) (ptN x.f2 a)) = dif (behN o (nxV (cdI x.f2 a).f0 (cdI x.f2 a).f1 a) 0) (wrsN (cdI x.f2 a).f0 (cdI x.f2 a).f1 (slN x.f1 H a) (tkN p x.f2 a) (ptN x.f2 a)) := by
 refine Nat.eq_of_testBit_eq fun i => ?_
 rw [dif_bit, dif_bit]
 cases hb : (behN o (nxV (cdI x.f2 a).f0 (cdI x.f2 a).f1 a) 0).testBit i with
 | false => rfl
 | true =>
  have hlt := beh_lt P J hb
  unfold wriN wrsN
  split
  ·rfl
  ·rw [Nat.testBit_or, rng_bit, rng_bit]
   by_cases h : slN x.f1 H a - tkN p x.f2 a ≤ i
   ·rw [decide_eq_true h, decide_eq_true (show i < slN x.f1 H a - tkN p x.f2 a + ptN x.f2 a from hlt)]
    simp
   ·rw [decide_eq_false h]; rfl
theorem new_spec {p : List S35} {x : S35} {H : List Int} {a : Nat} (P : Place p x H a) {o : List Nat} : (dif (behN o (nxV (cdI x.f2 a).f0 (cdI x.f2 a).f1 a) 0) (wrsN (cdI x.f2 a).f0 (cdI x.f2 a).f1 (slN x.f1 H a) (tkN p x.f2 a) (ptN x.f2 a)) &&& rng 0 (slN x.f1 H a)) ||| rdsN (cdI x.f2 a).f0 (cdI x.f2 a).f1 (slN x.f1 H a) (tkN p x.f2 a) = newN p x H o a := by
 refine Nat.eq_of_testBit_eq fun i => ?_
 unfold newN
 rw [Nat.testBit_or, Nat.testBit_and, Nat.testBit_and, Nat.testBit_or]
 cases hr : (rdsN (cdI x.f2 a).f0 (cdI x.f2 a).f1 (slN x.f1 H a) (tkN p x.f2 a)).testBit i with
 | false => simp
 | true =>
  have := rds_sub P hr
  rw [rng_bit, decide_eq_true (show i < 0 + slN x.f1 H a by omega), decide_eq_true (Nat.zero_le i)]
  simp
theorem new_lt {p : List S35} {x : S35} {H : List Int} {o : List Nat} {a i : Nat} (hi : (newN p x H o a).testBit i = true) : i < slN x.f1 H a := by
 unfold newN at hi
 rw [Nat.testBit_and, rng_bit] at hi
 simp only [Bool.and_eq_true, decide_eq_true_eq] at hi
 omega
theorem setsJ_set {p : List S35} {x : S35} {H : List Int} {a : Nat} (ha : a < x.f2.length) (h0 : 0 ≤ rd H (a : Int)) {o : List Nat} (J : setsJ x H o) : setsJ x H (o.set a (newN p x H o a)) := by
 refine ⟨by rw [List.length_set]; exact J.1, fun b hb => ?_⟩
 rw [getN_set (by rw [J.1]; exact ha)]
 by_cases e : b = a
 ·subst e
  rw [if_pos rfl]
  exact ⟨fun h => by omega, fun _ i hi => new_lt hi⟩
 ·rw [if_neg e]; exact J.2 b hb
def grows (p : List S35) (x : S35) (H : List Int) (o : List Nat) : Prop := ∀ a : Nat, a < x.f2.length → 0 ≤ rd H (a : Int) → ∀ i, (getN o (a : Int)).testBit i = true → (newN p x H o a).testBit i = true
theorem new_mono {p : List S35} {x : S35} {H : List Int} {o o' : List Nat} (h : ∀ (n : Int) i, (getN o n).testBit i = true → (getN o' n).testBit i = true) (a i : Nat) (hi : (newN p x H o a).testBit i = true) : (newN p x H o' a).testBit i = true := by
 unfold newN at hi ⊢
 rw [Nat.testBit_and, Nat.testBit_or, dif_bit] at hi ⊢
 simp only [Bool.and_eq_true, Bool.or_eq_true] at hi ⊢
 refine ⟨hi.1.imp id fun q => ⟨?_, q.2⟩, hi.2⟩
 rcases (behN_bit _ _ _ _).1 q.1 with k | ⟨n, hn, k⟩
 ·exact (behN_bit _ _ _ _).2 (Or.inl k)
 ·exact (behN_bit _ _ _ _).2 (Or.inr ⟨n, hn, h n i k⟩)
theorem getN_grow {p : List S35} {x : S35} {H : List Int} {a : Nat} (ha : a < x.f2.length) (h0 : 0 ≤ rd H (a : Int)) {o : List Nat} (J : setsJ x H o) (g : grows p x H o) (n : Int) (i : Nat) (hi : (getN o n).testBit i = true) : (getN (o.set a (newN p x H o a)) n).testBit i = true := by
 have e : ∀ l : List Nat, getN l n = getN l ((n.toNat : Nat) : Int) := fun l => by unfold getN; rw [Int.toNat_natCast]
 rw [e] at hi ⊢
 rw [getN_set (by rw [J.1]; exact ha)]
 by_cases q : n.toNat = a
 ·rw [if_pos q]; rw [q] at hi; exact g a ha h0 i hi
 ·rw [if_neg q]; exact hi
theorem grows_set {p : List S35} {x : S35} {H : List Int} {a : Nat} (ha : a < x.f2.length) (h0 : 0 ≤ rd H (a : Int)) {o : List Nat} (J : setsJ x H o) (g : grows p x H o) : grows p x H (o.set a (newN p x H o a)) := by
 intro b hb hb0 i hi
 refine new_mono (getN_grow ha h0 J g) b i ?_
 rw [getN_set (by rw [J.1]; exact ha)] at hi
 by_cases q : b = a
 ·subst q; rw [if_pos rfl] at hi; exact hi
 ·rw [if_neg q] at hi; exact g b hb hb0 i hi
def sumN : List Nat → Nat
 | [] => 0
 | a :: l => a + sumN l
theorem sumN_set : ∀ (o : List Nat) (a v : Nat), a < o.length → sumN (o.set a v) + o.getD a 0 = sumN o + v
 | [], a, v, h => by simp at h
 | b :: o, 0, v, _ => by simp [sumN]; omega
 | b :: o, a + 1, v, h => by
  have := sumN_set o a v (by simpa using h)
  simp only [List.set_cons_succ, sumN, List.getD_cons_succ]
  omega
theorem sumN_le : ∀ (o : List Nat), (∀ v ∈ o, v < 2 ^ 16) → sumN o ≤ o.length * 65536
 | [], _ => by simp [sumN]
 | b :: o, h => by
  have := sumN_le o (fun v hv => h v (by simp [hv]))
  have := h b (by simp)
  simp only [sumN, List.length_cons]
  omega
theorem setsJ_16 {p : List S35} {x : S35} {H : List Int} (hP : ∀ a, a < x.f2.length → 0 ≤ rd H (a : Int) → Place p x H a) {o : List Nat} (J : setsJ x H o) : ∀ v ∈ o, v < 2 ^ 16 := by
 intro v hv
 obtain ⟨a, ha, rfl⟩ := List.mem_iff_getElem.1 hv
 have e : getN o (a : Int) = o[a] := by unfold getN; rw [Int.toNat_natCast, List.getD_eq_getElem?_getD, List.getElem?_eq_getElem ha]; rfl
 have hl : a < x.f2.length := by rw [← J.1]; exact ha
 by_cases h0 : rd H (a : Int) < 0
 ·have := (J.2 a hl).1 h0
  rw [← e, this]; decide
 ·rw [← e]
  exact lt_bits fun i hi => by
   have := (J.2 a hl).2 om i hi
   have := (hP a hl om).num
   omega
theorem specBit_some (n : Nat) (h : n ≤ 62) : spec_l08Bit.f (n : Int) = some ((2 ^ n : Nat) : Int) := by
 unfold spec_l08Bit.f
 have e : IntKind.u64.wrap (n : Int) = (n : Int) := by simp [IntKind.wrap, IntKind.bits, IntKind.signed]; omega
 rw [e, if_pos om, shl_one n h]
theorem specMask_l (hi : Nat) (h62 : hi ≤ 62) : ∀ (d i acc : Nat), i + d = hi → acc < 2 ^ 62 → Ev (fun k => spec_l08Mask.l0 k (hi : Int) (acc : Int) (i : Int)) ((acc ||| rng i d : Nat) : Int) := by
 intro d
 induction d with
 | zero =>
  intro i acc h _
  refine Ev.succ ?_
  simp only [spec_l08Mask.l0]
  rw [rng_zero, Nat.or_zero]
  exact Ev.no om (Ev.now _)
 | succ d ih =>
  intro i acc h ha
  refine Ev.succ ?_
  simp only [spec_l08Mask.l0]
  have hp : 2 ^ i < 2 ^ 62 := Nat.pow_lt_pow_right (by decide) om
  refine Ev.yes om (Ev.flat (specBit_some i om) ?_)
  rw [or_nat _ _ (lt_63 ha om) (lt_63 hp om), idx_next (show i < hi by omega) om]
  have := ih (i + 1) (acc ||| 2 ^ i) om (Nat.or_lt_two_pow ha hp)
  rw [Nat.or_assoc, ← show rng i (d + 1) = 2 ^ i ||| rng (i + 1) d from rng_pos i (d + 1) om] at this
  exact this
theorem specMask_ev (lo n : Nat) (h : lo + n ≤ 62) : Ev (fun k => spec_l08Mask.f k (lo : Int) ((lo + n : Nat) : Int)) ((rng lo n : Nat) : Int) := by
 unfold spec_l08Mask.f
 have := specMask_l (lo + n) h n lo 0 om (by decide)
 rw [Nat.zero_or] at this
 exact this
theorem specNext_ev (op A : Int) (a : Nat) (ha : a ≤ 1048576) : Ev (fun k => spec_l08Next.f k op A (a : Int)) (nxV op A a) := by
 have e1 : wrap64 ((a : Int) + 1) = (a : Int) + 1 := wrap_in om om
 have j1 : ∀ l : List Int, l.length ≤ 1 → Ev (fun k => spec_l08Next.j1 k l op A) (if op = 30 ∨ op = 31 then l ++ [A] else l) := by
  intro l hl
  refine Ev.succ ?_
  simp only [spec_l08Next.j1]
  refine Ev.cases (fun h => ?_) (fun h => Ev.cases (fun h' => ?_) (fun h' => ?_))
  ·rw [if_pos (Or.inl h)]; exact Ev.yes om (Ev.now _)
  ·rw [if_pos (Or.inr h')]; exact Ev.yes om (Ev.now _)
  ·rw [if_neg om]; exact Ev.now _
 unfold spec_l08Next.f nxV
 refine Ev.flat rfl ?_
 refine Ev.cases (fun h => Ev.succ ?_) (fun h => Ev.succ ?_)
 ·simp only [spec_l08Next.j0]
  have := j1 [] (by simp)
  rw [if_pos (Or.inl h)] at this
  rw [if_neg om, if_pos h]
  exact Ev.no (by simp) this
 ·simp only [spec_l08Next.j0, e1]
  by_cases h33 : op = 33
  ·have := j1 [] (by simp)
   rw [if_neg om] at this
   rw [if_pos h33]
   exact Ev.no (by simp [h33]) this
  ·have := j1 [(a : Int) + 1] (by simp)
   rw [if_neg h33, if_neg h]
   refine Ev.yes (by simp [h33]) (Ev.yes (by simp) ?_)
   by_cases h31 : op = 31
   ·rw [if_pos (Or.inr h31)] at this; rw [if_pos h31]; exact this
   ·rw [if_neg om] at this; rw [if_neg h31]; exact this
section
variable {p : List S35} {x : S35} {H : List Int} {a : Nat}
theorem Place.sl (P : Place p x H a) : x.f1 + rd H (a : Int) = (slN x.f1 H a : Int) ∧ tkV p x.f2 a = (tkN p x.f2 a : Int) ∧ putsV (cdI x.f2 a).f0 = (ptN x.f2 a : Int) := by
 have := P.l0; have := P.x0; have := P.t0
 have pb := putsV_bd (cdI x.f2 a).f0
 unfold slN tkN ptN
 omega
theorem specReads_ev (P : Place p x H a) : Ev (fun k => spec_l08Reads.f k p (cdI x.f2 a).f0 (cdI x.f2 a).f1 (slN x.f1 H a : Int)) ((rdsN (cdI x.f2 a).f0 (cdI x.f2 a).f1 (slN x.f1 H a) (tkN p x.f2 a) : Nat) : Int) := by
 have nm := P.num
 unfold spec_l08Reads.f rdsN
 refine Ev.cases (fun h => ?_) (fun h => ?_)
 ·have ar := P.ar (Or.inl h)
  have l8 := P.l8
  obtain ⟨A, hA⟩ : ∃ A : Nat, (cdI x.f2 a).f1 = (A : Int) := ⟨_, (Int.toNat_of_nonneg ar.1).symm⟩
  rw [if_pos h, hA, Int.toNat_natCast]
  exact Ev.flat (specBit_some A om) (Ev.now _)
 ·rw [if_neg h]
  refine Ev.bind (specTakes_ev p _ _) ?_
  have e := P.sl.2.1
  unfold tkV at e
  rw [e, show (slN x.f1 H a : Int) - (tkN p x.f2 a : Int) = ((slN x.f1 H a - tkN p x.f2 a : Nat) : Int) by omega, wrap_in om om]
  have := specMask_ev (slN x.f1 H a - tkN p x.f2 a) (tkN p x.f2 a) om
  rw [show slN x.f1 H a - tkN p x.f2 a + tkN p x.f2 a = slN x.f1 H a by omega] at this
  exact Ev.bind this (Ev.now _)
theorem specWrites_ev (P : Place p x H a) : Ev (fun k => spec_l08Writes.f k p (cdI x.f2 a).f0 (cdI x.f2 a).f1 (slN x.f1 H a : Int)) ((wrsN (cdI x.f2 a).f0 (cdI x.f2 a).f1 (slN x.f1 H a) (tkN p x.f2 a) (ptN x.f2 a) : Nat) : Int) := by
 have nm := P.num
 unfold spec_l08Writes.f wrsN
 refine Ev.cases (fun h => ?_) (fun h => ?_)
 ·have ar := P.ar (Or.inr h)
  have l8 := P.l8
  obtain ⟨A, hA⟩ : ∃ A : Nat, (cdI x.f2 a).f1 = (A : Int) := ⟨_, (Int.toNat_of_nonneg ar.1).symm⟩
  rw [if_pos h, hA, Int.toNat_natCast]
  exact Ev.flat (specBit_some A om) (Ev.now _)
 ·rw [if_neg h]
  refine Ev.bind (specTakes_ev p _ _) (Ev.bind (specPuts_ev _ _) ?_)
  have e := P.sl.2.1
  unfold tkV at e
  rw [e, P.sl.2.2, show (slN x.f1 H a : Int) - (tkN p x.f2 a : Int) = ((slN x.f1 H a - tkN p x.f2 a : Nat) : Int) by omega, wrap_in (n := ((slN x.f1 H a - tkN p x.f2 a : Nat) : Int)) om om,
   show ((slN x.f1 H a - tkN p x.f2 a : Nat) : Int) + (ptN x.f2 a : Int) = ((slN x.f1 H a - tkN p x.f2 a + ptN x.f2 a : Nat) : Int) by omega, wrap_in om om]
  exact Ev.bind (specMask_ev _ _ om) (Ev.now _)
theorem implTop_some (P : Place p x H a) {g : Nat} (hg : g < p.length) (hx : fnI p g = x) (hs : List (List Int)) (y : Int) (lo n : Nat) (hy : x.f1 + y = ((lo + n : Nat) : Int)) (h : lo + n ≤ 62) : impl_prog_top.f p hs (g : Int) y (n : Int) = some ((rng lo n : Nat) : Int) := by
 unfold impl_prog_top.f
 have ex : (rd_T35 p (g : Int)).f1 = x.f1 := by rw [← hx]; rfl
 rw [ex, hy, wrap_in (n := ((lo + n : Nat) : Int)) om om, show ((lo + n : Nat) : Int) - (n : Int) = (lo : Int) by omega, wrap_in (n := (lo : Int)) om om, if_pos om, if_pos om, if_pos om, if_pos om, shl_rng lo n h]
end
section
variable {p : List S35} {hs : List (List Int)} {g : Nat}
theorem implAt_some (hg : g < p.length) {a : Nat} (ha : a < (fnI p g).f2.length) : impl_prog_at.f p hs (g : Int) (a : Int) = some ((cdI (fnI p g).f2 a).f0, (cdI (fnI p g).f2 a).f1) := by
 unfold impl_prog_at.f
 have e : (rd_T35 p (g : Int)).f2 = (fnI p g).f2 := rfl
 rw [if_pos om, if_pos om, if_pos om, e, if_pos om]
 rfl
theorem implReached_some (R : RightP p hs) (hg : g < p.length) {a : Nat} (ha : a < (fnI p g).f2.length) : impl_prog_reached.f p hs (g : Int) (a : Int) = some (decide (0 ≤ rd (rdH hs g) (a : Int))) := by
 unfold impl_prog_reached.f
 have hl := R.hlen hg
 have hh := R.len
 have e : rd_L7 hs (g : Int) = rdH hs g := rfl
 rw [hasFunc_some, Option.bind_some, if_pos (hasB_iff.2 ⟨by omega, by omega⟩), if_pos om, if_pos om, if_pos om, e, if_pos om, if_pos om]
theorem implSlots_some (R : RightP p hs) (hg : g < p.length) {a : Nat} (ha : a < (fnI p g).f2.length) (P : Place p (fnI p g) (rdH hs g) a) : impl_prog_slots.f p hs (g : Int) (a : Int) = some (slN (fnI p g).f1 (rdH hs g) a : Int) := by
 unfold impl_prog_slots.f
 have hl := R.hlen hg
 have hh := R.len
 have nm := P.num
 have e : rd_L7 hs (g : Int) = rdH hs g := rfl
 have e2 : (rd_T35 p (g : Int)).f1 = (fnI p g).f1 := rfl
 rw [e, e2, P.sl.1, if_pos om, if_pos om, if_pos om, if_pos om, if_pos om, wrap_in om om]
theorem implReads_ev (R : RightP p hs) (hg : g < p.length) {a : Nat} (ha : a < (fnI p g).f2.length) (P : Place p (fnI p g) (rdH hs g) a) : Ev (fun k => impl_prog_reads.f k p hs (g : Int) (a : Int)) ((rdsN (cdI (fnI p g).f2 a).f0 (cdI (fnI p g).f2 a).f1 (slN (fnI p g).f1 (rdH hs g) a) (tkN p (fnI p g).f2 a) : Nat) : Int) := by
 have nm := P.num
 have hl := R.hlen hg
 have hh := R.len
 have e : rd_L7 hs (g : Int) = rdH hs g := rfl
 unfold impl_prog_reads.f rdsN
 refine Ev.flat (implAt_some hg ha) (Ev.cases (fun h => ?_) (fun h => ?_))
 ·have h : (cdI (fnI p g).f2 a).f0 = 2 := h
  have ar := P.ar (Or.inl h)
  have l8 := P.l8
  obtain ⟨A, hA⟩ : ∃ A : Nat, (cdI (fnI p g).f2 a).f1 = (A : Int) := ⟨_, (Int.toNat_of_nonneg ar.1).symm⟩
  simp only [hA, if_pos h, Int.toNat_natCast]
  rw [shl_one A om]
  exact Ev.yes om (Ev.now _)
 ·have h : ¬ (cdI (fnI p g).f2 a).f0 = 2 := h
  rw [if_neg h]
  refine Ev.yes om (Ev.yes om (Ev.yes om (Ev.yes (by rw [e]; omega) (Ev.bind (implTakes_ev p _ _) ?_))))
  have e2 := P.sl.2.1
  unfold tkV at e2
  simp only [e2, e]
  refine Ev.flat (implTop_some P hg rfl hs _ (slN (fnI p g).f1 (rdH hs g) a - tkN p (fnI p g).f2 a) _ ?_ om) (Ev.now _)
  rw [P.sl.1]; omega
theorem implWrites_ev (R : RightP p hs) (hg : g < p.length) {a : Nat} (ha : a < (fnI p g).f2.length) (P : Place p (fnI p g) (rdH hs g) a) : Ev (fun k => impl_prog_writes.f k p hs (g : Int) (a : Int)) ((wriN (cdI (fnI p g).f2 a).f0 (cdI (fnI p g).f2 a).f1 (slN (fnI p g).f1 (rdH hs g) a) (tkN p (fnI p g).f2 a) (ptN (fnI p g).f2 a) : Nat) : Int) := by
 have nm := P.num
 have hl := R.hlen hg
 have hh := R.len
 have e : rd_L7 hs (g : Int) = rdH hs g := rfl
 unfold impl_prog_writes.f wriN
 refine Ev.flat (implAt_some hg ha) (Ev.cases (fun h => ?_) (fun h => ?_))
 ·have h : (cdI (fnI p g).f2 a).f0 = 3 := h
  have ar := P.ar (Or.inr h)
  have l8 := P.l8
  obtain ⟨A, hA⟩ : ∃ A : Nat, (cdI (fnI p g).f2 a).f1 = (A : Int) := ⟨_, (Int.toNat_of_nonneg ar.1).symm⟩
  simp only [hA, if_pos h, Int.toNat_natCast]
  rw [shl_one A om]
  exact Ev.yes om (Ev.now _)
 ·have h : ¬ (cdI (fnI p g).f2 a).f0 = 3 := h
  rw [if_neg h]
  refine Ev.bind (implTakes_ev p _ _) (Ev.bind (implPuts_ev _ _) (Ev.yes om (Ev.yes om (Ev.yes om (Ev.yes (by rw [e]; omega) ?_)))))
  have e2 := P.sl.2.1
  have l0 := P.l0
  have x0 := P.x0
  have x8 := P.x8
  have s1 := P.sl.1
  have tx := P.tx
  unfold tkV at e2 tx
  simp only [e2, P.sl.2.2, e]
  rw [e2] at tx
  refine Ev.flat (implTop_some P hg rfl hs _ (slN (fnI p g).f1 (rdH hs g) a - tkN p (fnI p g).f2 a) _ (by rw [s1]; omega) om) ?_
  rw [wrap_in (n := rd (rdH hs g) (a : Int) - (tkN p (fnI p g).f2 a : Int)) om om, wrap_in om om]
  refine Ev.flat (implTop_some P hg rfl hs _ (slN (fnI p g).f1 (rdH hs g) a - tkN p (fnI p g).f2 a) _ om om) ?_
  rw [or_nat _ _ (lt_63 (rng_lt _ _ 16 om) om) (lt_63 (rng_lt _ _ 16 om) om)]
  exact Ev.now _
def turnN (p : List S35) (x : S35) (H : List Int) (t : Bool) (o : List Nat) (a : Nat) : Bool := t || (newN p x H o a != getN o (a : Int))
theorem bne_cast (m n : Nat) : ((m : Int) != (n : Int)) = (m != n) := by
 cases e : m != n with
 | true =>
  have : m ≠ n := by simpa using e
  simp only [bne_iff_ne, ne_eq]; omega
 | false =>
  have : m = n := by simpa using e
  simp [this]
theorem specPlace (R : RightP p hs) (hg : g < p.length) {a : Nat} (ha : a < (fnI p g).f2.length) (h60 : (fnI p g).f2.length ≤ 60) (P : Place p (fnI p g) (rdH hs g) a) {o : List Nat} (J : setsJ (fnI p g) (rdH hs g) o) (t : Bool) {r : List Int}
  (h : Ev (fun k => spec_l08Live.l1 k (g : Int) (rdH hs g) (fnI p g).f2 (intL (o.set a (newN p (fnI p g) (rdH hs g) o a))) (turnN p (fnI p g) (rdH hs g) t o a) ((a : Int) - 1) p) r) :
  Ev (fun k => spec_l08Live.l1 k (g : Int) (rdH hs g) (fnI p g).f2 (intL o) t (a : Int) p) r := by
 have hl := R.hlen hg
 have x0 := P.x0
 have nm := P.num
 refine Ev.succ ?_
 simp only [spec_l08Live.l1]
 have e2 : (rd_T35 p (g : Int)).f1 = (fnI p g).f1 := rfl
 refine Ev.yes om (Ev.yes om (Ev.yes om (Ev.no om (Ev.yes om (Ev.yes om (Ev.yes om (Ev.bind (specNext_ev _ _ a om) ?_)))))))
 rw [e2, P.sl.1, wrap_in (n := (slN (fnI p g).f1 (rdH hs g) a : Int)) om om]
 have b16 := beh_16 P J
 show Ev (fun k => spec_l08Live.l2 k _ _ _ _ _ _ _ 0 (nxV (cdI (fnI p g).f2 a).f0 (cdI (fnI p g).f2 a).f1 a) 0 p) r
 have tail : Ev (fun k => spec_l08Live.l2 k (g : Int) (rdH hs g) (fnI p g).f2 (intL o) t (a : Int) (slN (fnI p g).f1 (rdH hs g) a : Int) ((behN o (nxV (cdI (fnI p g).f2 a).f0 (cdI (fnI p g).f2 a).f1 a) 0 : Nat) : Int) (nxV (cdI (fnI p g).f2 a).f0 (cdI (fnI p g).f2 a).f1 a) ((nxV (cdI (fnI p g).f2 a).f0 (cdI (fnI p g).f2 a).f1 a).length : Int) p) r := by
  refine Ev.succ ?_
  simp only [spec_l08Live.l2]
  have m0 := specMask_ev 0 (slN (fnI p g).f1 (rdH hs g) a) om
  rw [Nat.zero_add] at m0
  refine Ev.no om (Ev.yes om (Ev.yes om (Ev.bind (specWrites_ev P) (Ev.bind m0 (Ev.bind (specReads_ev P) ?_)))))
  have d16 : dif (behN o (nxV (cdI (fnI p g).f2 a).f0 (cdI (fnI p g).f2 a).f1 a) 0) (wrsN (cdI (fnI p g).f2 a).f0 (cdI (fnI p g).f2 a).f1 (slN (fnI p g).f1 (rdH hs g) a) (tkN p (fnI p g).f2 a) (ptN (fnI p g).f2 a)) < 2 ^ 16 := lt_bits fun i hi => by
   rw [dif_bit] at hi
   simp only [Bool.and_eq_true] at hi
   exact bit_lt b16 hi.1
  have r16 : rng 0 (slN (fnI p g).f1 (rdH hs g) a) < 2 ^ 16 := rng_lt _ _ _ om
  rw [andn_nat _ _ (lt_63 b16 om) (lt_63 (wrs_16 P) om), and_nat _ _ (lt_63 d16 om) (lt_63 r16 om), or_nat _ _ (lt_63 (Nat.and_lt_two_pow _ r16) om) (lt_63 (rds_16 P) om), new_spec P, Int.toNat_natCast, intL_set, rd_intL, bne_cast, wrap_in (n := (a : Int) - 1) om om]
  have hlo : (a : Int) < ((intL o).length : Int) := by rw [intL_len, J.1]; omega
  unfold turnN at h
  cases t with
  | true => exact Ev.yes rfl (Ev.yes hlo h)
  | false => exact Ev.no (by simp) (Ev.yes hlo h)
 have nn := P.nx
 have two := nxV_two (cdI (fnI p g).f2 a).f0 (cdI (fnI p g).f2 a).f1 a
 generalize nxV (cdI (fnI p g).f2 a).f0 (cdI (fnI p g).f2 a).f1 a = L at nn tail two
 have key : ∀ (d i : Nat), i + d = L.length → ∀ s : Nat, s < 2 ^ 16 → behN o (L.drop i) s = behN o L 0 → Ev (fun k => spec_l08Live.l2 k (g : Int) (rdH hs g) (fnI p g).f2 (intL o) t (a : Int) (slN (fnI p g).f1 (rdH hs g) a : Int) (s : Int) L (i : Int) p) r := by
  intro d
  induction d with
  | zero =>
   intro i hi s _ hs'
   rw [List.drop_of_length_le om] at hs'
   have e : s = behN o L 0 := hs'
   rw [e, show i = L.length by omega]
   exact tail
  | succ d ih =>
   intro i hi s h16 hs'
   have hil : i < L.length := by omega
   have hv : rd L (i : Int) = L[i] := by show L.getD _ 0 = _; rw [Int.toNat_natCast, List.getD_eq_getElem?_getD, List.getElem?_eq_getElem hil]; rfl
   have hq := nn _ (List.getElem_mem hil)
   refine Ev.succ ?_
   simp only [spec_l08Live.l2, hv]
   have g16 : getN o L[i] < 2 ^ 16 := by
    have e : getN o L[i] = getN o ((L[i].toNat : Nat) : Int) := by unfold getN; rw [Int.toNat_natCast]
    have hp := R.place hg (a := L[i].toNat) om (by rw [show ((L[i].toNat : Nat) : Int) = L[i] by omega, hq.2.2]; have := P.tx; have := putsV_bd (cdI (fnI p g).f2 a).f0; omega)
    rw [e]
    exact lt_bits fun j hj => by
     have := (J.2 _ om).2 hp.x0 j hj
     have := hp.num
     omega
   refine Ev.yes om (Ev.yes om (Ev.yes om (Ev.yes (by rw [intL_len, J.1]; omega) ?_)))
   rw [rd_intL, or_nat _ _ (lt_63 h16 om) (lt_63 g16 om), idx_next hil om]
   refine ih (i + 1) om _ (Nat.or_lt_two_pow h16 g16) ?_
   rw [← hs', List.drop_eq_getElem_cons hil]
   rfl
 exact key L.length 0 om 0 (by decide) (by simp)
theorem implPlace (R : RightP p hs) (hg : g < p.length) {a : Nat} (ha : a < (fnI p g).f2.length) (h60 : (fnI p g).f2.length ≤ 60) (P : Place p (fnI p g) (rdH hs g) a) {o : List Nat} (J : setsJ (fnI p g) (rdH hs g) o) (t : Bool) {r : List Int}
  (h : Ev (fun k => impl_prog_live.l1 k (g : Int) (intL (o.set a (newN p (fnI p g) (rdH hs g) o a))) (turnN p (fnI p g) (rdH hs g) t o a) ((a : Int) - 1) p hs) r) :
  Ev (fun k => impl_prog_live.l1 k (g : Int) (intL o) t (a : Int) p hs) r := by
 have hl := R.hlen hg
 have x0 := P.x0
 have nm := P.num
 refine Ev.succ ?_
 simp only [impl_prog_live.l1]
 have rch := implReached_some R hg ha
 rw [decide_eq_true x0] at rch
 refine Ev.yes om (Ev.flat rch (Ev.yes rfl (Ev.flat (implAt_some hg ha) (Ev.flat (impl_next_some _ _ a om) ?_))))
 have b16 := beh_16 P J
 show Ev (fun k => impl_prog_live.l2 k _ _ _ _ 0 (nxV (cdI (fnI p g).f2 a).f0 (cdI (fnI p g).f2 a).f1 a) _ 0 p hs) r
 have tail : Ev (fun k => impl_prog_live.l2 k (g : Int) (intL o) t (a : Int) ((behN o (nxV (cdI (fnI p g).f2 a).f0 (cdI (fnI p g).f2 a).f1 a) 0 : Nat) : Int) (nxV (cdI (fnI p g).f2 a).f0 (cdI (fnI p g).f2 a).f1 a) ((nxV (cdI (fnI p g).f2 a).f0 (cdI (fnI p g).f2 a).f1 a).length : Int) ((nxV (cdI (fnI p g).f2 a).f0 (cdI (fnI p g).f2 a).f1 a).length : Int) p hs) r := by
  refine Ev.succ ?_
  simp only [impl_prog_live.l2]
  refine Ev.no om (Ev.flat (implSlots_some R hg ha P) (Ev.yes om (Ev.bind (implReads_ev R hg ha P) (Ev.bind (implWrites_ev R hg ha P) ?_))))
  have d16 : dif (behN o (nxV (cdI (fnI p g).f2 a).f0 (cdI (fnI p g).f2 a).f1 a) 0) (wrsN (cdI (fnI p g).f2 a).f0 (cdI (fnI p g).f2 a).f1 (slN (fnI p g).f1 (rdH hs g) a) (tkN p (fnI p g).f2 a) (ptN (fnI p g).f2 a)) < 2 ^ 16 := lt_bits fun i hi => by
   rw [dif_bit] at hi
   simp only [Bool.and_eq_true] at hi
   exact bit_lt b16 hi.1
  have r16 : rng 0 (slN (fnI p g).f1 (rdH hs g) a) < 2 ^ 16 := rng_lt _ _ _ om
  have mk : wrap64 (shl .i64 1 (slN (fnI p g).f1 (rdH hs g) a : Int) - 1) = ((rng 0 (slN (fnI p g).f1 (rdH hs g) a) : Nat) : Int) := by
   have h1 := Nat.one_le_two_pow (n := slN (fnI p g).f1 (rdH hs g) a)
   have hp : 2 ^ slN (fnI p g).f1 (rdH hs g) a < 2 ^ 63 := Nat.pow_lt_pow_right (by decide) om
   rw [shl_one _ om, wrap_in om om]
   unfold rng
   rw [Nat.shiftLeft_zero]
   omega
  rw [mk, andn_nat _ _ (lt_63 b16 om) (lt_63 (wri_16 P) om), dif_same P J, or_nat _ _ (lt_63 (rds_16 P) om) (lt_63 d16 om), and_nat _ _ (lt_63 (Nat.or_lt_two_pow (rds_16 P) d16) om) (lt_63 r16 om), Int.toNat_natCast]
  show Ev (fun k => if t = true then if 0 ≤ (a : Int) then if (a : Int) < ((intL o).length : Int) then impl_prog_live.l1 k (g : Int) ((intL o).set a ((newN p (fnI p g) (rdH hs g) o a : Nat) : Int)) true (wrap64 ((a : Int) - 1)) p hs else none else none else if 0 ≤ (a : Int) then if (a : Int) < ((intL o).length : Int) then impl_prog_live.l1 k (g : Int) ((intL o).set a ((newN p (fnI p g) (rdH hs g) o a : Nat) : Int)) (((newN p (fnI p g) (rdH hs g) o a : Nat) : Int) != rd (intL o) (a : Int)) (wrap64 ((a : Int) - 1)) p hs else none else none) r
  rw [intL_set, rd_intL, bne_cast, wrap_in (n := (a : Int) - 1) om om]
  have hlo : (a : Int) < ((intL o).length : Int) := by rw [intL_len, J.1]; omega
  unfold turnN at h
  cases t with
  | true => exact Ev.yes rfl (Ev.yes om (Ev.yes hlo h))
  | false => exact Ev.no (by simp) (Ev.yes om (Ev.yes hlo h))
 have nn := P.nx
 have two := nxV_two (cdI (fnI p g).f2 a).f0 (cdI (fnI p g).f2 a).f1 a
 generalize nxV (cdI (fnI p g).f2 a).f0 (cdI (fnI p g).f2 a).f1 a = L at nn tail two
 have key : ∀ (d i : Nat), i + d = L.length → ∀ s : Nat, s < 2 ^ 16 → behN o (L.drop i) s = behN o L 0 → Ev (fun k => impl_prog_live.l2 k (g : Int) (intL o) t (a : Int) (s : Int) L (L.length : Int) (i : Int) p hs) r := by
  intro d
  induction d with
  | zero =>
   intro i hi s _ hs'
   rw [List.drop_of_length_le om] at hs'
   have e : s = behN o L 0 := hs'
   rw [e, show i = L.length by omega]
   exact tail
  | succ d ih =>
   intro i hi s h16 hs'
   have hil : i < L.length := by omega
   have hv : rd L (i : Int) = L[i] := by show L.getD _ 0 = _; rw [Int.toNat_natCast, List.getD_eq_getElem?_getD, List.getElem?_eq_getElem hil]; rfl
   have hq := nn _ (List.getElem_mem hil)
   refine Ev.succ ?_
   simp only [impl_prog_live.l2, hv]
   have g16 : getN o L[i] < 2 ^ 16 := by
    have e : getN o L[i] = getN o ((L[i].toNat : Nat) : Int) := by unfold getN; rw [Int.toNat_natCast]
    have hp := R.place hg (a := L[i].toNat) om (by rw [show ((L[i].toNat : Nat) : Int) = L[i] by omega, hq.2.2]; have := P.tx; have := putsV_bd (cdI (fnI p g).f2 a).f0; omega)
    rw [e]
    exact lt_bits fun j hj => by
     have := (J.2 _ om).2 hp.x0 j hj
     have := hp.num
     omega
   refine Ev.yes om (Ev.yes om (Ev.yes om (Ev.yes om (Ev.yes (by rw [intL_len, J.1]; omega) ?_))))
   rw [rd_intL, or_nat _ _ (lt_63 h16 om) (lt_63 g16 om), idx_next hil om]
   refine ih (i + 1) om _ (Nat.or_lt_two_pow h16 g16) ?_
   rw [← hs', List.drop_eq_getElem_cons hil]
   rfl
 exact key L.length 0 om 0 (by decide) (by simp)
def hasR (p : List S35) (x : S35) (H : List Int) (o : List Nat) (d : Nat) : Prop := ∀ a : Nat, d ≤ a → a < x.f2.length → 0 ≤ rd H (a : Int) → ∀ i, (rdsN (cdI x.f2 a).f0 (cdI x.f2 a).f1 (slN x.f1 H a) (tkN p x.f2 a)).testBit i = true → (getN o (a : Int)).testBit i = true
theorem rds_new {p : List S35} {x : S35} {H : List Int} {a : Nat} (P : Place p x H a) (o : List Nat) {i : Nat} (hi : (rdsN (cdI x.f2 a).f0 (cdI x.f2 a).f1 (slN x.f1 H a) (tkN p x.f2 a)).testBit i = true) : (newN p x H o a).testBit i = true := by
 have := rds_sub P hi
 unfold newN
 rw [Nat.testBit_and, Nat.testBit_or, hi]
 simp [rng_bit]
 omega
theorem live_pass (R : RightP p hs) (hg : g < p.length) (h60 : (fnI p g).f2.length ≤ 60) : ∀ d, d ≤ (fnI p g).f2.length → ∀ (o : List Nat) (t : Bool), setsJ (fnI p g) (rdH hs g) o → grows p (fnI p g) (rdH hs g) o → hasR p (fnI p g) (rdH hs g) o d →
  ∃ (o' : List Nat) (t' : Bool), hasR p (fnI p g) (rdH hs g) o' 0 ∧ setsJ (fnI p g) (rdH hs g) o' ∧ grows p (fnI p g) (rdH hs g) o' ∧ sumN o ≤ sumN o' ∧ (t' = true → t = true ∨ sumN o < sumN o') ∧
   (∀ r, Ev (fun k => spec_l08Live.l0 k (g : Int) (rdH hs g) (fnI p g).f2 (intL o') t' p) r → Ev (fun k => spec_l08Live.l1 k (g : Int) (rdH hs g) (fnI p g).f2 (intL o) t ((d : Int) - 1) p) r) ∧
   (∀ r, Ev (fun k => impl_prog_live.l0 k (g : Int) (intL o') t' p hs) r → Ev (fun k => impl_prog_live.l1 k (g : Int) (intL o) t ((d : Int) - 1) p hs) r) := by
 intro d
 induction d with
 | zero =>
  intro _ o t J G HR
  refine ⟨o, t, HR, J, G, Nat.le_refl _, Or.inl, fun r h => Ev.succ ?_, fun r h => Ev.succ ?_⟩
  ·simp only [spec_l08Live.l1]
   exact Ev.no om h
  ·simp only [impl_prog_live.l1]
   exact Ev.no om h
 | succ d ih =>
  intro hd o t J G HR
  have hl := R.hlen hg
  have ha : d < (fnI p g).f2.length := by omega
  rw [show ((d + 1 : Nat) : Int) - 1 = (d : Int) by omega]
  by_cases h0 : rd (rdH hs g) (d : Int) < 0
  ·have hne : ∀ a : Nat, d ≤ a → 0 ≤ rd (rdH hs g) (a : Int) → d + 1 ≤ a := by
    intro a h1 h3
    rcases Nat.eq_or_lt_of_le h1 with q | q
    ·subst q; omega
    ·omega
   obtain ⟨o', t', kR, k1, k2, k3, k4, k5, k6⟩ := ih om o t J G (fun a h1 h2 h3 => HR a (hne a h1 h3) h2 h3)
   refine ⟨o', t', kR, k1, k2, k3, k4, fun r h => Ev.succ ?_, fun r h => Ev.succ ?_⟩
   ·simp only [spec_l08Live.l1]
    refine Ev.yes om (Ev.yes om (Ev.yes om (Ev.yes h0 ?_)))
    rw [wrap_in (n := (d : Int) - 1) om om]
    exact k5 r h
   ·simp only [impl_prog_live.l1]
    have rch := implReached_some R hg ha
    rw [decide_eq_false om] at rch
    refine Ev.yes om (Ev.flat rch (Ev.no (by simp) ?_))
    rw [wrap_in (n := (d : Int) - 1) om om]
    exact k6 r h
  ·have h0' : 0 ≤ rd (rdH hs g) (d : Int) := by omega
   have P := R.place hg ha h0'
   obtain ⟨o', t', kR, k1, k2, k3, k4, k5, k6⟩ := ih om (o.set d (newN p (fnI p g) (rdH hs g) o d)) (turnN p (fnI p g) (rdH hs g) t o d) (setsJ_set ha h0' J) (grows_set ha h0' J G) (fun a h1 h2 h3 i hi => by
    rw [getN_set (by rw [J.1]; exact ha)]
    by_cases q : a = d
    ·subst q; rw [if_pos rfl]; exact rds_new P o hi
    ·rw [if_neg q]; exact HR a om h2 h3 i hi)
   have hs1 := sumN_set o d (newN p (fnI p g) (rdH hs g) o d) (by rw [J.1]; exact ha)
   have hge : getN o (d : Int) = o.getD d 0 := by unfold getN; rw [Int.toNat_natCast]
   have hle : getN o (d : Int) ≤ newN p (fnI p g) (rdH hs g) o d := sub_le (G d ha h0')
   refine ⟨o', t', kR, k1, k2, by omega, fun ht => ?_, fun r h => specPlace R hg ha h60 P J t (k5 r h), fun r h => implPlace R hg ha h60 P J t (k6 r h)⟩
   rcases k4 ht with q | q
   ·unfold turnN at q
    simp only [Bool.or_eq_true, bne_iff_ne] at q
    rcases q with q | q
    ·exact Or.inl q
    ·exact Or.inr om
   ·exact Or.inr om
theorem live_both (R : RightP p hs) (hg : g < p.length) (h60 : (fnI p g).f2.length ≤ 60) : ∀ (m : Nat) (o : List Nat), setsJ (fnI p g) (rdH hs g) o → grows p (fnI p g) (rdH hs g) o → 3932160 - sumN o ≤ m →
  ∃ (v : List Int) (o' : List Nat), (v = intL o' ∧ setsJ (fnI p g) (rdH hs g) o' ∧ hasR p (fnI p g) (rdH hs g) o' 0) ∧ v.length = (fnI p g).f2.length ∧ Ev (fun k => spec_l08Live.l0 k (g : Int) (rdH hs g) (fnI p g).f2 (intL o) true p) v ∧ Ev (fun k => impl_prog_live.l0 k (g : Int) (intL o) true p hs) v := by
 intro m
 induction m with
 | zero =>
  intro o J G hm
  obtain ⟨o', t', kR, k1, k2, k3, k4, k5, k6⟩ := live_pass R hg h60 _ (Nat.le_refl _) o false J G (fun a h1 h2 => by omega)
  have b1 := sumN_le o' (setsJ_16 (p := p) (fun a ha h0 => R.place hg ha h0) k1)
  rw [k1.1] at b1
  have ht : t' = false := by
   cases t' with
   | false => rfl
   | true =>
    rcases k4 rfl with q | q
    ·cases q
    ·omega
  subst ht
  refine ⟨intL o', o', ⟨rfl, k1, kR⟩, by rw [intL_len, k1.1], Ev.succ ?_, Ev.succ ?_⟩
  ·simp only [spec_l08Live.l0]
   refine Ev.yes (by simp) ?_
   rw [wrap_in om om]
   refine k5 _ (Ev.succ ?_)
   simp only [spec_l08Live.l0]
   exact Ev.no (by simp) (Ev.now _)
  ·simp only [impl_prog_live.l0]
   refine Ev.yes (by simp) ?_
   rw [intL_len, J.1, wrap_in om om]
   refine k6 _ (Ev.succ ?_)
   simp only [impl_prog_live.l0]
   exact Ev.no (by simp) (Ev.now _)
 | succ m ih =>
  intro o J G hm
  obtain ⟨o', t', kR, k1, k2, k3, k4, k5, k6⟩ := live_pass R hg h60 _ (Nat.le_refl _) o false J G (fun a h1 h2 => by omega)
  have b1 := sumN_le o' (setsJ_16 (p := p) (fun a ha h0 => R.place hg ha h0) k1)
  rw [k1.1] at b1
  have done : ∃ (v : List Int) (o9 : List Nat), (v = intL o9 ∧ setsJ (fnI p g) (rdH hs g) o9 ∧ hasR p (fnI p g) (rdH hs g) o9 0) ∧ v.length = (fnI p g).f2.length ∧ Ev (fun k => spec_l08Live.l0 k (g : Int) (rdH hs g) (fnI p g).f2 (intL o') t' p) v ∧ Ev (fun k => impl_prog_live.l0 k (g : Int) (intL o') t' p hs) v := by
   cases t' with
   | true =>
    refine ih o' k1 k2 ?_
    rcases k4 rfl with q | q
    ·cases q
    ·omega
   | false =>
    refine ⟨intL o', o', ⟨rfl, k1, kR⟩, by rw [intL_len, k1.1], Ev.succ ?_, Ev.succ ?_⟩
    ·simp only [spec_l08Live.l0]
     exact Ev.no (by simp) (Ev.now _)
    ·simp only [impl_prog_live.l0]
     exact Ev.no (by simp) (Ev.now _)
  obtain ⟨v, o2, vo, v0, v1, v2⟩ := done
  refine ⟨v, o2, vo, v0, Ev.succ ?_, Ev.succ ?_⟩
  ·simp only [spec_l08Live.l0]
   refine Ev.yes (by simp) ?_
   rw [wrap_in om om]
   exact k5 _ v1
  ·simp only [impl_prog_live.l0]
   refine Ev.yes (by simp) ?_
   rw [intL_len, J.1, wrap_in om om]
   exact k6 _ v2
theorem live_ev (R : RightP p hs) (hg : g < p.length) : ∃ (v : List Int) (o' : List Nat), (v = intL o' ∧ setsJ (fnI p g) (rdH hs g) o' ∧ hasR p (fnI p g) (rdH hs g) o' 0) ∧ v.length = (fnI p g).f2.length ∧ Ev (fun k => spec_l08Live.f k p (g : Int)) v ∧ Ev (fun k => impl_prog_live.f k p hs (g : Int)) v := by
 have s := R.form hg
 have h60 := s.2.2.2.2.2.1
 have code : impl_prog_code.f p hs (g : Int) = some (fnI p g).f2 := by
  unfold impl_prog_code.f
  rw [if_pos om, if_pos om]; rfl
 have g0 : ∀ n : Int, getN (List.replicate (fnI p g).f2.length 0) n = 0 := by
  intro n
  unfold getN
  rw [List.getD_eq_getElem?_getD, List.getElem?_replicate]
  split <;> rfl
 have z : List.replicate (fnI p g).f2.length (0 : Int) = intL (List.replicate (fnI p g).f2.length 0) := by simp [intL]
 obtain ⟨v, o2, vo, v0, v1, v2⟩ := live_both R hg h60 3932160 (List.replicate (fnI p g).f2.length 0) ⟨by simp, fun a _ => ⟨fun _ => g0 _, fun _ i hi => by rw [g0] at hi; simp at hi⟩⟩ (fun a _ _ i hi => by rw [g0] at hi; simp at hi) om
 refine ⟨v, o2, vo, v0, ?_, ?_⟩
 ·unfold spec_l08Live.f
  have e : (rd_T35 p (g : Int)).f2 = (fnI p g).f2 := rfl
  refine Ev.bind (R.heights hg) (Ev.yes om (Ev.yes om ?_))
  simp only [e, Int.toNat_natCast]
  rw [z]
  exact Ev.yes om (Ev.yes om v1)
 ·unfold impl_prog_live.f
  refine Ev.flat code ?_
  simp only [Int.toNat_natCast]
  rw [z]
  exact Ev.yes om (Ev.yes om v2)
end
theorem growP_cov {r : Int × Int} {q j : Int} (hq : 0 ≤ q) (h : 0 ≤ r.1 ∧ r.1 ≤ j ∧ j ≤ r.2) : 0 ≤ (growP r q).1 ∧ (growP r q).1 ≤ j ∧ j ≤ (growP r q).2 := by
 unfold growP
 dsimp only
 split <;> omega
theorem growP_new {r : Int × Int} {q : Int} (hq : 0 ≤ q) (h : r.1 = -1 ∨ 0 ≤ r.1) : 0 ≤ (growP r q).1 ∧ (growP r q).1 ≤ q ∧ q ≤ (growP r q).2 := by
 unfold growP
 dsimp only
 split <;> omega
theorem growP_ok {r : Int × Int} {q : Int} (hq : 0 ≤ q) : (growP r q).1 = -1 ∨ 0 ≤ (growP r q).1 := by
 unfold growP
 dsimp only
 split <;> omega
theorem stepP_ok {LV : List Int} {RB : Int → Bool} {WV : Int → Int} {s i : Int} {r : Int × Int} (hi : 0 ≤ i) (h : r.1 = -1 ∨ 0 ≤ r.1) : (stepP LV RB WV s i r).1 = -1 ∨ 0 ≤ (stepP LV RB WV s i r).1 := by
 unfold stepP
 dsimp only
 split
 ·exact growP_ok om
 ·split
  ·exact growP_ok hi
  ·exact h
theorem stepP_cov {LV : List Int} {RB : Int → Bool} {WV : Int → Int} {s i j : Int} {r : Int × Int} (hi : 0 ≤ i) (h : 0 ≤ r.1 ∧ r.1 ≤ j ∧ j ≤ r.2) : 0 ≤ (stepP LV RB WV s i r).1 ∧ (stepP LV RB WV s i r).1 ≤ j ∧ j ≤ (stepP LV RB WV s i r).2 := by
 unfold stepP
 dsimp only
 have h1 : 0 ≤ (if bitB (rd LV i) s = true then growP r i else r).1 ∧ (if bitB (rd LV i) s = true then growP r i else r).1 ≤ j ∧ j ≤ (if bitB (rd LV i) s = true then growP r i else r).2 := by
  split
  ·exact growP_cov hi h
  ·exact h
 split
 ·exact growP_cov om h1
 ·exact h1
theorem stepP_new {LV : List Int} {RB : Int → Bool} {WV : Int → Int} {s i : Int} {r : Int × Int} (hi : 0 ≤ i) (h : r.1 = -1 ∨ 0 ≤ r.1) (hb : bitB (rd LV i) s = true) : 0 ≤ (stepP LV RB WV s i r).1 ∧ (stepP LV RB WV s i r).1 ≤ i ∧ i ≤ (stepP LV RB WV s i r).2 := by
 unfold stepP
 dsimp only
 rw [if_pos hb]
 have h1 := growP_new hi h
 split
 ·exact growP_cov om h1
 ·exact h1
theorem runP_ok (LV : List Int) (RB : Int → Bool) (WV : Int → Int) (s : Int) : ∀ n : Nat, (runP LV RB WV s n).1 = -1 ∨ 0 ≤ (runP LV RB WV s n).1
 | 0 => Or.inl rfl
 | n + 1 => stepP_ok om (runP_ok LV RB WV s n)
theorem runP_cov (LV : List Int) (RB : Int → Bool) (WV : Int → Int) (s : Int) : ∀ n i : Nat, i < n → bitB (rd LV (i : Int)) s = true → 0 ≤ (runP LV RB WV s n).1 ∧ (runP LV RB WV s n).1 ≤ i ∧ (i : Int) ≤ (runP LV RB WV s n).2
 | 0, i, h, _ => absurd h om
 | n + 1, i, h, hb => by
  unfold runP
  by_cases q : i = n
  ·subst q; exact stepP_new om (runP_ok LV RB WV s i) hb
  ·exact stepP_cov om (runP_cov LV RB WV s n i om hb)
theorem inP_hit (rs : List S54) (kk a : Int) : ∀ n j : Nat, j < n → hitP rs kk a (j : Int) = true → inP rs kk a n = true
 | 0, j, h, _ => absurd h om
 | n + 1, j, h, hb => by
  unfold inP
  by_cases q : j = n
  ·subst q; rw [hb, Bool.or_true]
  ·rw [inP_hit rs kk a n j om hb, Bool.true_or]
theorem rngP_mem (LV : List Int) (RB : Int → Bool) (WV : Int → Int) : ∀ S s : Nat, s < S → 0 ≤ (runP LV RB WV (s : Int) LV.length).1 → (⟨(s : Int), (runP LV RB WV (s : Int) LV.length).1, (runP LV RB WV (s : Int) LV.length).2⟩ : S54) ∈ rngP LV RB WV S
 | 0, s, h, _ => absurd h om
 | S + 1, s, h, h0 => by
  unfold rngP
  by_cases q : s = S
  ·subst q; rw [if_pos h0]; simp
  ·exact List.mem_append_left _ (rngP_mem LV RB WV S s om h0)
theorem inP_cov {LV : List Int} {RB : Int → Bool} {WV : Int → Int} {S s i : Nat} (hs : s < S) (hi : i < LV.length) (hb : bitB (rd LV (i : Int)) (s : Int) = true) : inP (rngP LV RB WV S) (s : Int) (i : Int) (rngP LV RB WV S).length = true := by
 have h := runP_cov LV RB WV (s : Int) LV.length i hi hb
 obtain ⟨j, hj, e⟩ := List.getElem_of_mem (rngP_mem LV RB WV S s hs h.1)
 refine inP_hit _ _ _ _ j hj ?_
 have e2 : rd_T54 (rngP LV RB WV S) (j : Int) = ⟨(s : Int), (runP LV RB WV (s : Int) LV.length).1, (runP LV RB WV (s : Int) LV.length).2⟩ := by
  unfold rd_T54
  rw [Int.toNat_natCast, List.getD_eq_getElem?_getD, List.getElem?_eq_getElem hj, e]; rfl
 unfold hitP
 rw [e2]
 simp [h.2.1, h.2.2]
/- FnRanges, the plain part: what the law asks of a drawn program. No condition. -/
theorem and_pow_zero (x s : Nat) : (x &&& 2 ^ s) = 0 ↔ x.testBit s = false := by
 constructor
 ·intro h
  have : (x &&& 2 ^ s).testBit s = false := by rw [h]; simp
  rw [Nat.testBit_and, Nat.testBit_two_pow] at this
  simpa using this
 ·intro h
  refine Nat.eq_of_testBit_eq fun i => ?_
  rw [Nat.testBit_and, Nat.testBit_two_pow, Nat.zero_testBit]
  by_cases e : s = i
  ·subst e; simp [h]
  ·simp [e]
theorem bitsV (x s : Nat) (hx : x < 2 ^ 62) (hs : s ≤ 64) : bits BinOp.and IntKind.i64 ((x : Int) / 2 ^ min ((s : Int)).toNat 64) 1 = if x.testBit s = true then 1 else 0 := by
 rw [Int.toNat_natCast, Nat.min_eq_left hs]
 have e : (x : Int) / 2 ^ s = ((x / 2 ^ s : Nat) : Int) := by simp
 have hd : x / 2 ^ s ≤ x := Nat.div_le_self _ _
 have := and_nat (x / 2 ^ s) 1 om (by decide)
 rw [e, show (1 : Int) = ((1 : Nat) : Int) from rfl, this, Nat.and_one_is_mod, Nat.testBit_eq_decide_div_mod_eq]
 by_cases h : x / 2 ^ s % 2 = 1
 ·simp [h]
 ·have : x / 2 ^ s % 2 = 0 := by omega
  simp [this]
theorem bitB_nat (x s : Nat) (hx : x < 2 ^ 62) (hs : s ≤ 64) : bitB (x : Int) (s : Int) = x.testBit s := by
 unfold bitB
 rw [bitsV x s hx hs]
 cases x.testBit s <;> rfl
def cntB (q : Nat → Bool) : Nat → Nat
 | 0 => 0
 | n + 1 => cntB q n + if q n = true then 1 else 0
theorem cntB_le (q : Nat → Bool) : ∀ n, cntB q n ≤ n
 | 0 => Nat.le_refl _
 | n + 1 => by have := cntB_le q n; unfold cntB; split <;> omega
theorem cntB_tail {q : Nat → Bool} (n : Nat) : ∀ d, (∀ s, n ≤ s → s < n + d → q s = false) → cntB q (n + d) = cntB q n
 | 0, _ => rfl
 | d + 1, h => by
  rw [show n + (d + 1) = (n + d) + 1 by omega, cntB, cntB_tail n d (fun s h1 h2 => h s h1 om), h (n + d) om om]
  simp
theorem rngP_len (LV : List Int) (RB : Int → Bool) (WV : Int → Int) : ∀ S, (rngP LV RB WV S).length = cntB (fun s => decide (0 ≤ (runP LV RB WV (s : Int) LV.length).1)) S
 | 0 => rfl
 | S + 1 => by
  unfold rngP cntB
  rw [List.length_append, rngP_len LV RB WV S]
  by_cases h : 0 ≤ (runP LV RB WV (S : Int) LV.length).1
  ·simp [h]
  ·simp [h]
theorem growP_pos {r : Int × Int} {q : Int} (hq : 0 ≤ q) : 0 ≤ (growP r q).1 := by
 unfold growP
 dsimp only
 split <;> omega
theorem stepP_iff {LV : List Int} {RB : Int → Bool} {WV : Int → Int} {s i : Int} {r : Int × Int} (hi : 0 ≤ i) : 0 ≤ (stepP LV RB WV s i r).1 ↔ 0 ≤ r.1 ∨ bitB (rd LV i) s = true ∨ (RB i = true ∧ bitB (WV i) s = true ∧ i + 1 < (LV.length : Int)) := by
 unfold stepP
 dsimp only
 by_cases h2 : RB i = true ∧ bitB (WV i) s = true ∧ i + 1 < (LV.length : Int)
 ·rw [if_pos h2]
  exact ⟨fun _ => Or.inr (Or.inr h2), fun _ => growP_pos om⟩
 ·rw [if_neg h2]
  by_cases h1 : bitB (rd LV i) s = true
  ·rw [if_pos h1]
   exact ⟨fun _ => Or.inr (Or.inl h1), fun _ => growP_pos hi⟩
  ·rw [if_neg h1]
   exact ⟨Or.inl, fun h => h.resolve_right (fun h => h.elim h1 h2)⟩
theorem runP_iff (LV : List Int) (RB : Int → Bool) (WV : Int → Int) (s : Int) : ∀ n : Nat, 0 ≤ (runP LV RB WV s n).1 ↔ ∃ i : Nat, i < n ∧ (bitB (rd LV (i : Int)) s = true ∨ (RB i = true ∧ bitB (WV i) s = true ∧ (i : Int) + 1 < (LV.length : Int)))
 | 0 => by
  unfold runP
  exact ⟨fun h => absurd h (by decide), fun ⟨i, h, _⟩ => absurd h om⟩
 | n + 1 => by
  unfold runP
  rw [stepP_iff om, runP_iff LV RB WV s n]
  constructor
  ·rintro (⟨i, h1, h2⟩ | h)
   ·exact ⟨i, by omega, h2⟩
   ·exact ⟨n, by omega, h⟩
  ·rintro ⟨i, h1, h2⟩
   by_cases e : i = n
   ·subst e; exact Or.inr h2
   ·exact Or.inl ⟨i, by omega, h2⟩
def hasS (o : List Nat) (s : Nat) : Prop := ∃ b : Nat, b < o.length ∧ (getN o (b : Int)).testBit s = true
theorem specR2 (s : Nat) (hs : s < 16) (c : List S38) (o : List Nat) (ho : o.length = c.length) (h60 : c.length ≤ 60) (h16 : ∀ b : Nat, b < o.length → getN o (b : Int) < 2 ^ 16) (out : List S54) : ∀ (d a : Nat) (fr tw : Int), a + d = c.length →
  ∃ fr' tw' : Int, (0 ≤ fr' ↔ 0 ≤ fr ∨ ∃ b : Nat, a ≤ b ∧ b < o.length ∧ (getN o (b : Int)).testBit s = true) ∧ ∀ r, Ev (fun k => if fr' ≥ 0 then (if out.length < 5864062014805 then spec_Ranges.l1 k (out ++ [(⟨(s : Int), fr', tw'⟩ : S54)]) c (intL o) (wrap64 ((s : Int) + 1)) else none) else spec_Ranges.l1 k out c (intL o) (wrap64 ((s : Int) + 1))) r → Ev (fun k => spec_Ranges.l2 k out c (intL o) (s : Int) (a : Int) (s : Int) fr tw) r := by
 intro d
 induction d with
 | zero =>
  intro a fr tw h
  refine ⟨fr, tw, ⟨Or.inl, fun q => q.elim id (fun ⟨b, h1, h2, _⟩ => absurd h1 om)⟩, fun r hr => Ev.succ ?_⟩
  simp only [spec_Ranges.l2]
  exact Ev.no om hr
 | succ d ih =>
  intro a fr tw h
  have ha : a < o.length := by omega
  have hb : 2 ^ s < 2 ^ 16 := Nat.pow_lt_pow_right (by decide) hs
  have ea : (Go.bits .and .i64 (rd (intL o) (a : Int)) ((2 ^ s : Nat) : Int) = 0) ↔ (getN o (a : Int)).testBit s = false := by
   rw [rd_intL, and_nat _ _ (lt_63 (h16 a ha) om) (lt_63 hb om), ← and_pow_zero]
   omega
  have go : ∀ (fr2 tw2 : Int), (0 ≤ fr2 ↔ 0 ≤ fr ∨ (getN o (a : Int)).testBit s = true) → (∀ r, Ev (fun k => spec_Ranges.l2 k out c (intL o) (s : Int) (wrap64 ((a : Int) + 1)) (s : Int) fr2 tw2) r → Ev (fun k => spec_Ranges.l2 k out c (intL o) (s : Int) (a : Int) (s : Int) fr tw) r) →
    ∃ fr' tw' : Int, (0 ≤ fr' ↔ 0 ≤ fr ∨ ∃ b : Nat, a ≤ b ∧ b < o.length ∧ (getN o (b : Int)).testBit s = true) ∧ ∀ r, Ev (fun k => if fr' ≥ 0 then (if out.length < 5864062014805 then spec_Ranges.l1 k (out ++ [(⟨(s : Int), fr', tw'⟩ : S54)]) c (intL o) (wrap64 ((s : Int) + 1)) else none) else spec_Ranges.l1 k out c (intL o) (wrap64 ((s : Int) + 1))) r → Ev (fun k => spec_Ranges.l2 k out c (intL o) (s : Int) (a : Int) (s : Int) fr tw) r := by
   intro fr2 tw2 hi hev
   obtain ⟨fr', tw', k1, k2⟩ := ih (a + 1) fr2 tw2 om
   refine ⟨fr', tw', ?_, fun r hr => hev r ?_⟩
   ·rw [k1, hi]
    constructor
    ·rintro ((q | q) | ⟨b, q1, q2, q3⟩)
     ·exact Or.inl q
     ·exact Or.inr ⟨a, Nat.le_refl _, ha, q⟩
     ·exact Or.inr ⟨b, by omega, q2, q3⟩
    ·rintro (q | ⟨b, q1, q2, q3⟩)
     ·exact Or.inl (Or.inl q)
     ·by_cases e : b = a
      ·subst e; exact Or.inl (Or.inr q3)
      ·exact Or.inr ⟨b, by omega, q2, q3⟩
   ·rw [idx_next (show a < c.length by omega) om]
    exact k2 r hr
  cases hq : (getN o (a : Int)).testBit s with
  | false =>
   refine go fr tw (by simp [hq]) (fun r hr => Ev.succ ?_)
   simp only [spec_Ranges.l2]
   refine Ev.yes om (Ev.yes om (Ev.yes (by rw [intL_len]; omega) (Ev.flat (specBit_some s om) (Ev.yes (ea.2 hq) hr))))
  | true =>
   by_cases hfr : fr < 0
   ·refine go (a : Int) (a : Int) (by simp [hq]) (fun r hr => Ev.succ ?_)
    simp only [spec_Ranges.l2]
    refine Ev.yes om (Ev.yes om (Ev.yes (by rw [intL_len]; omega) (Ev.flat (specBit_some s om) (Ev.no (fun e => by rw [ea.1 e] at hq; cases hq) (Ev.yes hfr hr)))))
   ·refine go fr (a : Int) (by simp [hq]; omega) (fun r hr => Ev.succ ?_)
    simp only [spec_Ranges.l2]
    refine Ev.yes om (Ev.yes om (Ev.yes (by rw [intL_len]; omega) (Ev.flat (specBit_some s om) (Ev.no (fun e => by rw [ea.1 e] at hq; cases hq) (Ev.no hfr hr)))))
theorem specR1 (c : List S38) (o : List Nat) (ho : o.length = c.length) (h60 : c.length ≤ 60) (h16 : ∀ b : Nat, b < o.length → getN o (b : Int) < 2 ^ 16) (q : Nat → Bool) (hq : ∀ s, s < 16 → (q s = true ↔ hasS o s)) : ∀ (d s : Nat) (out : List S54), s + d = 16 → out.length = cntB q s → ∃ r : List S54, r.length = cntB q 16 ∧ Ev (fun k => spec_Ranges.l1 k out c (intL o) (s : Int)) r := by
 intro d
 induction d with
 | zero =>
  intro s out h hl
  refine ⟨out, by rw [hl, show s = 16 by omega], Ev.succ ?_⟩
  simp only [spec_Ranges.l1]
  exact Ev.no om (Ev.now _)
 | succ d ih =>
  intro s out h hl
  obtain ⟨fr, tw, k1, k2⟩ := specR2 s om c o ho h60 h16 out c.length 0 (-1) 0 om
  have hle := cntB_le q s
  have hs : q s = true ↔ 0 ≤ fr := by
   rw [hq s om, k1]
   unfold hasS
   constructor
   ·rintro ⟨b, h1, h2⟩; exact Or.inr ⟨b, Nat.zero_le _, h1, h2⟩
   ·rintro (h1 | ⟨b, _, h1, h2⟩)
    ·omega
    ·exact ⟨b, h1, h2⟩
  by_cases hf : 0 ≤ fr
  ·obtain ⟨r, r1, r2⟩ := ih (s + 1) (out ++ [⟨(s : Int), fr, tw⟩]) om (by rw [List.length_append, hl, cntB, if_pos (hs.2 hf)]; rfl)
   refine ⟨r, r1, Ev.succ ?_⟩
   simp only [spec_Ranges.l1]
   refine Ev.yes om (k2 r (Ev.yes hf (Ev.yes om ?_)))
   rw [idx_next (show s < 16 by omega) om]
   exact r2
  ·obtain ⟨r, r1, r2⟩ := ih (s + 1) out om (by rw [hl, cntB, if_neg (fun e => hf (hs.1 e))]; rfl)
   refine ⟨r, r1, Ev.succ ?_⟩
   simp only [spec_Ranges.l1]
   refine Ev.yes om (k2 r (Ev.no om ?_))
   rw [idx_next (show s < 16 by omega) om]
   exact r2
section
variable {p : List S35} {hs : List (List Int)} {g : Nat}
def wrP (p : List S35) (x : S35) (H : List Int) (a : Nat) : Nat := wrsN (cdI x.f2 a).f0 (cdI x.f2 a).f1 (slN x.f1 H a) (tkN p x.f2 a) (ptN x.f2 a)
def wiP (p : List S35) (x : S35) (H : List Int) (a : Nat) : Nat := wriN (cdI x.f2 a).f0 (cdI x.f2 a).f1 (slN x.f1 H a) (tkN p x.f2 a) (ptN x.f2 a)
theorem specR0 (R : RightP p hs) (hg : g < p.length) (h60 : (fnI p g).f2.length ≤ 60) : ∀ (d a : Nat) (o : List Nat), a + d + 1 = (fnI p g).f2.length → o.length = (fnI p g).f2.length → (∀ b : Nat, b < o.length → getN o (b : Int) < 2 ^ 16) →
  ∃ o' : List Nat, o'.length = (fnI p g).f2.length ∧ (∀ b : Nat, b < o'.length → getN o' (b : Int) < 2 ^ 16) ∧ (∀ s, hasS o' s ↔ hasS o s ∨ ∃ b : Nat, a ≤ b ∧ b + 1 < (fnI p g).f2.length ∧ 0 ≤ rd (rdH hs g) (b : Int) ∧ (wrP p (fnI p g) (rdH hs g) b).testBit s = true) ∧
   ∀ r, Ev (fun k => spec_Ranges.l1 k [] (fnI p g).f2 (intL o') 0) r → Ev (fun k => spec_Ranges.l0 k (g : Int) [] (rdH hs g) (fnI p g).f2 (intL o) (a : Int) p) r := by
 intro d
 have hl := R.hlen hg
 induction d with
 | zero =>
  intro a o h ho h16
  refine ⟨o, ho, h16, fun s => ⟨Or.inl, fun q => q.elim id (fun ⟨b, h1, h2, _⟩ => absurd h1 om)⟩, fun r hr => Ev.succ ?_⟩
  simp only [spec_Ranges.l0]
  refine Ev.no ?_ hr
  rw [wrap_in om om]; omega
 | succ d ih =>
  intro a o h ho h16
  have ha : a < (fnI p g).f2.length := by omega
  have e1 : wrap64 ((a : Int) + 1) = ((a + 1 : Nat) : Int) := idx_next ha om
  by_cases h0 : 0 ≤ rd (rdH hs g) (a : Int)
  ·have P := R.place hg ha h0
   have w16 : wrP p (fnI p g) (rdH hs g) a < 2 ^ 16 := wrs_16 P
   have g16 := h16 (a + 1) om
   have n16 := Nat.or_lt_two_pow g16 w16
   have hset : ∀ b : Nat, getN (o.set (a + 1) (getN o ((a + 1 : Nat) : Int) ||| wrP p (fnI p g) (rdH hs g) a)) (b : Int) = if b = a + 1 then getN o ((a + 1 : Nat) : Int) ||| wrP p (fnI p g) (rdH hs g) a else getN o (b : Int) := fun b => getN_set om _ b
   obtain ⟨o', k1, k2, k3, k4⟩ := ih (a + 1) (o.set (a + 1) (getN o ((a + 1 : Nat) : Int) ||| wrP p (fnI p g) (rdH hs g) a)) om (by rw [List.length_set]; exact ho) (fun b hb => by
    rw [List.length_set] at hb
    rw [hset]
    split
    ·exact n16
    ·exact h16 b hb)
   refine ⟨o', k1, k2, fun s => ?_, fun r hr => Ev.succ ?_⟩
   ·rw [k3]
    have hh : hasS (o.set (a + 1) (getN o ((a + 1 : Nat) : Int) ||| wrP p (fnI p g) (rdH hs g) a)) s ↔ hasS o s ∨ (wrP p (fnI p g) (rdH hs g) a).testBit s = true := by
     unfold hasS
     rw [List.length_set]
     constructor
     ·rintro ⟨b, q1, q2⟩
      rw [hset] at q2
      split at q2
      ·rw [Nat.testBit_or, Bool.or_eq_true] at q2
       exact q2.elim (fun q => Or.inl ⟨a + 1, by omega, q⟩) Or.inr
      ·exact Or.inl ⟨b, q1, q2⟩
     ·rintro (⟨b, q1, q2⟩ | q)
      ·by_cases e : b = a + 1
       ·subst e
        exact ⟨a + 1, q1, by rw [hset, if_pos rfl, Nat.testBit_or, q2]; rfl⟩
       ·exact ⟨b, q1, by rw [hset, if_neg e]; exact q2⟩
      ·exact ⟨a + 1, by omega, by rw [hset, if_pos rfl, Nat.testBit_or, q, Bool.or_true]⟩
    rw [hh]
    constructor
    ·rintro ((q | q) | ⟨b, q1, q2, q3, q4⟩)
     ·exact Or.inl q
     ·exact Or.inr ⟨a, Nat.le_refl _, by omega, h0, q⟩
     ·exact Or.inr ⟨b, by omega, q2, q3, q4⟩
    ·rintro (q | ⟨b, q1, q2, q3, q4⟩)
     ·exact Or.inl (Or.inl q)
     ·by_cases e : b = a
      ·subst e; exact Or.inl (Or.inr q4)
      ·exact Or.inr ⟨b, by omega, q2, q3, q4⟩
   ·have e2 : (rd_T35 p (g : Int)).f1 = (fnI p g).f1 := rfl
    have nm := P.num
    simp only [spec_Ranges.l0, e1]
    refine Ev.yes om (Ev.yes om (Ev.yes om (Ev.yes h0 (Ev.yes om (Ev.yes (by rw [intL_len]; omega) (Ev.yes om (Ev.yes om (Ev.yes om ?_))))))))
    rw [e2, P.sl.1, wrap_in (n := (slN (fnI p g).f1 (rdH hs g) a : Int)) om om]
    have sw : Ev (fun k => spec_l08Writes.f k p (cdI (fnI p g).f2 a).f0 (cdI (fnI p g).f2 a).f1 (slN (fnI p g).f1 (rdH hs g) a : Int)) ((wrP p (fnI p g) (rdH hs g) a : Nat) : Int) := specWrites_ev P
    refine Ev.bind sw ?_
    rw [rd_intL, or_nat _ _ (lt_63 g16 om) (lt_63 w16 om), Int.toNat_natCast, intL_set]
    exact k4 r hr
  ·obtain ⟨o', k1, k2, k3, k4⟩ := ih (a + 1) o om ho h16
   refine ⟨o', k1, k2, fun s => ?_, fun r hr => Ev.succ ?_⟩
   ·rw [k3]
    constructor
    ·rintro (q | ⟨b, q1, q2⟩)
     ·exact Or.inl q
     ·exact Or.inr ⟨b, by omega, q2⟩
    ·rintro (q | ⟨b, q1, q2, q3, q4⟩)
     ·exact Or.inl q
     ·by_cases e : b = a
      ·subst e; exact absurd q3 h0
      ·exact Or.inr ⟨b, by omega, q2, q3, q4⟩
   ·simp only [spec_Ranges.l0, e1]
    refine Ev.yes om (Ev.yes om (Ev.yes om (Ev.no om (k4 r hr))))
theorem wi_wr {a s : Nat} (P : Place p (fnI p g) (rdH hs g) a) (h : (wiP p (fnI p g) (rdH hs g) a).testBit s = true) : (wrP p (fnI p g) (rdH hs g) a).testBit s = true ∨ (rdsN (cdI (fnI p g).f2 a).f0 (cdI (fnI p g).f2 a).f1 (slN (fnI p g).f1 (rdH hs g) a) (tkN p (fnI p g).f2 a)).testBit s = true := by
 unfold wiP wriN at h
 unfold wrP wrsN rdsN
 by_cases h3 : (cdI (fnI p g).f2 a).f0 = 3
 ·rw [if_pos h3] at h ⊢; exact Or.inl h
 ·rw [if_neg h3] at h ⊢
  rw [Nat.testBit_or, Bool.or_eq_true] at h
  rcases h with h | h
  ·by_cases h2 : (cdI (fnI p g).f2 a).f0 = 2
   ·have e : tkN p (fnI p g).f2 a = 0 := by
     unfold tkN tkV
     rw [h2]
     simp [takesV, isBin, isUn]
    rw [e, rng_zero] at h
    simp at h
   ·rw [if_neg h2]; exact Or.inr h
  ·exact Or.inl h
theorem wr_wi {a s : Nat} (h : (wrP p (fnI p g) (rdH hs g) a).testBit s = true) : (wiP p (fnI p g) (rdH hs g) a).testBit s = true := by
 unfold wiP wriN
 unfold wrP wrsN at h
 split at h
 ·rename_i h3; rw [if_pos h3]; exact h
 ·rename_i h3; rw [if_neg h3, Nat.testBit_or, h, Bool.or_true]
end
theorem Ev.all {g : Nat → Nat → Option Int} {r : Nat → Int} : ∀ n, (∀ a, a < n → Ev (g a) (r a)) → ∃ K, ∀ k, K ≤ k → ∀ a, a < n → g a k = some (r a)
 | 0, _ => ⟨0, fun _ _ a h => absurd h om⟩
 | n + 1, h => by
  obtain ⟨K, hK⟩ := Ev.all n (fun a ha => h a om)
  obtain ⟨K', hK'⟩ := h n om
  refine ⟨max K K', fun k hk a ha => ?_⟩
  rcases Nat.lt_succ_iff_lt_or_eq.1 ha with q | rfl
  ·exact hK k om a q
  ·exact hK' k om
theorem same_hits {p : List S35} {hs : List (List Int)} {g : Nat} (R : RightP p hs) (hg : g < p.length) {o o' : List Nat} (J : setsJ (fnI p g) (rdH hs g) o) (HR : hasR p (fnI p g) (rdH hs g) o 0)
  (k3 : ∀ s, hasS o' s ↔ hasS o s ∨ ∃ b : Nat, 0 ≤ b ∧ b + 1 < (fnI p g).f2.length ∧ 0 ≤ rd (rdH hs g) (b : Int) ∧ (wrP p (fnI p g) (rdH hs g) b).testBit s = true) (s : Nat) (h64 : s ≤ 64) :
  0 ≤ (runP (intL o) (fun a => decide (0 ≤ rd (rdH hs g) a)) (fun a => ((wiP p (fnI p g) (rdH hs g) a.toNat : Nat) : Int)) (s : Int) (intL o).length).1 ↔ hasS o' s := by
 have g16 : ∀ b : Nat, b < o.length → getN o (b : Int) < 2 ^ 16 := fun b hb => by
  have e : getN o (b : Int) = o[b] := by unfold getN; rw [Int.toNat_natCast, List.getD_eq_getElem?_getD, List.getElem?_eq_getElem hb]; rfl
  rw [e]
  exact setsJ_16 (p := p) (fun a ha h0 => R.place hg ha h0) J _ (List.getElem_mem _)
 have hb1 : ∀ b : Nat, b < o.length → bitB (rd (intL o) (b : Int)) (s : Int) = (getN o (b : Int)).testBit s := fun b hb => by
  rw [rd_intL]
  exact bitB_nat _ s (Nat.lt_trans (g16 b hb) (by decide)) h64
 have hb2 : ∀ b : Nat, b < (fnI p g).f2.length → 0 ≤ rd (rdH hs g) (b : Int) → bitB ((wiP p (fnI p g) (rdH hs g) ((b : Int)).toNat : Nat) : Int) (s : Int) = (wiP p (fnI p g) (rdH hs g) b).testBit s := fun b hb h0 => by
  rw [Int.toNat_natCast]
  exact bitB_nat _ s (Nat.lt_trans (show wiP p (fnI p g) (rdH hs g) b < 2 ^ 16 from wri_16 (R.place hg hb h0)) (by decide)) h64
 rw [runP_iff, k3]
 have hlen := intL_len o
 have jl := J.1
 constructor
 ·rintro ⟨i, h1, h2 | ⟨h2, h3, h4⟩⟩
  ·exact Or.inl ⟨i, by omega, by rw [← hb1 i om]; exact h2⟩
  ·have h0 := of_decide_eq_true h2
   rw [hb2 i om h0] at h3
   rcases wi_wr (R.place hg om h0) h3 with q | q
   ·exact Or.inr ⟨i, Nat.zero_le _, by omega, h0, q⟩
   ·exact Or.inl ⟨i, by omega, HR i (Nat.zero_le _) om h0 s q⟩
 ·rintro (⟨b, h1, h2⟩ | ⟨b, _, h2, h3, h4⟩)
  ·exact ⟨b, by omega, Or.inl (by rw [hb1 b h1]; exact h2)⟩
  ·exact ⟨b, by omega, Or.inr ⟨decide_eq_true h3, by rw [hb2 b om h3]; exact wr_wi h4, by omega⟩⟩
theorem wr_lt {p : List S35} {x : S35} {H : List Int} {a : Nat} (P : Place p x H a) {s : Nat} (h : (wrP p x H a).testBit s = true) : s < (x.f1 + 8).toNat := by
 unfold wrP wrsN at h
 have l0 := P.l0; have x0 := P.x0; have t0 := P.t0; have tx := P.tx; have ux := P.ux; have x8 := P.x8
 have pb := putsV_bd (cdI x.f2 a).f0
 split at h
 ·rename_i h3
  have ar := P.ar (Or.inr h3)
  rw [Nat.testBit_two_pow] at h
  have := of_decide_eq_true h
  omega
 ·rw [rng_bit] at h
  simp only [Bool.and_eq_true, decide_eq_true_eq] at h
  unfold slN tkN ptN at h
  omega
theorem o_lt {p : List S35} {hs : List (List Int)} {g : Nat} (R : RightP p hs) (hg : g < p.length) {o : List Nat} (J : setsJ (fnI p g) (rdH hs g) o) {b s : Nat} (hb : b < o.length) (h : (getN o (b : Int)).testBit s = true) : s < ((fnI p g).f1 + 8).toNat := by
 have hl : b < (fnI p g).f2.length := by rw [← J.1]; exact hb
 by_cases h0 : rd (rdH hs g) (b : Int) < 0
 ·rw [(J.2 b hl).1 h0] at h; simp at h
 ·have P := R.place hg hl om
  have := (J.2 b hl).2 om s h
  have l0 := P.l0; have x8 := P.x8
  unfold slN at this
  omega
theorem FnRanges (P : List S35) (f : Int) (hP : GoodP P) (hf : in64 f) : ∃ (k : Nat) (LV : List Int) (Q : List S35) (HT : List (List Int)) (ok : Bool) (LI : List Int) (RB : Int → Bool) (WV : Int → Int) (rs m : List S54), LawR P f k LV Q HT ok LI RB WV rs m := by
 have none_ : ∀ hs : List (List Int), Ev (fun k => impl_knownFunc.f k P f) (P, hs, false) → Ev (fun k => spec_l04Is.f k P f) false → ∃ (k : Nat) (LV : List Int) (Q : List S35) (HT : List (List Int)) (ok : Bool) (LI : List Int) (RB : Int → Bool) (WV : Int → Int) (rs m : List S54), LawR P f k LV Q HT ok LI RB WV rs m := by
  intro hs h1 h2
  have h3 : Ev (fun k => spec_Live.f k P f) [] := by
   unfold spec_Live.f
   exact Ev.bind h2 (Ev.no (by simp) (Ev.now _))
  have h4 : Ev (fun k => spec_Ranges.f k P f) [] := by
   unfold spec_Ranges.f
   exact Ev.flat rfl (Ev.bind h2 (Ev.no (by simp) (Ev.now _)))
  obtain ⟨K1, q1⟩ := h1
  obtain ⟨K3, q3⟩ := h3
  obtain ⟨K4, q4⟩ := h4
  refine ⟨max K1 (max K3 K4), [], P, hs, false, [], fun _ => false, fun _ => 0, [], [], ⟨q3 _ om, q1 _ om, nofun, q4 _ om, rfl⟩, rfl, by decide, by decide, fun a kk h0 h1 => ?_⟩
  exact absurd h1 (by simp; omega)
 rcases is_both P f with ⟨hs, R, e1, e2⟩ | ⟨hs, e1, e2⟩
 case inr =>
  refine none_ hs ?_ e1
  unfold impl_knownFunc.f
  exact Ev.bind e2 (Ev.no (by simp) (Ev.now _))
 have kf : Ev (fun k => impl_knownFunc.f k P f) (P, hs, hasB P f) := by
  unfold impl_knownFunc.f
  exact Ev.bind e2 (Ev.yes rfl (Ev.flat (hasFunc_some P f) (Ev.now _)))
 cases hfb : hasB P f with
 | false =>
  rw [hfb] at kf e1
  exact none_ hs kf e1
 | true =>
  rw [hfb] at kf e1
  have hf2 := hasB_iff.1 hfb
  obtain ⟨g, rfl⟩ : ∃ g : Nat, f = (g : Int) := ⟨f.toNat, by omega⟩
  have hg : g < P.length := by omega
  have s := R.form hg
  have h60 := s.2.2.2.2.2.1
  have hL : 1 ≤ (fnI P g).f2.length := s.2.2.2.2.1
  have l0 : 0 ≤ (fnI P g).f1 := by have := s.2.2.1; have := s.1; omega
  have l8 : (fnI P g).f1 ≤ 8 := s.2.2.2.1
  obtain ⟨v, o, ⟨ve, J, HR⟩, v0, v1, v2⟩ := live_ev R hg
  subst ve
  have hlen := intL_len o
  have jl := J.1
  have g16 : ∀ b : Nat, b < o.length → getN o (b : Int) < 2 ^ 16 := fun b hb => by
   have e : getN o (b : Int) = o[b] := by unfold getN; rw [Int.toNat_natCast, List.getD_eq_getElem?_getD, List.getElem?_eq_getElem hb]; rfl
   rw [e]
   exact setsJ_16 (p := P) (fun a ha h0 => R.place hg ha h0) J _ (List.getElem_mem _)
  obtain ⟨o', k1, k2, k3, k4⟩ := specR0 R hg h60 ((fnI P g).f2.length - 1) 0 o om J.1 g16
  have hit := same_hits R hg J HR k3
  obtain ⟨m, m1, m2⟩ := specR1 (fnI P g).f2 o' k1 h60 k2 (fun s => decide (0 ≤ (runP (intL o) (fun a => decide (0 ≤ rd (rdH hs g) a)) (fun a => ((wiP P (fnI P g) (rdH hs g) a.toNat : Nat) : Int)) (s : Int) (intL o).length).1)) (fun s hs' => by rw [decide_eq_true_iff]; exact hit s om) 16 0 [] om rfl
  have eM : Ev (fun k => spec_Ranges.f k P (g : Int)) m := by
   unfold spec_Ranges.f
   refine Ev.flat rfl (Ev.bind e1 (Ev.yes rfl (Ev.bind (R.heights hg) (Ev.yes om (Ev.yes om (Ev.bind v1 (k4 m m2)))))))
  have eL : Ev (fun k => spec_Live.f k P (g : Int)) (intL o) := by
   unfold spec_Live.f
   exact Ev.bind e1 (Ev.yes rfl (Ev.bind v1 (Ev.now _)))
  obtain ⟨K5, q5⟩ := Ev.all (g := fun a k => if 0 ≤ rd (rdH hs g) (a : Int) then impl_prog_writes.f k P hs (g : Int) (a : Int) else some 0) (r := fun a => if 0 ≤ rd (rdH hs g) (a : Int) then ((wiP P (fnI P g) (rdH hs g) a : Nat) : Int) else 0) (fnI P g).f2.length (fun a ha => by
   by_cases h0 : 0 ≤ rd (rdH hs g) (a : Int)
   ·simp only [if_pos h0]
    exact implWrites_ev R hg ha (R.place hg ha h0)
   ·simp only [if_neg h0]
    exact Ev.now _)
  obtain ⟨K1, q1⟩ := kf
  obtain ⟨K2, q2⟩ := v2
  obtain ⟨K3, q3⟩ := eL
  obtain ⟨K4, q4⟩ := eM
  refine ⟨max K1 (max K2 (max K3 (max K4 K5))), intL o, P, hs, true, intL o, fun a => decide (0 ≤ rd (rdH hs g) a), fun a => ((wiP P (fnI P g) (rdH hs g) a.toNat : Nat) : Int), _, m, ⟨q3 _ om, q1 _ om, fun _ => ⟨⟨by omega, by omega⟩, q2 _ om, by omega, ⟨l0, show (fnI P g).f1 ≤ 100 by omega⟩, fun a h0 h1 => ?_⟩, q4 _ om, rfl⟩, ?_, by omega, ?_, fun a kk h0 h1 h2 h3 h4 => ?_⟩
  ·obtain ⟨b, rfl⟩ : ∃ b : Nat, a = (b : Int) := ⟨a.toNat, by omega⟩
   have hb : b < (fnI P g).f2.length := by omega
   refine ⟨implReached_some R hg hb, fun h => ?_⟩
   have := q5 (max K1 (max K2 (max K3 (max K4 K5)))) om b hb
   simp only [if_pos (of_decide_eq_true h)] at this
   exact this
  ·rw [if_pos rfl, rngP_len, m1]
   have hS : ((fnI P g).f1 + 8).toNat ≤ 16 := by omega
   have := cntB_tail (q := fun s => decide (0 ≤ (runP (intL o) (fun a => decide (0 ≤ rd (rdH hs g) a)) (fun a => ((wiP P (fnI P g) (rdH hs g) a.toNat : Nat) : Int)) (s : Int) (intL o).length).1)) ((fnI P g).f1 + 8).toNat (16 - ((fnI P g).f1 + 8).toNat) (fun s h1 h2 => by
    rw [decide_eq_false_iff_not, hit s om, k3]
    rintro (⟨b, q1, q2⟩ | ⟨b, _, q2, q3, q4⟩)
    ·have := o_lt R hg J q1 q2; omega
    ·have := wr_lt (R.place hg om q3) q4; omega)
   rw [show ((fnI P g).f1 + 8).toNat + (16 - ((fnI P g).f1 + 8).toNat) = 16 by omega] at this
   exact this.symm
  ·rw [if_pos rfl, rngP_len]
   have := cntB_le (fun s => decide (0 ≤ (runP (intL o) (fun a => decide (0 ≤ rd (rdH hs g) a)) (fun a => ((wiP P (fnI P g) (rdH hs g) a.toNat : Nat) : Int)) (s : Int) (intL o).length).1)) ((rd_T35 P (g : Int)).f1 + 8).toNat
   have e : (rd_T35 P (g : Int)).f1 = (fnI P g).f1 := rfl
   omega
  ·obtain ⟨b, rfl⟩ : ∃ b : Nat, a = (b : Int) := ⟨a.toNat, by omega⟩
   obtain ⟨s', rfl⟩ : ∃ s' : Nat, kk = (s' : Int) := ⟨kk.toNat, by omega⟩
   have hb : b < o.length := by omega
   rw [rd_intL, bitsV _ s' (Nat.lt_trans (g16 b hb) (by decide)) om] at h4
   have ht : (getN o (b : Int)).testBit s' = true := by
    cases hc : (getN o (b : Int)).testBit s' with
    | true => rfl
    | false => rw [hc] at h4; exact absurd rfl h4
   rw [if_pos rfl]
   refine inP_cov (o_lt R hg J hb ht) om ?_
   rw [rd_intL, bitB_nat _ s' (Nat.lt_trans (g16 b hb) (by decide)) om]
   exact ht
end Go.Proofs.Ytopaefhfjioecaa.Pure
