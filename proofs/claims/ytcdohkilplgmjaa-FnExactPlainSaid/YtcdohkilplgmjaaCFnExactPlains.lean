/- Short words for steps that printed walks take often. No condition. -/
import Derived.Test.YtcdohkilplgmjaaCFnExactPlainw
import Derived.Lib.SliceRun
namespace Go.Proofs.YtcdohkilplgmjaaW.PrintShort
open Go.RowKit Go.Proofs.YtcdohkilplgmjaaW.PrintWords Go.Proofs.YtcdohkilplgmjaaW.PrintLast Go.Proofs.YtcdohkilplgmjaaW.PrintMore
set_option linter.unusedVariables false
theorem below_setA {n g : Nat} {w0 w w' : World} {P : Prop} (k : P → Below n w0 w') (h : Aside0 P) : Below n w0 w' := k h.out
theorem bw {P Q : Prop} (h : Aside0 P) (k : Aside0 P → Q := by intro h_; repeat (first | (with_reducible first | exact h_.out | apply below_alloc | apply pw_below_drewN | apply below_drew1 | refine below_set ?_ (Aside0.out (by assumption))) | exact h_.out)) : Q := k h
theorem bp {P Q : Prop} (h : Aside0 P) (k : Aside0 P → Q := by intro h_; (with_reducible repeat (first | refine blk_drewN ?_ _ | refine blk_drew ?_ | refine blk_alloc ?_ _)); exact h_.out) : Q := k h
theorem kR {P Q : Prop} (h : Aside0 P) (k : Aside0 P → Q := by intro h_; (with_reducible repeat (first | apply Kd.R_alloc | apply Kd.R_drewN | apply Kd.R_drew)); exact h_.out) : Q := k h
theorem kS {P Q : Prop} (h : Aside0 P) (k : Aside0 P → Q := by intro h_; (with_reducible repeat (first | apply Kd.S_alloc | apply Kd.S_drewN | apply Kd.S_drew)); exact h_.out) : Q := k h
theorem kV {P Q : Prop} (h : Aside0 P) (k : Aside0 P → Q := by intro h_; (with_reducible repeat (first | apply Kd.V_alloc | apply Kd.V_drewN | apply Kd.V_drew)); exact h_.out) : Q := k h
theorem cc {P Q : Prop} (h : P) (k : P → Q := by intro h_; repeat (first | exact h_ | (with_reducible refine Kd.C_alloc ?_ _) | (with_reducible refine Kd.C_drewN ?_ _) | (with_reducible refine Kd.C_drew ?_))) : Q := k h
theorem as1 {Q : Prop} (h : Q := by first | (with_reducible assumption) | assumption) : Q := h
theorem gl {Q : Prop} (h : Q := by (try simp only [List.map_toArray, List.map_cons, List.map_nil]); first | done | rfl | (simp only [List.length_drop, List.length_take]; rfl)) : Q := h
theorem dr {Q : Prop} (h : Q := by first | rfl | (simp; done) | (simp [*]; done)) : Q := h
theorem dN {w : World} {g : Nat} {o : Obj} (h : w.heap[g]? = some o) {n : Nat} : (w.drewN n).heap[g]? = some o := h
theorem dW {w : World} {g : Nat} {o : Obj} (h : w.heap[g]? = some o) : w.drew.heap[g]? = some o := h
theorem dA {w : World} {g : Nat} {o : Obj} (h : w.heap[g]? = some o) {o' : Obj} : (w.alloc o').heap[g]? = some o := blk_alloc h o'
theorem bc {w : World} {g t : Nat} {c : Array Value} {v : Value} (h : Aside0 (w.heap[g]? = some (.cells c t (0, 0)))) (j : Nat) (e : c[j]? = some v := by rfl) : w.cell? ⟨g, j, none⟩ = some v := (blk_cell h.out j).trans e
theorem bf {w : World} {g t : Nat} {c : Array Value} (h : Aside0 (w.heap[g]? = some (.cells c t (0, 0)))) (j : Nat) : w.frozen? ⟨g, j, none⟩ = false := blk_frozen h.out j
theorem C_nil0 {α : Type} {d : Kd α} {w : World} {n : Nat} {xs : List α} (h : d.C w none n xs) : xs = [] := by
  rcases Nat.eq_zero_or_pos n with q | q
  · exact List.length_eq_zero_iff.1 (h.1.trans q)
  · obtain ⟨ad, e, _⟩ := h.2.2 q
    cases e
theorem am {P : Prop} (h : P) : Aside0 P := ⟨h⟩
theorem gs {Q : Prop} (h : Q := by first | (go_simp; done) | (go_simp; rfl)) : Q := h
theorem sa {α : Type} (l : List α) (i : Nat) (a : α) : l.toArray.setIfInBounds i a = (l.set i a).toArray := List.setIfInBounds_toArray l i a
theorem sz {α : Type} {x : α} {xs : List α} {a : α} : (x :: xs).set 0 a = a :: xs := rfl
theorem ss {α : Type} {x : α} {xs : List α} {n : Nat} {a : α} : (x :: xs).set (n + 1) a = x :: xs.set n a := rfl
section
variable {P : Program} {ops : Array Oper} {Q : Exit → Act → World → Prop} {rest : List Oper} {o : Oper} {a : Act} {W : World}
theorem gate_calleeT {q : Operand} {as : Array Operand} {ts : Array TypeId} (_ho : o.op = .call { callee := .value q, args := as, argTypes := ts }) (h : wpList P ops Q (o :: rest) a W) : wpList P ops Q (o :: rest) a W := h
theorem goesT_ {rest : List Oper} {oi : Oper} {a : Act} {w : World} {q : Operand} (N : Option Tmp) (hd : oi.dst = N) (hg : oi.guard = none) {f : FuncId} {fn : Func} {as : Array Operand} {ts : Array TypeId} (hf : P.funcs[f]? = some fn) (hname : (fn.name == "runtime.NumGoroutine") = false) (hb : fn.body.isSome = true) (hq : a.eval q = .func (.func f) #[] #[]) (args : Array Value)
    (hop : oi.op = .call { callee := .value q, args := as, argTypes := ts }) (hargs : as.map a.eval = args)
    (h : Calls P f args w fun e w' => ∃ v, e = .returned v ∧ wpList P ops Q rest (a.put N v) w') : wpList P ops Q (oi :: rest) a w := by
  refine wpList_plain hg fun K hK => ?_
  have he := enters_ hf hname hb args w
  have hrun : (execOp a.eval oi).run P w = .ok (.enter f args) w := by
    unfold execOp
    simp [hop, resolve, Deferred.ofValue, invoke, hq, hargs, he]
  unfold Oper.wp
  rw [hrun, Oper.upon_enter]
  refine h.mono fun e w'' hh => ?_
  obtain ⟨v, rfl, hk⟩ := hh
  subst hd
  exact hK _ _ hk
theorem goesQ_ {oi : Oper} {N : Option Tmp} {a : Act} {w : World} {K : Act → World → Prop} {f : FuncId} {fn : Func} {q : Operand} {as : Array Operand} {ts : Array TypeId} (hf : P.funcs[f]? = some fn) (hname : (fn.name == "runtime.NumGoroutine") = false) (hb : fn.body.isSome = true) (args : Array Value)
    (hw : Region.wanted oi (yielded ops a.tmps) = true) (hN : oi.dst = N) (hop : oi.op = .call { callee := .value q, args := as, argTypes := ts }) (hargs : as.map a.eval = args)
    (h : Calls P f args w fun e w' => ∃ v, e = .returned v ∧ K (a.put N v) w') (hq : a.eval q = .func (.func f) #[] #[] := by rfl) : if Region.wanted oi (yielded ops a.tmps) = true then Oper.wp P oi a w K Q else K (a.put N undef) w := by
  refine call_ f args hw hN ?_ h
  have he := enters_ hf hname hb args w
  unfold execOp
  simp [hop, resolve, Deferred.ofValue, invoke, hq, hargs, he]
end
section
variable {P : Program} {ops : Array Oper} {Q : Exit → Act → World → Prop}
/-- A call of a closure: what it caught comes behind its arguments. -/
theorem goesC_ {rest : List Oper} {oi : Oper} {a : Act} {w : World} {q : Operand} (N : Option Tmp) (hd : oi.dst = N) (hg : oi.guard = none) {f : FuncId} {fn : Func} {as : Array Operand} {ts : Array TypeId} {cap : Array Value} (hf : P.funcs[f]? = some fn) (hname : (fn.name == "runtime.NumGoroutine") = false) (hb : fn.body.isSome = true) (hq : a.eval q = .func (.func f) #[] cap) (args all : Array Value)
    (hop : oi.op = .call { callee := .value q, args := as, argTypes := ts }) (hargs : as.map a.eval = args) (hall : args ++ cap = all)
    (h : Calls P f all w fun e w' => ∃ v, e = .returned v ∧ wpList P ops Q rest (a.put N v) w') : wpList P ops Q (oi :: rest) a w := by
  subst hall
  refine wpList_plain hg fun K hK => ?_
  have he := enters_ hf hname hb (args ++ cap) w
  have hrun : (execOp a.eval oi).run P w = .ok (.enter f (args ++ cap)) w := by
    unfold execOp
    simp [hop, resolve, Deferred.ofValue, invoke, hq, hargs, he]
  unfold Oper.wp
  rw [hrun, Oper.upon_enter]
  refine h.mono fun e w'' hh => ?_
  obtain ⟨v, rfl, hk⟩ := hh
  subst hd
  exact hK _ _ hk
/-- The same as one step of a region that draws. -/
theorem goesCQ_ {oi : Oper} {N : Option Tmp} {a : Act} {w : World} {K : Act → World → Prop} {f : FuncId} {fn : Func} {q : Operand} {as : Array Operand} {ts : Array TypeId} {cap : Array Value} (hf : P.funcs[f]? = some fn) (hname : (fn.name == "runtime.NumGoroutine") = false) (hb : fn.body.isSome = true) (args all : Array Value)
    (hw : Region.wanted oi (yielded ops a.tmps) = true) (hN : oi.dst = N) (hop : oi.op = .call { callee := .value q, args := as, argTypes := ts }) (hargs : as.map a.eval = args) (hall : args ++ cap = all)
    (h : Calls P f all w fun e w' => ∃ v, e = .returned v ∧ K (a.put N v) w') (hq : a.eval q = .func (.func f) #[] cap) : if Region.wanted oi (yielded ops a.tmps) = true then Oper.wp P oi a w K Q else K (a.put N undef) w := by
  subst hall
  refine call_ f (args ++ cap) hw hN ?_ h
  have he := enters_ hf hname hb (args ++ cap) w
  unfold execOp
  simp [hop, resolve, Deferred.ofValue, invoke, hq, hargs, he]
end
def bv (n m : Nat) : Array Bool := ⟨(List.range n).map fun i => m.testBit i⟩
section
variable {P : Program} {ops : Array Oper} {Q : Exit → Act → World → Prop} {md : Region.Mode} {S : World → Prop} {ds : List Nat} {T : Bool × List (List Nat × List Nat)} {B : List Nat} {fuel : Nat} {l : Array Bool} {a a' : Act} {w : World} {oi : Oper} {v : Value}
theorem andE {A B C : Prop} (h : A → B → C) : A ∧ B → C := fun k => h k.1 k.2
theorem pu (i N n m : Nat) (HT : Aside0 (rtab md ops = T)) (h : wpAnyLast P md ops Q S ds fuel (bv n m) a' w)
    (hi : ops[i]? = some oi := by rfl) (hN : oi.dst = some N := by rfl) (hc : anyT T l.toList (bv n m).toList i = true := by kernel_rfl)
    (hQ : ∀ c a w, Q (.panic c) (a.put oi.dst v) w → Q (.panic c) a w := by exact fun _ _ _ h => h)
    (hw : Region.wanted oi (yielded ops a.tmps) = true := by rfl) (hy : ∀ w', (execOp a.eval oi).run P w' = .ok (.value v) w' := by intro w'; go_simp; with_reducible rfl)
    (ha : a.put (some N) v = a' := by simp only [Act.put, sa, sz, ss, i64_w, i32_w]; rfl) : wpAnyLast P md ops Q S ds (fuel + 1) l a w := pure_ (bv n m) hi hN (any_of HT.out hc) hQ (Or.inl ⟨hw, hy⟩) ha h
theorem pn (i N n m : Nat) (HT : Aside0 (rtab md ops = T)) (h : wpAnyLast P md ops Q S ds fuel (bv n m) a' w)
    (hi : ops[i]? = some oi := by rfl) (hN : oi.dst = some N := by rfl) (hc : anyT T l.toList (bv n m).toList i = true := by kernel_rfl)
    (hQ : ∀ c a w, Q (.panic c) (a.put oi.dst undef) w → Q (.panic c) a w := by exact fun _ _ _ h => h)
    (hw : Region.wanted oi (yielded ops a.tmps) = false := by rfl)
    (ha : a.put (some N) undef = a' := by simp only [Act.put, sa, sz, ss, i64_w, i32_w]; rfl) : wpAnyLast P md ops Q S ds (fuel + 1) l a w := pure_ (bv n m) hi hN (any_of HT.out hc) hQ (Or.inr ⟨hw, rfl⟩) ha h
theorem tk (i N n m : Nat) (HT : Aside0 (rtab md ops = T)) (HW : Aside0 (waitsOk T.2 B = true)) (hS : S w) (h : wpAnyLast P md ops Q S ds fuel (bv n m) a' w)
    (hi : ops[i]? = some oi := by rfl) (hN : oi.dst = some N := by rfl) (hc : takeW T B ds l.toList (bv n m).toList i = true := by kernel_rfl)
    (hQ : ∀ c a w, Q (.panic c) (a.put oi.dst v) w → Q (.panic c) a w := by exact fun _ _ _ h => h)
    (hw : Region.wanted oi (yielded ops a.tmps) = true := by rfl) (hy : ∀ w', S w' → (execOp a.eval oi).run P w' = .ok (.value v) w' := by intro w'; (try (repeat (with_reducible refine andE ?_; intro _))); intro _; go_simp; with_reducible rfl)
    (ha : a.put (some N) v = a' := by simp only [Act.put, sa, sz, ss, i64_w, i32_w]; rfl) : wpAnyLast P md ops Q S ds (fuel + 1) l a w := take_ (bv n m) hi hN (take_ofW HT.out HW.out hc) hQ (Or.inl ⟨hw, hy⟩) hS ha h
theorem on (i : Nat) (N : Option Tmp) (n m : Nat) (HT : Aside0 (rtab md ops = T))
    (h : ∀ K : Act → World → Prop, Shut (∀ a' w', S w' → (S w' → wpAnyLast P md ops Q S ds fuel (bv n m) a' w') → K a' w') → if Region.wanted oi (yielded ops a.tmps) = true then Oper.wp P oi a w K Q else K (a.put N undef) w)
    (hi : ops[i]? = some oi := by rfl) (hN : oi.dst = N := by rfl) (hc : (readyT T.2 l.toList == [i] && l.toList.set i true == (bv n m).toList) = true := by kernel_rfl) (hd : i ∉ ds := by decide) : wpAnyLast P md ops Q S ds (fuel + 1) l a w := one_ (bv n m) hi hN (one_of HT.out hc) hd h
theorem nm (N : Option Tmp) (h : wpAnyLast P md ops Q S ds fuel l a' w) (ha : a.put N v = a' := by simp only [Act.put, sa, sz, ss, i64_w, i32_w]; rfl) : wpAnyLast P md ops Q S ds fuel l (a.put N v) w := norm_ ha h
end
section
variable {P : Program} {ops : Array Oper} {Q : Exit → Act → World → Prop} {rest : List Oper} {o : Oper} {a : Act} {W : World}
theorem gd (N : Tmp) (_hN : o.dst = some N) (h : wpList P ops Q (o :: rest) a W) : wpList P ops Q (o :: rest) a W := h
theorem bx (N : Tmp) (cs : Array Value) (t : TypeId)
    (h : ∀ g, g = W.heap.size → ∀ w1, w1.heap[g]? = some (.cells cs t (0, 0)) → Below W.heap.size W w1 → wpList P ops Q rest (a.put o.dst (.pointer (some ⟨g, 0, none⟩))) w1)
    (hd : o.dst = some N := by with_reducible rfl) (hg : o.guard = none := by rfl)
    (hr : (execOp a.eval o).run P W = .ok (.value (.pointer (some ⟨W.heap.size, 0, none⟩))) (W.alloc (.cells cs t (0, 0))) := by first | (go_simp; done) | (go_simp; rfl)) : wpList P ops Q (o :: rest) a W := box_event hg hd hr h
end
section
variable {w w0 w1 W W0 : World} {g gb n : Nat} {o : Obj}
theorem bb (h : Aside0 (w0.heap[g]? = some o)) (hb : Below w.heap.size w w1) (k : w0.heap[g]? = some o → w.heap[g]? = some o := by intro h_; (with_reducible repeat (first | refine blk_drewN ?_ _ | refine blk_drew ?_ | refine blk_alloc ?_ _)); exact h_) : Aside0 (w1.heap[g]? = some o) := ⟨blk_below (k h.out) hb⟩
theorem nl (hg : gb = w.heap.size) (h : Aside0 (w0.heap[g]? = some o)) (k : w0.heap[g]? = some o → w.heap[g]? = some o := by intro h_; (with_reducible repeat (first | refine blk_drewN ?_ _ | refine blk_drew ?_ | refine blk_alloc ?_ _)); exact h_) : Aside0 (g ≠ gb) := ⟨hg ▸ Nat.ne_of_lt (blk_lt (k h.out))⟩
theorem ng (hg : gb = w.heap.size) (h : Aside0 (w0.heap[g]? = some o)) (k : w0.heap[g]? = some o → w.heap[g]? = some o := by intro h_; (with_reducible repeat (first | refine blk_drewN ?_ _ | refine blk_drew ?_ | refine blk_alloc ?_ _)); exact h_) : Aside0 (gb ≠ g) := ⟨hg ▸ Nat.ne_of_gt (blk_lt (k h.out))⟩
theorem bg {row : Option Nat} (h : Aside0 (w0.heap[g]? = some o)) (hg : w.grownBy w1 row) (hne : some g ≠ row) (k : w0.heap[g]? = some o → w.heap[g]? = some o := by intro h_; (with_reducible repeat (first | refine blk_drewN ?_ _ | refine blk_drew ?_ | refine blk_alloc ?_ _)); exact h_) : Aside0 (w1.heap[g]? = some o) := ⟨blk_grown (k h.out) hg hne⟩
theorem gw (hg : gb = W.heap.size) (h : Aside0 (Below w.heap.size w W0)) (k : Aside0 (Below w.heap.size w W0) → Below w.heap.size w W := by intro h_; repeat (first | (with_reducible first | exact h_.out | apply below_alloc | apply pw_below_drewN | apply below_drew1 | refine below_set ?_ (Aside0.out (by assumption))) | exact h_.out)) : Aside0 (w.heap.size ≤ gb) := ⟨hg ▸ below_size (k h)⟩
theorem bs (h : Aside0 (Below w.heap.size w W0)) (hb : Below W.heap.size W w1) (k : Aside0 (Below w.heap.size w W0) → Below w.heap.size w W := by intro h_; repeat (first | (with_reducible first | exact h_.out | apply below_alloc | apply pw_below_drewN | apply below_drew1 | refine below_set ?_ (Aside0.out (by assumption))) | exact h_.out)) : Aside0 (Below w.heap.size w w1) := ⟨below_step (k h) hb⟩
theorem cl {ad : Addr} {v : Value} (h : Aside0 (Below w.heap.size w W)) (k : w.cell? ad = some v) : W.cell? ad = some v := (h.out.cell (World.block_lt_of_cell? w _ k)).trans k
theorem cq {ad : Addr} {v : Value} (h : Aside0 (Below w.heap.size w W0)) (k : w.cell? ad = some v) (e : Aside0 (Below w.heap.size w W0) → Below w.heap.size w W := by intro h_; repeat (first | (with_reducible first | exact h_.out | apply below_alloc | apply pw_below_drewN | apply below_drew1 | refine below_set ?_ (Aside0.out (by assumption))) | exact h_.out)) : W.cell? ad = some v := ((e h).cell (World.block_lt_of_cell? w _ k)).trans k
inductive Nth : List Value → Nat → Value → Prop
  | z {a : Value} {l : List Value} : Nth (a :: l) 0 a
  | s {a v : Value} {l : List Value} {n : Nat} : Nth l n v → Nth (a :: l) (n + 1) v
theorem Nth.get {l : List Value} {n : Nat} {v : Value} (h : Nth l n v) : l[n]? = some v := by induction h with
  | z => rfl
  | s _ ih => simpa using ih
theorem bk (w : World) {t : Nat} {c : Array Value} {v : Value} (h : Aside0 (w.heap[g]? = some (.cells c t (0, 0)))) (j : Nat) (e : Nth c.toList j v := by (repeat (first | exact Nth.z | apply Nth.s)); done) : w.cell? ⟨g, j, none⟩ = some v := (blk_cell h.out j).trans (by simpa using e.get)
end
theorem be {α β : Type} {o : Option α} {f : α → Option β} {r : β} {G : Prop} (h : o.bind f = some r) (k : ∀ t, Aside0 (o = some t) → f t = some r → G) : G := by
  obtain ⟨t, e, h'⟩ := Option.bind_eq_some_iff.mp h
  exact k t ⟨e⟩ h'
theorem if0 {α : Sort _} {a b c : α} [Decidable (false = true)] (h : (if false = true then a else b) = c) : b = c := by rw [if_neg (fun k => Bool.noConfusion k)] at h; exact h
theorem if1 {α : Sort _} {a b c : α} [Decidable (true = true)] (h : (if true = true then a else b) = c) : a = c := by rw [if_pos rfl] at h; exact h
section
variable {α : Type} [DecidableEq α] {a b : α}
theorem eqT (h : a = b) : (a == b) = true := beq_iff_eq.mpr h
theorem eqF (h : ¬ a = b) : (a == b) = false := beq_eq_false_iff_ne.mpr h
theorem neT (h : ¬ a = b) : (a != b) = true := bne_iff_ne.mpr h
theorem neF (h : a = b) : (a != b) = false := bne_eq_false_iff_eq.mpr h
end
section
variable {α β : Type} {p : Prop} [Decidable p] {a b : Option α} {r : α} {G : Prop}
theorem iN (h : (if p then a else none) = some r) (k : p → a = some r → G) : G := by
  by_cases c : p
  · rw [if_pos c] at h; exact k c h
  · rw [if_neg c] at h; exact absurd h (by simp)
theorem iM (h : (if p then a else none) = some r) (k : decide p = true → a = some r → G) : G := iN h fun c => k (decide_eq_true c)
theorem qI (h : (if p then a else b) = some r) (k : decide p = true → a = some r → G) (k' : decide p = false → b = some r → G) : G := by
  by_cases c : p
  · rw [if_pos c] at h; exact k (decide_eq_true c) h
  · rw [if_neg c] at h; exact k' (decide_eq_false c) h
theorem qG {x y : Int} (h : (if x > y then a else b) = some r) (k : decide (y < x) = true → a = some r → G) (k' : decide (y < x) = false → b = some r → G) : G := qI h k k'
theorem qL {x y : Int} (h : (if x ≥ y then a else b) = some r) (k : decide (y ≤ x) = true → a = some r → G) (k' : decide (y ≤ x) = false → b = some r → G) : G := qI h k k'
theorem qE [DecidableEq β] {x y : β} (h : (if x = y then a else b) = some r) (k : (x == y) = true → (x != y) = false → a = some r → G) (k' : ¬ x = y → (x == y) = false → (x != y) = true → b = some r → G) : G := by
  by_cases c : x = y
  · rw [if_pos c] at h; exact k (eqT c) (neF c) h
  · rw [if_neg c] at h; exact k' c (eqF c) (neT c) h
theorem qT {x : Bool} (h : (if x = true then a else b) = some r) (k : x = true → a = some r → G) (k' : x = false → b = some r → G) : G := by
  cases x with
  | true => rw [if_pos rfl] at h; exact k rfl h
  | false => rw [if_neg (fun e => Bool.noConfusion e)] at h; exact k' rfl h
end
theorem kS0 {α : Type} {F : Nat → Option α} {k : Nat} {r : α} {G : Prop} (h : Aside0 (F k = some r)) (h0 : F 0 = none) (g : ∀ j, F (j + 1) = some r → k = j + 1 → G) : G := by
  cases k with
  | zero => rw [h0] at h; exact absurd h.out (by simp)
  | succ j => exact g j h.out rfl
theorem lk0 {g : Prop} (h : g := by first | omega | exact Nat.le_refl _) : g := h
theorem lk1 {a g : Prop} (x : Aside0 a) (h : a → g := by intros; first | omega | exact Nat.le_refl _) : g := h x.out
theorem lk2 {a b g : Prop} (x : Aside0 a) (y : Aside0 b) (h : a → b → g := by intros; first | omega | exact Nat.le_refl _) : g := h x.out y.out
theorem lk3 {a b c g : Prop} (x : Aside0 a) (y : Aside0 b) (z : Aside0 c) (h : a → b → c → g := by intros; first | omega | exact Nat.le_refl _) : g := h x.out y.out z.out
theorem lk4 {a b c d g : Prop} (x : Aside0 a) (y : Aside0 b) (z : Aside0 c) (u : Aside0 d) (h : a → b → c → d → g := by intros; first | omega | exact Nat.le_refl _) : g := h x.out y.out z.out u.out
theorem lk5 {a b c d e g : Prop} (x : Aside0 a) (y : Aside0 b) (z : Aside0 c) (u : Aside0 d) (v : Aside0 e) (h : a → b → c → d → e → g := by intros; first | omega | exact Nat.le_refl _) : g := h x.out y.out z.out u.out v.out
theorem lk6 {a b c d e f g : Prop} (x : Aside0 a) (y : Aside0 b) (z : Aside0 c) (u : Aside0 d) (v : Aside0 e) (s : Aside0 f) (h : a → b → c → d → e → f → g := by intros; first | omega | exact Nat.le_refl _) : g := h x.out y.out z.out u.out v.out s.out
section
variable {w w0 w1 W : World} {g gb t : Nat} {o : Obj} {cs cs' : Array Value}
theorem ltN {m : Nat} (h : g < w.heap.size) : g < (w.drewN m).heap.size := h
theorem ltW (h : g < w.heap.size) : g < w.drew.heap.size := h
theorem ltA {o' : Obj} (h : g < w.heap.size) : g < (w.alloc o').heap.size := by rw [World.size_alloc]; omega
theorem ltS {p : Addr} {u : Value} (h : g < w.heap.size) : g < (w.setCell p u).heap.size := by rw [World.size_setCell]; exact h
theorem bP {i : Nat} {u : Value} (h : w.heap[g]? = some (.cells cs t (0, 0))) (e : cs.setIfInBounds i u = cs') : (w.setCell ⟨g, i, none⟩ u).heap[g]? = some (.cells cs' t (0, 0)) := e ▸ blk_set h i u
theorem bQ {p : Addr} {u : Value} (h : w.heap[g]? = some (.cells cs t (0, 0))) (hp : g ≠ p.block) : (w.setCell p u).heap[g]? = some (.cells cs t (0, 0)) := blk_far h hp u
theorem bt {P Q : Prop} (h : Aside0 P) (k : Aside0 P → Q := by intro h_; (with_reducible repeat (first | apply dN | apply dW | apply dA | apply bP | (apply bQ; (case hp => exact Aside0.out (by assumption))))); (exact h_.out); all_goals rfl) : Q := k h
theorem bo (cs' : Array Value) (h : Aside0 (w0.heap[g]? = some (.cells cs t (0, 0)))) (hb : Below w.heap.size w w1) (k : Aside0 (w0.heap[g]? = some (.cells cs t (0, 0))) → w.heap[g]? = some (.cells cs' t (0, 0)) := by intro h_; (with_reducible repeat (first | apply dN | apply dW | apply dA | apply bP | (apply bQ; (case hp => exact Aside0.out (by assumption))))); (exact h_.out); all_goals rfl) : Aside0 (w1.heap[g]? = some (.cells cs' t (0, 0))) := ⟨blk_below (k h) hb⟩
theorem bO (cs' : Array Value) {row : Option Nat} (h : Aside0 (w0.heap[g]? = some (.cells cs t (0, 0)))) (hg : w.grownBy w1 row) (hne : some g ≠ row) (k : Aside0 (w0.heap[g]? = some (.cells cs t (0, 0))) → w.heap[g]? = some (.cells cs' t (0, 0)) := by intro h_; (with_reducible repeat (first | apply dN | apply dW | apply dA | apply bP | (apply bQ; (case hp => exact Aside0.out (by assumption))))); (exact h_.out); all_goals rfl) : Aside0 (w1.heap[g]? = some (.cells cs' t (0, 0))) := ⟨blk_grown (k h) hg hne⟩
theorem bb2 (h : Aside0 (w0.heap[g]? = some (.cells cs t (0, 0)))) (hb : Below w.heap.size w w1) (k : Aside0 (w0.heap[g]? = some (.cells cs t (0, 0))) → w.heap[g]? = some (.cells cs t (0, 0)) := by intro h_; (with_reducible repeat (first | apply dN | apply dW | apply dA | (apply bQ; (case hp => exact Aside0.out (by assumption))))); exact h_.out) : Aside0 (w1.heap[g]? = some (.cells cs t (0, 0))) := ⟨blk_below (k h) hb⟩
theorem b3 (hg : gb = w.heap.size) (h : Aside0 (w0.heap[g]? = some o)) (hb : Below w.heap.size w w1) (k : w0.heap[g]? = some o → w.heap[g]? = some o := by intro h_; (with_reducible repeat (first | refine blk_drewN ?_ _ | refine blk_drew ?_ | refine blk_alloc ?_ _)); exact h_) : Aside0 (g ≠ gb) ∧ Aside0 (gb ≠ g) ∧ Aside0 (w1.heap[g]? = some o) := ⟨⟨hg ▸ Nat.ne_of_lt (blk_lt (k h.out))⟩, ⟨hg ▸ Nat.ne_of_gt (blk_lt (k h.out))⟩, ⟨blk_below (k h.out) hb⟩⟩
theorem n3 (hg : gb = w.heap.size) (h : Aside0 (w0.heap[g]? = some o)) (k : g < w0.heap.size → g < w.heap.size := by intro h_; (with_reducible repeat (first | apply ltN | apply ltW | apply ltA | apply ltS)); exact h_) : Aside0 (g ≠ gb) ∧ Aside0 (gb ≠ g) := ⟨⟨hg ▸ Nat.ne_of_lt (k (blk_lt h.out))⟩, ⟨hg ▸ Nat.ne_of_gt (k (blk_lt h.out))⟩⟩
theorem bK (w : World) (h : Aside0 (w.heap[g]? = some (.cells cs t (0, 0)))) (j : Nat) : w.cell? ⟨g, j, none⟩ = cs[j]? := blk_cell h.out j
theorem bF (h : Aside0 (w.heap[g]? = some (.cells cs t (0, 0)))) (j : Nat) : w.frozen? ⟨g, j, none⟩ = false := blk_frozen h.out j
theorem aR {k : IntKind} {e base n c : Nat} {ok : Nat → Prop} {xs : List Int} (h : Aside0 (Kd.R (Kd.int k) e w base ok (.slice (some ⟨g, 0, none⟩) n c) xs)) (i : Int) (p : decide (0 ≤ i) = true := by first | (with_reducible assumption) | assumption) (q : decide (i < (xs.length : Int)) = true := by first | (with_reducible assumption) | assumption) : (0 ≤ i) = True ∧ (i < (xs.length : Int)) = True ∧ w.cell? ⟨g, i.toNat, none⟩ = some (.int k (rd xs i)) := by
  have hl := (Kd.R_reads' h.out).1
  exact ⟨eq_true (of_decide_eq_true p), eq_true (of_decide_eq_true q), (Kd.R_celln 0 h.out i (of_decide_eq_true p) (by have := of_decide_eq_true q; omega)).1⟩
end
section
variable {P : Program} {ops : Array Oper} {Q : Exit → Act → World → Prop} {rest : List Oper} {oi o : Oper} {a : Act} {w W : World} {fn : Func} {as : Array Operand} {ts : Array TypeId}
theorem gk (f : FuncId) (_ho : oi.op = .call { callee := .value (.func f), args := as, argTypes := ts }) (h : wpList P ops Q (oi :: rest) a w) : wpList P ops Q (oi :: rest) a w := h
theorem gt (t : TypeId) (p : Tmp) {v : Operand} (_ho : o.op = .store t (.tmp p) v) (h : wpList P ops Q (o :: rest) a W) : wpList P ops Q (o :: rest) a W := h
theorem gC (f : FuncId) (N : Option Tmp) (hf : P.funcs[f]? = some fn) (args : Array Value)
    (h : Calls P f args w fun e w' => ∃ v, e = .returned v ∧ wpList P ops Q rest (a.put N v) w')
    (hop : oi.op = .call { callee := .value (.func f), args := as, argTypes := ts } := by with_reducible rfl) (hd : oi.dst = N := by rfl) (hg : oi.guard = none := by rfl) (hname : (fn.name == "runtime.NumGoroutine") = false := by kernel_rfl) (hb : fn.body.isSome = true := by rfl)
    (hargs : as.map a.eval = args := by (try simp only [List.map_toArray, List.map_cons, List.map_nil]); first | done | rfl | (simp only [List.length_drop, List.length_take]; rfl)) : wpList P ops Q (oi :: rest) a w := goesL_ N hd hg hf hname hb args hop hargs h
theorem gB (f : FuncId) (N : Option Tmp) (hf : P.funcs[f]? = some fn) (args : Array Value) {v : Value}
    (h : Calls P f args w fun e w' => e = .returned v ∧ Below w.heap.size w w') (k : ∀ w', Below w.heap.size w w' → wpList P ops Q rest (a.put N v) w')
    (hop : oi.op = .call { callee := .value (.func f), args := as, argTypes := ts } := by with_reducible rfl) (hd : oi.dst = N := by rfl) (hg : oi.guard = none := by rfl) (hname : (fn.name == "runtime.NumGoroutine") = false := by kernel_rfl) (hb : fn.body.isSome = true := by rfl)
    (hargs : as.map a.eval = args := by (try simp only [List.map_toArray, List.map_cons, List.map_nil]); first | done | rfl | (simp only [List.length_drop, List.length_take]; rfl)) : wpList P ops Q (oi :: rest) a w := goesL_ N hd hg hf hname hb args hop hargs (h.mono fun e w' hh => ⟨v, hh.1, k w' hh.2⟩)
theorem gD (f : FuncId) (N : Option Tmp) (hf : P.funcs[f]? = some fn) (args : Array Value) {v : Value}
    (h : Calls P f args w fun e w' => e = .returned v ∧ Drawn0 w w') (k : ∀ nd, wpList P ops Q rest (a.put N v) (w.drewN nd))
    (hop : oi.op = .call { callee := .value (.func f), args := as, argTypes := ts } := by with_reducible rfl) (hd : oi.dst = N := by rfl) (hg : oi.guard = none := by rfl) (hname : (fn.name == "runtime.NumGoroutine") = false := by kernel_rfl) (hb : fn.body.isSome = true := by rfl)
    (hargs : as.map a.eval = args := by (try simp only [List.map_toArray, List.map_cons, List.map_nil]); first | done | rfl | (simp only [List.length_drop, List.length_take]; rfl)) : wpList P ops Q (oi :: rest) a w := goesL_ N hd hg hf hname hb args hop hargs (h.mono fun e w' hh => by obtain ⟨rfl, ⟨nd, rfl⟩⟩ := hh; exact ⟨v, rfl, k nd⟩)
theorem sE (t : TypeId) (p : Tmp) (w1 : World) {v : Operand} (h : ∀ w', w' = w1 → wpList P ops Q rest a w')
    (ho : o.op = .store t (.tmp p) v := by with_reducible rfl) (hN : o.dst = none := by rfl) (hgd : o.guard = none := by rfl)
    (hrun : (execOp a.eval o).run P W = .ok .skip w1 := by first | (go_simp; done) | (go_simp; rfl)) : wpList P ops Q (o :: rest) a W := store_event hgd ho hN hrun h
theorem bX (N : Tmp) (cs : Array Value) (t : TypeId) {W0 w : World} (HB : Aside0 (Below w.heap.size w W0))
    (h : ∀ g w1, g = W.heap.size → Below W.heap.size W w1 → Aside0 (w1.heap[g]? = some (.cells cs t (0, 0))) → Aside0 (w.heap.size ≤ g) → Aside0 (Below w.heap.size w w1) → wpList P ops Q rest (a.put o.dst (.pointer (some ⟨g, 0, none⟩))) w1)
    (hd : o.dst = some N := by with_reducible rfl) (hg : o.guard = none := by rfl)
    (hr : (execOp a.eval o).run P W = .ok (.value (.pointer (some ⟨W.heap.size, 0, none⟩))) (W.alloc (.cells cs t (0, 0))) := by first | (go_simp; done) | (go_simp; rfl))
    (k : Aside0 (Below w.heap.size w W0) → Below w.heap.size w W := by intro h_; repeat (first | (with_reducible first | exact h_.out | apply below_alloc | apply pw_below_drewN | apply below_drew1 | refine below_set ?_ (Aside0.out (by assumption))) | exact h_.out)) : wpList P ops Q (o :: rest) a W :=
  box_event hg hd hr fun g e w1 hb hB => h g w1 e hB ⟨hb⟩ ⟨e ▸ below_size (k HB)⟩ ⟨below_step (k HB) hB⟩
end
end Go.Proofs.YtcdohkilplgmjaaW.PrintShort
