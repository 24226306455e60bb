/- Short words for steps that printed walks take often. No condition. -/
import Derived.Test.YtkmohnlkldkhdaaCFnExactStateSamew
namespace Go.Proofs.YtkmohnlkldkhdaaW.PrintShort
open Go.RowKit Go.Proofs.YtkmohnlkldkhdaaW.PrintWords Go.Proofs.YtkmohnlkldkhdaaW.PrintLast Go.Proofs.YtkmohnlkldkhdaaW.PrintMore
set_option linter.unusedVariables false
theorem below_setA {n g : Nat} {w0 w w' : World} {P : Prop} (k : P → Below n w0 w') (h : Aside0 P) : Below n w0 w' := k h.out
theorem bw {P Q : Prop} (h : Aside0 P) (k : Aside0 P → Q := by intro h_; repeat (first | (with_reducible first | exact h_.out | apply below_alloc | apply pw_below_drewN | apply below_drew1 | refine below_set ?_ (Aside0.out (by assumption))) | exact h_.out)) : Q := k h
theorem bp {P Q : Prop} (h : Aside0 P) (k : Aside0 P → Q := by intro h_; (with_reducible repeat (first | refine blk_drewN ?_ _ | refine blk_drew ?_ | refine blk_alloc ?_ _)); exact h_.out) : Q := k h
theorem kR {P Q : Prop} (h : Aside0 P) (k : Aside0 P → Q := by intro h_; (with_reducible repeat (first | apply Kd.R_alloc | apply Kd.R_drewN | apply Kd.R_drew)); exact h_.out) : Q := k h
theorem kS {P Q : Prop} (h : Aside0 P) (k : Aside0 P → Q := by intro h_; (with_reducible repeat (first | apply Kd.S_alloc | apply Kd.S_drewN | apply Kd.S_drew)); exact h_.out) : Q := k h
theorem kV {P Q : Prop} (h : Aside0 P) (k : Aside0 P → Q := by intro h_; (with_reducible repeat (first | apply Kd.V_alloc | apply Kd.V_drewN | apply Kd.V_drew)); exact h_.out) : Q := k h
theorem cc {P Q : Prop} (h : P) (k : P → Q := by intro h_; repeat (first | exact h_ | (with_reducible refine Kd.C_alloc ?_ _) | (with_reducible refine Kd.C_drewN ?_ _) | (with_reducible refine Kd.C_drew ?_))) : Q := k h
theorem as1 {Q : Prop} (h : Q := by first | (with_reducible assumption) | assumption) : Q := h
theorem gl {Q : Prop} (h : Q := by (try simp only [List.map_toArray, List.map_cons, List.map_nil]); first | done | rfl | (simp only [List.length_drop, List.length_take]; rfl)) : Q := h
theorem dr {Q : Prop} (h : Q := by first | rfl | (simp; done) | (simp [*]; done)) : Q := h
theorem dN {w : World} {g : Nat} {o : Obj} (h : w.heap[g]? = some o) {n : Nat} : (w.drewN n).heap[g]? = some o := h
theorem dW {w : World} {g : Nat} {o : Obj} (h : w.heap[g]? = some o) : w.drew.heap[g]? = some o := h
theorem dA {w : World} {g : Nat} {o : Obj} (h : w.heap[g]? = some o) {o' : Obj} : (w.alloc o').heap[g]? = some o := blk_alloc h o'
theorem bc {w : World} {g t : Nat} {c : Array Value} {v : Value} (h : Aside0 (w.heap[g]? = some (.cells c t (0, 0)))) (j : Nat) (e : c[j]? = some v := by rfl) : w.cell? ⟨g, j, none⟩ = some v := (blk_cell h.out j).trans e
theorem bf {w : World} {g t : Nat} {c : Array Value} (h : Aside0 (w.heap[g]? = some (.cells c t (0, 0)))) (j : Nat) : w.frozen? ⟨g, j, none⟩ = false := blk_frozen h.out j
theorem am {P : Prop} (h : P) : Aside0 P := ⟨h⟩
theorem gs {Q : Prop} (h : Q := by first | (go_simp; done) | (go_simp; rfl)) : Q := h
theorem sa {α : Type} (l : List α) (i : Nat) (a : α) : l.toArray.setIfInBounds i a = (l.set i a).toArray := List.setIfInBounds_toArray l i a
theorem sz {α : Type} {x : α} {xs : List α} {a : α} : (x :: xs).set 0 a = a :: xs := rfl
theorem ss {α : Type} {x : α} {xs : List α} {n : Nat} {a : α} : (x :: xs).set (n + 1) a = x :: xs.set n a := rfl
section
variable {P : Program} {ops : Array Oper} {Q : Exit → Act → World → Prop} {rest : List Oper} {o : Oper} {a : Act} {W : World}
theorem gate_calleeT {q : Operand} {as : Array Operand} {ts : Array TypeId} (_ho : o.op = .call { callee := .value q, args := as, argTypes := ts }) (h : wpList P ops Q (o :: rest) a W) : wpList P ops Q (o :: rest) a W := h
theorem goesT_ {rest : List Oper} {oi : Oper} {a : Act} {w : World} {q : Operand} (N : Option Tmp) (hd : oi.dst = N) (hg : oi.guard = none) {f : FuncId} {fn : Func} {as : Array Operand} {ts : Array TypeId} (hf : P.funcs[f]? = some fn) (hname : (fn.name == "runtime.NumGoroutine") = false) (hb : fn.body.isSome = true) (hq : a.eval q = .func (.func f) #[] #[]) (args : Array Value)
    (hop : oi.op = .call { callee := .value q, args := as, argTypes := ts }) (hargs : as.map a.eval = args)
    (h : Calls P f args w fun e w' => ∃ v, e = .returned v ∧ wpList P ops Q rest (a.put N v) w') : wpList P ops Q (oi :: rest) a w := by
  refine wpList_plain hg fun K hK => ?_
  have he := enters_ hf hname hb args w
  have hrun : (execOp a.eval oi).run P w = .ok (.enter f args) w := by
    unfold execOp
    simp [hop, resolve, Deferred.ofValue, invoke, hq, hargs, he]
  unfold Oper.wp
  rw [hrun, Oper.upon_enter]
  refine h.mono fun e w'' hh => ?_
  obtain ⟨v, rfl, hk⟩ := hh
  subst hd
  exact hK _ _ hk
end
end Go.Proofs.YtkmohnlkldkhdaaW.PrintShort
