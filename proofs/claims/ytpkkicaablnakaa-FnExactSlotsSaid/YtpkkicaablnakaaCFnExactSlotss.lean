/- Short words for steps that printed walks take often. No condition. -/
import Derived.Test.YtpkkicaablnakaaCFnExactSlotsw
namespace Go.Proofs.YtpkkicaablnakaaW.PrintShort
open Go.RowKit Go.Proofs.YtpkkicaablnakaaW.PrintWords Go.Proofs.YtpkkicaablnakaaW.PrintLast Go.Proofs.YtpkkicaablnakaaW.PrintMore
set_option linter.unusedVariables false
theorem below_setA {n g : Nat} {w0 w w' : World} {P : Prop} (k : P → Below n w0 w') (h : Aside0 P) : Below n w0 w' := k h.out
theorem bw {P Q : Prop} (h : Aside0 P) (k : Aside0 P → Q := by intro h_; repeat (first | (with_reducible first | exact h_.out | apply below_alloc | apply pw_below_drewN | apply below_drew1 | refine below_set ?_ (Aside0.out (by assumption))) | exact h_.out)) : Q := k h
theorem bp {P Q : Prop} (h : Aside0 P) (k : Aside0 P → Q := by intro h_; (with_reducible repeat (first | refine blk_drewN ?_ _ | refine blk_drew ?_ | refine blk_alloc ?_ _)); exact h_.out) : Q := k h
theorem kR {P Q : Prop} (h : Aside0 P) (k : Aside0 P → Q := by intro h_; (with_reducible repeat (first | apply Kd.R_alloc | apply Kd.R_drewN | apply Kd.R_drew)); exact h_.out) : Q := k h
theorem kS {P Q : Prop} (h : Aside0 P) (k : Aside0 P → Q := by intro h_; (with_reducible repeat (first | apply Kd.S_alloc | apply Kd.S_drewN | apply Kd.S_drew)); exact h_.out) : Q := k h
theorem kV {P Q : Prop} (h : Aside0 P) (k : Aside0 P → Q := by intro h_; (with_reducible repeat (first | apply Kd.V_alloc | apply Kd.V_drewN | apply Kd.V_drew)); exact h_.out) : Q := k h
theorem cc {P Q : Prop} (h : P) (k : P → Q := by intro h_; repeat (first | exact h_ | (with_reducible refine Kd.C_alloc ?_ _) | (with_reducible refine Kd.C_drewN ?_ _) | (with_reducible refine Kd.C_drew ?_))) : Q := k h
theorem as1 {Q : Prop} (h : Q := by first | (with_reducible assumption) | assumption) : Q := h
theorem gl {Q : Prop} (h : Q := by (try simp only [List.map_toArray, List.map_cons, List.map_nil]); first | done | rfl | (simp only [List.length_drop, List.length_take]; rfl)) : Q := h
theorem dr {Q : Prop} (h : Q := by first | rfl | (simp; done) | (simp [*]; done)) : Q := h
end Go.Proofs.YtpkkicaablnakaaW.PrintShort
