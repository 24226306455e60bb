/- Short words for steps that printed walks take often. No condition. -/
import Derived.Test.YthdfokebbcheoaaWMore
import Derived.Test.YthdfokebbcheoaaWSized
import Derived.Lib.SliceRun
import Derived.Lib.ConvBytes
import Derived.Lib.AppendStr
namespace Go.Proofs.YthdfokebbcheoaaW.PrintShort
open Go.RowKit Go.Proofs.YthdfokebbcheoaaW.PrintWords Go.Proofs.YthdfokebbcheoaaW.PrintLast Go.Proofs.YthdfokebbcheoaaW.PrintMore
set_option linter.unusedVariables false
theorem below_setA {n g : Nat} {w0 w w' : World} {P : Prop} (k : P → Below n w0 w') (h : Aside0 P) : Below n w0 w' := k h.out
theorem bw {P Q : Prop} (h : Aside0 P) (k : Aside0 P → Q := by intro h_; repeat (first | (with_reducible first | exact h_.out | apply below_alloc | apply pw_below_drewN | apply below_drew1 | refine below_set ?_ (Aside0.out (by assumption))) | exact h_.out)) : Q := k h
theorem bp {P Q : Prop} (h : Aside0 P) (k : Aside0 P → Q := by intro h_; (with_reducible repeat (first | refine blk_drewN ?_ _ | refine blk_drew ?_ | refine blk_alloc ?_ _)); exact h_.out) : Q := k h
theorem kR {P Q : Prop} (h : Aside0 P) (k : Aside0 P → Q := by intro h_; (with_reducible repeat (first | apply Kd.R_alloc | apply Kd.R_drewN | apply Kd.R_drew)); exact h_.out) : Q := k h
theorem kS {P Q : Prop} (h : Aside0 P) (k : Aside0 P → Q := by intro h_; (with_reducible repeat (first | apply Kd.S_alloc | apply Kd.S_drewN | apply Kd.S_drew)); exact h_.out) : Q := k h
theorem kV {P Q : Prop} (h : Aside0 P) (k : Aside0 P → Q := by intro h_; (with_reducible repeat (first | apply Kd.V_alloc | apply Kd.V_drewN | apply Kd.V_drew)); exact h_.out) : Q := k h
theorem cc {P Q : Prop} (h : P) (k : P → Q := by intro h_; repeat (first | exact h_ | (with_reducible refine Kd.C_alloc ?_ _) | (with_reducible refine Kd.C_drewN ?_ _) | (with_reducible refine Kd.C_drew ?_))) : Q := k h
theorem as1 {Q : Prop} (h : Q := by first | (with_reducible assumption) | assumption) : Q := h
theorem gl {Q : Prop} (h : Q := by (try simp only [List.map_toArray, List.map_cons, List.map_nil]); first | done | rfl | (simp only [List.length_drop, List.length_take]; rfl)) : Q := h
theorem dr {Q : Prop} (h : Q := by first | rfl | (simp; done) | (simp [*]; done)) : Q := h
theorem dN {w : World} {g : Nat} {o : Obj} (h : w.heap[g]? = some o) {n : Nat} : (w.drewN n).heap[g]? = some o := h
theorem dW {w : World} {g : Nat} {o : Obj} (h : w.heap[g]? = some o) : w.drew.heap[g]? = some o := h
theorem dA {w : World} {g : Nat} {o : Obj} (h : w.heap[g]? = some o) {o' : Obj} : (w.alloc o').heap[g]? = some o := blk_alloc h o'
theorem bc {w : World} {g t : Nat} {c : Array Value} {v : Value} (h : Aside0 (w.heap[g]? = some (.cells c t (0, 0)))) (j : Nat) (e : c[j]? = some v := by rfl) : w.cell? ⟨g, j, none⟩ = some v := (blk_cell h.out j).trans e
theorem bf {w : World} {g t : Nat} {c : Array Value} (h : Aside0 (w.heap[g]? = some (.cells c t (0, 0)))) (j : Nat) : w.frozen? ⟨g, j, none⟩ = false := blk_frozen h.out j
theorem C_nil0 {α : Type} {d : Kd α} {w : World} {n : Nat} {xs : List α} (h : d.C w none n xs) : xs = [] := by
  rcases Nat.eq_zero_or_pos n with q | q
  · exact List.length_eq_zero_iff.1 (h.1.trans q)
  · obtain ⟨ad, e, _⟩ := h.2.2 q
    cases e
theorem am {P : Prop} (h : P) : Aside0 P := ⟨h⟩
theorem gs {Q : Prop} (h : Q := by first | (go_simp; done) | (go_simp; rfl)) : Q := h
theorem sa {α : Type} (l : List α) (i : Nat) (a : α) : l.toArray.setIfInBounds i a = (l.set i a).toArray := List.setIfInBounds_toArray l i a
theorem sz {α : Type} {x : α} {xs : List α} {a : α} : (x :: xs).set 0 a = a :: xs := rfl
theorem ss {α : Type} {x : α} {xs : List α} {n : Nat} {a : α} : (x :: xs).set (n + 1) a = x :: xs.set n a := rfl
section
variable {P : Program} {ops : Array Oper} {Q : Exit → Act → World → Prop} {rest : List Oper} {o : Oper} {a : Act} {W : World}
theorem gate_calleeT {q : Operand} {as : Array Operand} {ts : Array TypeId} (_ho : o.op = .call { callee := .value q, args := as, argTypes := ts }) (h : wpList P ops Q (o :: rest) a W) : wpList P ops Q (o :: rest) a W := h
theorem goesT_ {rest : List Oper} {oi : Oper} {a : Act} {w : World} {q : Operand} (N : Option Tmp) (hd : oi.dst = N) (hg : oi.guard = none) {f : FuncId} {fn : Func} {as : Array Operand} {ts : Array TypeId} (hf : P.funcs[f]? = some fn) (hname : (fn.name == "runtime.NumGoroutine") = false) (hb : fn.body.isSome = true) (hq : a.eval q = .func (.func f) #[] #[]) (args : Array Value)
    (hop : oi.op = .call { callee := .value q, args := as, argTypes := ts }) (hargs : as.map a.eval = args)
    (h : Calls P f args w fun e w' => ∃ v, e = .returned v ∧ wpList P ops Q rest (a.put N v) w') : wpList P ops Q (oi :: rest) a w := by
  refine wpList_plain hg fun K hK => ?_
  have he := enters_ hf hname hb args w
  have hrun : (execOp a.eval oi).run P w = .ok (.enter f args) w := by
    unfold execOp
    simp [hop, resolve, Deferred.ofValue, invoke, hq, hargs, he]
  unfold Oper.wp
  rw [hrun, Oper.upon_enter]
  refine h.mono fun e w'' hh => ?_
  obtain ⟨v, rfl, hk⟩ := hh
  subst hd
  exact hK _ _ hk
theorem goesQ_ {oi : Oper} {N : Option Tmp} {a : Act} {w : World} {K : Act → World → Prop} {f : FuncId} {fn : Func} {q : Operand} {as : Array Operand} {ts : Array TypeId} (hf : P.funcs[f]? = some fn) (hname : (fn.name == "runtime.NumGoroutine") = false) (hb : fn.body.isSome = true) (args : Array Value)
    (hw : Region.wanted oi (yielded ops a.tmps) = true) (hN : oi.dst = N) (hop : oi.op = .call { callee := .value q, args := as, argTypes := ts }) (hargs : as.map a.eval = args)
    (h : Calls P f args w fun e w' => ∃ v, e = .returned v ∧ K (a.put N v) w') (hq : a.eval q = .func (.func f) #[] #[] := by rfl) : if Region.wanted oi (yielded ops a.tmps) = true then Oper.wp P oi a w K Q else K (a.put N undef) w := by
  refine call_ f args hw hN ?_ h
  have he := enters_ hf hname hb args w
  unfold execOp
  simp [hop, resolve, Deferred.ofValue, invoke, hq, hargs, he]
end
section
variable {P : Program} {ops : Array Oper} {Q : Exit → Act → World → Prop}
/-- A call of a closure: what it caught comes behind its arguments. -/
theorem goesC_ {rest : List Oper} {oi : Oper} {a : Act} {w : World} {q : Operand} (N : Option Tmp) (hd : oi.dst = N) (hg : oi.guard = none) {f : FuncId} {fn : Func} {as : Array Operand} {ts : Array TypeId} {cap : Array Value} (hf : P.funcs[f]? = some fn) (hname : (fn.name == "runtime.NumGoroutine") = false) (hb : fn.body.isSome = true) (hq : a.eval q = .func (.func f) #[] cap) (args all : Array Value)
    (hop : oi.op = .call { callee := .value q, args := as, argTypes := ts }) (hargs : as.map a.eval = args) (hall : args ++ cap = all)
    (h : Calls P f all w fun e w' => ∃ v, e = .returned v ∧ wpList P ops Q rest (a.put N v) w') : wpList P ops Q (oi :: rest) a w := by
  subst hall
  refine wpList_plain hg fun K hK => ?_
  have he := enters_ hf hname hb (args ++ cap) w
  have hrun : (execOp a.eval oi).run P w = .ok (.enter f (args ++ cap)) w := by
    unfold execOp
    simp [hop, resolve, Deferred.ofValue, invoke, hq, hargs, he]
  unfold Oper.wp
  rw [hrun, Oper.upon_enter]
  refine h.mono fun e w'' hh => ?_
  obtain ⟨v, rfl, hk⟩ := hh
  subst hd
  exact hK _ _ hk
/-- The same as one step of a region that draws. -/
theorem goesCQ_ {oi : Oper} {N : Option Tmp} {a : Act} {w : World} {K : Act → World → Prop} {f : FuncId} {fn : Func} {q : Operand} {as : Array Operand} {ts : Array TypeId} {cap : Array Value} (hf : P.funcs[f]? = some fn) (hname : (fn.name == "runtime.NumGoroutine") = false) (hb : fn.body.isSome = true) (args all : Array Value)
    (hw : Region.wanted oi (yielded ops a.tmps) = true) (hN : oi.dst = N) (hop : oi.op = .call { callee := .value q, args := as, argTypes := ts }) (hargs : as.map a.eval = args) (hall : args ++ cap = all)
    (h : Calls P f all w fun e w' => ∃ v, e = .returned v ∧ K (a.put N v) w') (hq : a.eval q = .func (.func f) #[] cap) : if Region.wanted oi (yielded ops a.tmps) = true then Oper.wp P oi a w K Q else K (a.put N undef) w := by
  subst hall
  refine call_ f (args ++ cap) hw hN ?_ h
  have he := enters_ hf hname hb (args ++ cap) w
  unfold execOp
  simp [hop, resolve, Deferred.ofValue, invoke, hq, hargs, he]
end
/-! Rows of bytes whose block may bear a mark behind its end: what '[]byte(s)' makes. -/
section
variable {e e' : Nat} {w w1 W : World} {base b : Nat} {ok ok' : Nat → Prop} {v u : Value} {xs : List Int}
def Kd.Z (_d : Kd Int) (e : Nat) (w : World) (base : Nat) (ok : Nat → Prop) (v : Value) (xs : List Int) : Prop :=
  (∀ k, v.ownBlock = some k → ok k) ∧ ((v = .slice none 0 0 ∧ xs = []) ∨ ∃ g cap cur fz, v = .slice (some ⟨g, 0, none⟩) xs.length cap ∧ base ≤ g ∧ w.heap[g]? = some (.cells cur e fz) ∧ (fz = (0, 0) ∨ cap ≤ fz.1) ∧ xs.length ≤ cap ∧ cap ≤ maxLen ∧ cur.size = cap ∧ cur.toList.take xs.length = nums .u8 xs)
variable {d : Kd Int}
theorem Kd.Z_nil (d : Kd Int) (e : Nat) (w : World) (base : Nat) (ok : Nat → Prop) : Kd.Z d e w base ok (.slice none 0 0) [] := ⟨fun k hk => by simp [Value.ownBlock] at hk, .inl ⟨rfl, rfl⟩⟩
theorem Kd.Z_mono (h : Kd.Z d e w base ok v xs) (hok : ∀ k, ok k → ok' k) : Kd.Z d e w base ok' v xs := ⟨fun k hk => hok k (h.1 k hk), h.2⟩
theorem Kd.Z_lt (h : Kd.Z d e w base ok v xs) : ∀ k, v.ownBlock = some k → k < w.heap.size := by
  intro k hk
  rcases h.2 with ⟨rfl, _⟩ | ⟨g, cap, cur, fz, rfl, hb, hg, _⟩
  · simp [Value.ownBlock] at hk
  · simp [Value.ownBlock] at hk
    subst hk
    exact (Array.getElem?_eq_some_iff.1 hg).1
theorem Kd.Z_base (h : Kd.Z d e w base ok v xs) : ∀ k, v.ownBlock = some k → base ≤ k := by
  intro k hk
  rcases h.2 with ⟨rfl, _⟩ | ⟨g, cap, cur, fz, rfl, hb, hg, _⟩
  · simp [Value.ownBlock] at hk
  · simp [Value.ownBlock] at hk
    subst hk
    exact hb
theorem Kd.Z_lower (h : Kd.Z d e w base ok v xs) (hb : b ≤ base) : Kd.Z d e w b ok v xs := by
  refine ⟨h.1, ?_⟩
  rcases h.2 with hn | ⟨g, cap, cur, fz, hv, hbg, hg, rest⟩
  · exact .inl hn
  · exact .inr ⟨g, cap, cur, fz, hv, Nat.le_trans hb hbg, hg, rest⟩
theorem Kd.Z_step (h : Kd.Z d e w base ok v xs) (hm : ∀ k, v.ownBlock = some k → k < w.heap.size → w1.heap[k]? = w.heap[k]?) : Kd.Z d e w1 base ok v xs := by
  have hlt := Kd.Z_lt h
  refine ⟨h.1, ?_⟩
  rcases h.2 with hn | ⟨g, cap, cur, fz, rfl, hbg, hg, rest⟩
  · exact .inl hn
  · exact .inr ⟨g, cap, cur, fz, rfl, hbg, (hm g (by simp [Value.ownBlock]) (hlt g (by simp [Value.ownBlock]))).trans hg, rest⟩
theorem Kd.Z_below (h : Kd.Z d e w base ok v xs) (hb : Below w.heap.size w w1) : Kd.Z d e w1 base ok v xs := Kd.Z_step h (fun k _ hk => hb.block k hk)
theorem Kd.Z_alloc (h : Kd.Z d e w base ok v xs) (o : Obj) : Kd.Z d e (w.alloc o) base ok v xs := Kd.Z_below h (below_alloc (Below.refl _ _) o)
theorem Kd.Z_drew (h : Kd.Z d e w base ok v xs) : Kd.Z d e w.drew base ok v xs := Kd.Z_below h (below_drew (Below.refl _ _))
theorem Kd.Z_drewN (h : Kd.Z d e w base ok v xs) (m : Nat) : Kd.Z d e (w.drewN m) base ok v xs := Kd.Z_below h (pw_below_drewN (Below.refl _ _) m)
theorem Kd.Z_grown (h : Kd.Z d e w base ok v xs) {row : Option Nat} (hg : w.grownBy w1 row) (hok : ∀ k, ok k → some k ≠ row) : Kd.Z d e w1 base ok v xs := Kd.Z_step h (fun k ho hk => hg.block k hk (hok k (h.1 k ho)))
theorem Kd.Z_far (h : Kd.Z d e w base ok v xs) {p : Addr} (hok : ∀ k, ok k → k ≠ p.block) (z : Value) : Kd.Z d e (w.setCell p z) base ok v xs := Kd.Z_step h (fun k ho _ => Below.heap_setCell w p z k (hok k (h.1 k ho)))
theorem Kd.Z_elder' (h : Kd.Z d e W base ok u xs) (hbase : ∀ k, v.ownBlock = some k → W.heap.size ≤ k) (hb : Below W.heap.size W w1) : Kd.Z d e w1 base (fun k => ok k ∧ some k ≠ v.ownBlock) u xs :=
  ⟨fun k hk => ⟨h.1 k hk, fun he => Nat.not_lt.2 (hbase k he.symm) (Kd.Z_lt h k hk)⟩, (Kd.Z_below h hb).2⟩
theorem Kd.Z_slice (h : Kd.Z d e w base ok v xs) : ∃ A c, v = .slice A xs.length c := by
  rcases h.2 with ⟨rfl, rfl⟩ | ⟨g, cap, cur, fz, rfl, _⟩
  · exact ⟨none, 0, rfl⟩
  · exact ⟨_, _, rfl⟩
theorem Kd.Z_ne (h : Kd.Z d e w base ok v xs) {t g : Nat} {cells : Array Value} {fz : Nat × Nat} (hb : w.heap[g]? = some (.cells cells t fz)) (ht : e ≠ t) : some g ≠ v.ownBlock := by
  intro he
  rcases h.2 with ⟨rfl, _⟩ | ⟨g', cap, cur, fz', rfl, _, hg, _⟩
  · simp [Value.ownBlock] at he
  · simp [Value.ownBlock] at he
    subst he
    rw [hg] at hb
    simp only [Option.some.injEq, Obj.cells.injEq] at hb
    exact ht hb.2.1
theorem Kd.Z_cells (h : Kd.Z d e w base ok v xs) {g : Nat} (hg : v.ownBlock = some g) : ∀ (j : Nat) (z : Value), (nums .u8 xs)[j]? = some z → w.cell? ⟨g, j, none⟩ = some z := by
  intro j z hz
  rcases h.2 with ⟨rfl, _⟩ | ⟨g', cap, cur, fz, rfl, _, hgg, _, _, _, _, htake⟩
  · simp [Value.ownBlock] at hg
  · simp [Value.ownBlock] at hg
    subst hg
    simp only [World.cell?, hgg, Option.isSome_none, Bool.false_eq_true, if_false]
    rw [← htake, List.getElem?_take] at hz
    split at hz
    · simpa using hz
    · cases hz
theorem Kd.Z_reads (h : Kd.Z d e w base ok v xs) : ∃ A c, v = .slice A xs.length c ∧ xs.length ≤ c ∧ (Kd.int .u8).C w A xs.length xs := by
  rcases h.2 with ⟨rfl, rfl⟩ | ⟨g, cap, cur, fz, rfl, hb, hg, hfz, hn, hcm, hcs, htake⟩
  · exact ⟨none, 0, rfl, Nat.le_refl _, Kd.C_nil _ _⟩
  · refine ⟨_, _, rfl, hn, Kd.C_of_reads (d := (0 : Int)) ?_⟩
    have hc := Kd.Z_cells h (g := g) (by simp [Value.ownBlock])
    refine ⟨rfl, by simp only [maxLen] at hcm; omega, fun hp => ⟨⟨g, 0, none⟩, rfl, fun i hi => ?_⟩⟩
    have h1 := hc i (.int .u8 (xs.getD i 0)) (by simp [nums, List.getElem?_eq_getElem hi, List.getD_eq_getElem?_getD])
    have ha : (⟨g, 0, none⟩ : Addr).add i = ⟨g, i, none⟩ := by unfold Addr.add; split <;> simp_all
    rw [ha]
    exact h1
theorem Kd.Z_string {P : Program} {src dst e' : TypeId} (hs : P.underlying src = some (.slice e)) (he : P.underlying e = some (.int .u8)) (hd : P.underlying dst = some .string)
    (h : Kd.Z d e' w base ok v xs) : (convert src dst v).run P w = .ok (.string (strOfNums xs)) w := by
  have hcell := fun g hg => Kd.Z_cells h (g := g) hg
  rcases h.2 with ⟨rfl, rfl⟩ | ⟨g, cap, cur, fz, rfl, _⟩
  · exact run_convert_bytes_nil w src e hs he 0 0 dst hd
  · refine run_convert_bytes_arg w src e hs he g 0 xs.length cap xs rfl (fun i hi => ?_) dst hd
    have h1 := hcell g (by simp [Value.ownBlock]) i (.int .u8 (xs.getD i 0)) (by simp [nums, List.getElem?_eq_getElem hi, List.getD_eq_getElem?_getD])
    have ha : (⟨g, 0 + i, none⟩ : Addr) = ⟨g, i, none⟩ := by rw [Nat.zero_add]
    rw [ha]; exact h1
variable {P : Program} {ops : Array Oper} {rest : List Oper} {o : Oper} {a : Act} {Q : Exit → Act → World → Prop}
/-- '[]byte(s)'. -/
theorem Kd.Z_conv (d : Kd Int) (hgd : o.guard = none) {N : Tmp} (hd : o.dst = some N) (src dst e : TypeId) (x : Operand) (ho : o.op = .convert src dst x) (s : ByteArray) (hx : a.eval x = .string s) (hs : P.underlying src = some .string) (ht : P.underlying dst = some (.slice e)) (he : P.underlying e = some (.int .u8)) (hl : s.size < 140737488355328)
    (h : ∀ v w2, Kd.Z d e w2 W.heap.size (fun _ => True) v (bytesOf s) → Below W.heap.size W w2 → wpList P ops Q rest (a.put (some N) v) w2) : wpList P ops Q (o :: rest) a W := by
  refine wpList_plain hgd fun K hK => ?_
  have hr := Lib.run_convert_string_bytes (P := P) W src dst e s hs ht he
  have hb : Below W.heap.size W (Lib.bytesWorld W e s) := by
    refine ⟨?_, ?_, ?_, ?_, fun k hk => Lib.bytesWorld_at_old W e s k hk⟩
    all_goals first | (rw [Lib.bytesWorld_size]; omega) | (simp [Lib.bytesWorld, World.freeze, World.alloc, World.drew, -World.alloc_eq, -World.drew_eq])
  have hge : s.size ≤ grownCap W s.size 0 e := grownCap_ge W s.size 0 e
  have hcm : grownCap W s.size 0 e ≤ maxLen := grownCap_le_maxLen W s.size 0 e (by simp only [maxLen]; omega)
  have hlen : (bytesOf s).length = s.size := bytesOf_length s
  have hsz : (Lib.bytesCells W e s).size = grownCap W s.size 0 e := by
    have : s.data.size = s.size := rfl
    simp [Lib.bytesCells]
    omega
  unfold Oper.wp execOp
  simp only [ho, hx, Sem.run_bind, Sem.run_pure, Result.andThen_ok, hr]
  refine hK _ _ ?_
  rw [hd]
  refine h _ _ ⟨fun _ _ => trivial, .inr ⟨W.heap.size, grownCap W s.size 0 e, Lib.bytesCells W e s, _, by rw [hlen], Nat.le_refl _, Lib.bytesWorld_at_new W e s, .inr (by rw [hsz]; exact Nat.le_refl _), by rw [hlen]; exact hge, hcm, hsz, ?_⟩⟩ hb
  rw [hlen]
  simp only [Lib.bytesCells, Array.toList_append, Array.toList_map]
  rw [List.take_append_of_le_length (by simp), List.take_of_length_le (by simp)]
  simp [nums, bytesOf, List.map_map, Function.comp_def]
/-- Cells stored ahead of a mark. -/
theorem run_storeCells_atT (P : Program) (g j : Nat) (t : TypeId) (fz : Nat × Nat) : ∀ (vs : List Value) (i : Nat) (cur : Array Value) (w : World), w.heap[g]? = some (.cells cur t fz) → (fz = (0, 0) ∨ j + i + vs.length ≤ fz.1) → j + i + vs.length ≤ cur.size → (∀ v ∈ vs, v.oneCell' = true) →
    (storeCells ⟨g, j, none⟩ vs i).run P w = .ok () (w.setRow g (cur.toList.take (j + i) ++ vs ++ cur.toList.drop (j + i + vs.length)).toArray)
  | [], i, cur, w, hg, _, _, _ => by
    simp only [storeCells, List.append_nil, List.length_nil, Nat.add_zero, List.take_append_drop, Array.toArray_toList]
    rw [setRow_self w g cur t fz hg]
    rfl
  | v :: rest, i, cur, w, hg, hfz, hl, h1 => by
    have hi : j + i < cur.size := by simp at hl; omega
    have ha : (⟨g, j, none⟩ : Addr).add i = ⟨g, j + i, none⟩ := by unfold Addr.add; split <;> simp_all
    have hc : w.cell? ⟨g, j + i, none⟩ = some cur[j + i] := by simp [World.cell?, hg, hi]
    have hf : w.frozen? ⟨g, j + i, none⟩ = false := by
      simp only [World.frozen?, hg, Bool.and_eq_false_iff, decide_eq_false_iff_not]
      rcases hfz with rfl | hfz
      · right; simp
      · left; simp at hfz; omega
    have hst : (store ((⟨g, j, none⟩ : Addr).add i) v).run P w = .ok () (w.setRow g (cur.setIfInBounds (j + i) v)) := by
      rw [ha, run_store P w _ v _ (h1 v (by simp)), hc]
      simp [hf, setCell_eq_setRow w g (j + i) cur t fz v hg]
    have ih := run_storeCells_atT P g j t fz rest (i + 1) (cur.setIfInBounds (j + i) v) (w.setRow g (cur.setIfInBounds (j + i) v)) (setRow_heap w g cur _ t _ hg) (hfz.imp id (fun q => by simp at q ⊢; omega)) (by simp at hl ⊢; omega) (fun x hx => h1 x (by simp [hx]))
    simp only [storeCells, Sem.run_bind, hst, Result.andThen_ok, ih, setRow_setRow]
    congr 3
    have q := list_seg_step cur.toList (j + i) v rest (by simp at hl ⊢; omega)
    simpa [Array.toList_setIfInBounds, Nat.add_assoc] using q
theorem Kd.Z_of_own {h1 : Unit} {e : TypeId} (h : w.ownsRow base e 1 v xs.length (nums .u8 xs)) (hok : ∀ k, v.ownBlock = some k → ok k) : Kd.Z d e w base ok v xs := by
  refine ⟨hok, ?_⟩
  rcases h.2 with ⟨rfl, hn⟩ | ⟨g, cap, cur, hv, hb, hg, hn, hcm, hcs, ht⟩
  · exact .inl ⟨rfl, List.eq_nil_of_length_eq_zero hn⟩
  · exact .inr ⟨g, cap, cur, (0, 0), hv, hb, hg, .inl rfl, hn, hcm, by omega, by simpa using ht⟩
/-- append(b, s...), s a string. -/
theorem Kd.Z_append_str (d : Kd Int) {w0 W : World} (base : Nat) (hgd : o.guard = none) (s x : Operand) (t u e : TypeId)
    (ho : o.op = .call { callee := .builtin .append, args := #[s, x], argTypes := #[t, u] })
    (ht : P.underlying t = some (.slice e)) (hu : P.underlying u = some .string) (hinfo : (P.info? e).map (fun i => (i.zero, i.size, i.bytes)) = some (some (.int .u8 0), 1, 1))
    (v : Value) (xs : List Int) (y : ByteArray) (hs : a.eval s = v) (hx : a.eval x = .string y)
    (HO : Kd.Z d e W base ok v xs) (hok : ∀ k, ok k) (HB : Below base w0 W) (hbase : base ≤ W.heap.size) (hl : xs.length + y.size ≤ 140737488355328)
    (h : ∀ v1 w1, Kd.Z d e w1 base ok v1 (xs ++ bytesOf y) → Below base w0 w1 → W.grownBy w1 v.ownBlock → wpList P ops Q rest (a.put o.dst v1) w1) : wpList P ops Q (o :: rest) a W := by
  obtain ⟨i0, hi, hzz⟩ := Option.map_eq_some_iff.1 hinfo
  simp only [Prod.mk.injEq] at hzz
  obtain ⟨hz0, hz1, hz2⟩ := hzz
  have hl2 : (xs ++ bytesOf y).length = xs.length + y.size := by rw [List.length_append, bytesOf_length]
  have hcn : nums .u8 (xs ++ bytesOf y) = nums .u8 xs ++ Lib.strCells y := by
    rw [nums_append]
    congr 1
    simp [nums, bytesOf, Lib.strCells]
  have HB1 := Kd.Z_base HO
  have hcell := fun g hg => Kd.Z_cells HO (g := g) hg
  rcases HO.2 with ⟨rfl, rfl⟩ | ⟨g, cap, cur, fz, rfl, hbg, hg, hfz, hn, hcm, hcs, htk⟩
  · refine Lib.wpList_append_own_string W hgd s x t u ho base e i0 ht hu hi hz0 hz1 hz2 _ 0 [] hs ⟨by simp, .inl ⟨rfl, rfl⟩⟩ y hx (by simp only [maxLen]; simp at hl; omega) (by simpa using hl) hbase ?_
    intro v1 w1 hown hgr _
    have hown' : w1.ownsRow base e 1 v1 (([] : List Int) ++ bytesOf y).length (nums .u8 ([] ++ bytesOf y)) := by rw [hl2, hcn]; simpa [nums] using hown
    exact h v1 w1 (Kd.Z_of_own (h1 := ()) hown' (fun k _ => hok k)) (HB.grown hgr hbase (fun k hk => by simp [Value.ownBlock] at hk)) hgr
  · have hxl : (nums .u8 xs).length = xs.length := by simp [nums]
    refine wpList_plain hgd fun K hK => ?_
    have fin : ∀ v1 w1, (Builtin.append_ #[t, u] o.type #[.slice (some ⟨g, 0, none⟩) xs.length cap, .string y]).run P W = .ok v1 w1 → Kd.Z d e w1 base ok v1 (xs ++ bytesOf y) → W.grownBy w1 (Value.slice (some ⟨g, 0, none⟩) xs.length cap).ownBlock → Oper.wp P o a W K Q := by
      intro v1 w1 hr hz hgr
      unfold Oper.wp execOp
      simp only [ho, resolve, invoke, builtin, Sem.run_bind, Sem.run_pure, Result.andThen_ok, List.map_toArray, List.map_cons, List.map_nil, hs, hx, hr]
      exact hK _ _ (h v1 w1 hz (HB.grown hgr hbase HB1) hgr)
    by_cases hroom : xs.length + y.size ≤ cap
    · have hf := Lib.run_firstCells_string (P := P) W 1 y
      have hst := run_storeCells_atT P g xs.length e fz (Lib.strCells y) 0 cur W hg (hfz.imp id (fun q => by rw [Lib.strCells_length]; omega)) (by rw [Lib.strCells_length]; omega) (Lib.strCells_oneCell y)
      simp only [Nat.add_zero, Lib.strCells_length] at hst
      refine fin (.slice (some ⟨g, 0, none⟩) (xs.length + y.size) cap) (W.setRow g (cur.toList.take xs.length ++ Lib.strCells y ++ cur.toList.drop (xs.length + y.size)).toArray) ?_ ⟨fun k _ => hok k, .inr ⟨g, cap, _, fz, by rw [hl2], hbg, setRow_heap W g cur _ e _ hg, hfz, by omega, hcm, ?_, ?_⟩⟩ ⟨rfl, rfl, rfl, by simp, fun k _ hk => setRow_other W g k _ (fun q => hk (by simp [Value.ownBlock, q]))⟩
      · have hz1' : i0.size = 1 := hz1
        simp [Builtin.append_, run_underlying ht, run_underlying hu, sizeOf, typeInfo, hi, hz1', Builtin.lenOf, hroom, hf, Addr.add_lit, hst]
      · simp only [List.size_toArray, List.length_append, List.length_take, List.length_drop, Array.length_toList, Lib.strCells_length]
        omega
      · have hlen : (nums .u8 xs ++ Lib.strCells y).length = (xs ++ bytesOf y).length := by rw [List.length_append, hxl, Lib.strCells_length, hl2]
        rw [htk, hcn, ← hlen]
        exact List.take_left
    · have holds : ∀ j z, (nums .u8 xs)[j]? = some z → W.cell? ((⟨g, 0, none⟩ : Addr).add j) = some z := by
        intro j z hz
        have ha : (⟨g, 0, none⟩ : Addr).add j = ⟨g, j, none⟩ := by unfold Addr.add; split <;> simp_all
        rw [ha]
        exact hcell g (by simp [Value.ownBlock]) j z hz
      have hr := Lib.run_append_grow_string (P := P) W t u o.type e i0 (.int .u8 0) ht hu hi hz0 ⟨g, 0, none⟩ xs.length cap (nums .u8 xs) (by rw [hz1, hxl, Nat.mul_one]) holds y (by omega) (by omega) (by rw [hz2]; exact growslice_fits (by omega) (by omega))
      have hge := grownCap_ge W (xs.length + y.size) cap e
      have hcm2 : grownCap W (xs.length + y.size) cap e ≤ maxLen := grownCap_le_maxLen W (xs.length + y.size) cap e (by simp only [maxLen]; omega)
      refine fin _ _ hr ⟨fun k _ => hok k, .inr ⟨W.heap.size, _, _, (0, 0), by rw [hl2], hbase, heap_alloc_new W.drew _, .inl rfl, by rw [hl2]; exact hge, hcm2, ?_, ?_⟩⟩ ⟨rfl, rfl, rfl, by simp, fun k hk _ => heap_alloc_old W.drew _ hk⟩
      · have hz1' : (Value.int IntKind.u8 0).cells.size = 1 := rfl
        simp only [Array.size_append, List.size_toArray, size_zeroCells, hz1', hxl, Lib.strCells_length]
        omega
      · have hlen : (nums .u8 xs ++ Lib.strCells y).length = (xs ++ bytesOf y).length := by rw [List.length_append, hxl, Lib.strCells_length, hl2]
        simp only [Array.toList_append, List.append_assoc]
        rw [← List.append_assoc, ← hlen, hcn]
        exact List.take_left
theorem Kd.Z_append_str0 {w0 W : World} (base : Nat) (hgd : o.guard = none) (s x : Operand) (t u e : TypeId)
    (ho : o.op = .call { callee := .builtin .append, args := #[s, x], argTypes := #[t, u] })
    (ht : P.underlying t = some (.slice e)) (hu : P.underlying u = some .string) (hinfo : (P.info? e).map (fun i => (i.zero, i.size, i.bytes)) = some (some (.int .u8 0), 1, 1))
    (v : Value) (xs : List Int) (y : ByteArray) (hs : a.eval s = v) (hx : a.eval x = .string y)
    (HO : Kd.Z (Kd.int .u8) e W base (fun _ => True) v xs) (HB : Below base w0 W) (hbase : base ≤ W.heap.size) (hl : xs.length + y.size ≤ 140737488355328)
    (h : ∀ v1 w1, Kd.Z (Kd.int .u8) e w1 base (fun _ => True) v1 (xs ++ bytesOf y) → Below base w0 w1 → W.grownBy w1 v.ownBlock → wpList P ops Q rest (a.put o.dst v1) w1) : wpList P ops Q (o :: rest) a W :=
  Kd.Z_append_str (Kd.int .u8) base hgd s x t u e ho ht hu hinfo v xs y hs hx HO (fun _ => trivial) HB hbase hl h
end
section
variable {e g n cap : Nat} {W : World} {base : Nat} {ok : Nat → Prop} {xs : List Int} {A : Option Addr}
theorem Kd.Z_reads' {d : Kd Int} {c : Nat} (h : Kd.Z d e W base ok (.slice A n c) xs) : n = xs.length ∧ n ≤ c ∧ (Kd.int .u8).C W A xs.length xs := by
  obtain ⟨A', c', hv, hle, hC⟩ := Kd.Z_reads h
  injection hv with h1 h2 h3
  subst h1; subst h2; subst h3
  exact ⟨rfl, hle, hC⟩
theorem Kd.Z_form {d : Kd Int} {v : Value} (h : Kd.Z d e W base ok v xs) (hp : 0 < xs.length) : ∃ g cap, v = .slice (some ⟨g, 0, none⟩) xs.length cap ∧ base ≤ g ∧ g < W.heap.size ∧ ∃ cells fz, W.heap[g]? = some (.cells cells e fz) := by
  have hl := Kd.Z_lt h
  rcases h.2 with ⟨_, rfl⟩ | ⟨g, cap, cur, fz, rfl, hb, hg, _⟩
  · simp at hp
  · exact ⟨g, cap, rfl, hb, hl g (by simp [Value.ownBlock]), cur, fz, hg⟩
theorem Kd.Z_celln {d : Kd Int} (z : Int) (h : Kd.Z d e W base ok (.slice (some ⟨g, 0, none⟩) n cap) xs) (i : Int) (h0 : 0 ≤ i) (hi : i < n) : W.cell? ⟨g, i.toNat, none⟩ = some (.int .u8 (rdOf z xs i)) ∧ W.frozen? ⟨g, i.toNat, none⟩ = false := by
  obtain ⟨rfl, _⟩ := Kd.Z_reads' h
  have hl : i.toNat < xs.length := by omega
  refine ⟨Kd.Z_cells h (g := g) (by simp [Value.ownBlock]) i.toNat _ (by simp [nums, rdOf, List.getElem?_eq_getElem hl, List.getD_eq_getElem?_getD]), ?_⟩
  rcases h.2 with ⟨hv, _⟩ | ⟨g', cap', cur, fz, hv, hb, hg, hfz, hn, hcm, hcs, ht⟩
  · cases hv
  · injection hv with h1 _ h3
    injection h1 with h1
    injection h1 with h1
    subst h1
    simp only [World.frozen?, hg, Bool.and_eq_false_iff, decide_eq_false_iff_not]
    rcases hfz with rfl | hfz
    · right; simp
    · left; omega
theorem Kd.Z_putn {d : Kd Int} (h : Kd.Z d e W base ok (.slice (some ⟨g, 0, none⟩) n cap) xs) (i : Int) (x : Int) : Kd.Z d e (W.setCell ⟨g, i.toNat, none⟩ (.int .u8 x)) base ok (.slice (some ⟨g, 0, none⟩) n cap) (xs.set i.toNat x) := by
  obtain ⟨rfl, _⟩ := Kd.Z_reads' h
  refine ⟨h.1, ?_⟩
  rcases h.2 with ⟨hv, _⟩ | ⟨g', cap', cur, fz, hv, hb, hg, hfz, hn, hcm, hcs, ht⟩
  · cases hv
  · injection hv with h1 _ h3
    injection h1 with h1
    injection h1 with h1
    subst h1; subst h3
    refine .inr ⟨g, cap, cur.setIfInBounds i.toNat (.int .u8 x), fz, by rw [List.length_set], hb, ?_, hfz, by rw [List.length_set]; exact hn, hcm, by simpa using hcs, ?_⟩
    · simp [World.setCell, Array.getElem?_modify, hg]
    · rw [List.length_set, Array.toList_setIfInBounds, List.take_set, ht]
      simp [nums, List.map_set]
theorem Kd.Z_putg {d : Kd Int} (h : Kd.Z d e W base ok (.slice (some ⟨g, 0, none⟩) n cap) xs) (i : Int) (x : Int) : Kd.Z d e (W.setCell ⟨g, i.toNat, none⟩ (.int .u8 x)) base ok (.slice (some ⟨g, 0, none⟩) n cap) (xs.set i.toNat x) ∧ W.grownBy (W.setCell ⟨g, i.toNat, none⟩ (.int .u8 x)) (some g) :=
  ⟨Kd.Z_putn h i x, ⟨rfl, rfl, rfl, by simp [World.setCell], fun k _ hk => Below.heap_setCell _ _ _ _ (fun q => hk (by simp [q]))⟩⟩
end
end Go.Proofs.YthdfokebbcheoaaW.PrintShort
