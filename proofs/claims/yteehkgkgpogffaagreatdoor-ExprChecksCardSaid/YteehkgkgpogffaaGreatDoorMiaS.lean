import Derived.Calls
import Derived.Laws.Sem
set_option linter.unusedSimpArgs false
set_option linter.unusedVariables false
set_option linter.unusedSectionVars false
namespace Go.Mia
open Go

section
variable {P : Program} {fr : Frame} {cs : List Frame} {w : World} {k : List Item}

theorem st_skip (hm : fr.mode = .run) (ht : fr.todo = .code .skip :: k) : step P (lone fr cs w) = .next (lone { fr with todo := k } cs w) :=
  step_lone_go (by simp [stepG, stepG.exec, hm, ht])
theorem st_label {l : Nat} (hm : fr.mode = .run) (ht : fr.todo = .code (.label l) :: k) : step P (lone fr cs w) = .next (lone { fr with todo := k } cs w) :=
  step_lone_go (by simp [stepG, stepG.exec, hm, ht])
theorem st_inBlock {l : Nat} (hm : fr.mode = .run) (ht : fr.todo = .inBlock l :: k) : step P (lone fr cs w) = .next (lone { fr with todo := k } cs w) :=
  step_lone_go (by simp [stepG, stepG.exec, hm, ht])
theorem st_inScope {c : Code} (hm : fr.mode = .run) (ht : fr.todo = .inScope c :: k) : step P (lone fr cs w) = .next (lone { fr with todo := k } cs w) :=
  step_lone_go (by simp [stepG, stepG.exec, hm, ht])
theorem st_seq {a b : Code} (hm : fr.mode = .run) (ht : fr.todo = .code (.seq a b) :: k) : step P (lone fr cs w) = .next (lone { fr with todo := .code a :: .code b :: k } cs w) :=
  step_lone_go (by simp [stepG, stepG.exec, hm, ht])
theorem st_cond {c : Operand} {a b : Code} {t : Bool} (hm : fr.mode = .run) (ht : fr.todo = .code (.cond c a b) :: k) (hc : fr.eval c = .bool t) : step P (lone fr cs w) = .next (lone { fr with todo := .code (if t then a else b) :: k } cs w) :=
  step_lone_go (by simp [stepG, stepG.exec, hm, ht, hc])
theorem st_block {id : Nat} {c : Code} (hm : fr.mode = .run) (ht : fr.todo = .code (.block id c) :: k) : step P (lone fr cs w) = .next (lone { fr with todo := .code c :: .inBlock id :: k } cs w) :=
  step_lone_go (by simp [stepG, stepG.exec, hm, ht])
theorem st_loop {c : Code} (hm : fr.mode = .run) (ht : fr.todo = .code (.loop c) :: k) : step P (lone fr cs w) = .next (lone { fr with todo := .code c :: .inLoop c :: k } cs w) :=
  step_lone_go (by simp [stepG, stepG.exec, hm, ht])
theorem st_inLoop {c : Code} (hm : fr.mode = .run) (ht : fr.todo = .inLoop c :: k) : step P (lone fr cs w) = .next (lone { fr with todo := .code c :: .inLoop c :: k } cs w) :=
  step_lone_go (by simp [stepG, stepG.exec, hm, ht])
theorem st_scope {c : Code} (hm : fr.mode = .run) (ht : fr.todo = .code (.scope c) :: k) : step P (lone fr cs w) = .next (lone { fr with todo := .code c :: .inScope c :: k } cs w) :=
  step_lone_go (by simp [stepG, stepG.exec, hm, ht])
theorem st_exit {id : Nat} {k' : List Item} (hm : fr.mode = .run) (ht : fr.todo = .code (.exit id) :: k) (hx : exitTo id k = some k') : step P (lone fr cs w) = .next (lone { fr with todo := k' } cs w) :=
  step_lone_go (by simp [stepG, stepG.exec, hm, ht, hx])
theorem st_ret (hm : fr.mode = .run) (ht : fr.todo = .code .ret :: k) (hr : fr.roundOf = none) : step P (lone fr cs w) = .next (lone { fr with mode := .returning } cs w) :=
  step_lone_go (by simp [stepG, stepG.exec, hm, ht, hr])
theorem st_end (hm : fr.mode = .run) (ht : fr.todo = []) (hr : fr.roundOf = none) : step P (lone fr cs w) = .next (lone { fr with mode := .returning } cs w) :=
  step_lone_go (by simp [stepG, stepG.exec, hm, ht, hr])
theorem st_region {id : Nat} {ops : Array Oper} (hm : fr.mode = .run) (ht : fr.todo = .code (.region id ops false) :: k) : step P (lone fr cs w) = .next (lone { fr with todo := .inRegion ops (List.range ops.size) :: k } cs w) :=
  step_lone_go (by simp [stepG, stepG.exec, hm, ht])
theorem st_region_draw {id : Nat} {ops : Array Oper} (hm : fr.mode = .run) (ht : fr.todo = .code (.region id ops true) :: k) :
    step P (lone fr cs w) = .next (lone { fr with todo := .inRegion ops (Region.schedule (P.follows .mixedOrders) ops (w.tape w.drawn (.order fr.fn id))) :: k } cs { w with drawn := w.drawn + 1 }) :=
  step_lone_go (by simp [stepG, stepG.exec, hm, ht, choose, Sem.run, Question.forced, Question.cut])
theorem st_region_end {ops : Array Oper} (hm : fr.mode = .run) (ht : fr.todo = .inRegion ops [] :: k) : step P (lone fr cs w) = .next (lone { fr with todo := k } cs w) :=
  step_lone_go (by simp [stepG, stepG.exec, hm, ht])
theorem st_op_skip {ops : Array Oper} {i : Nat} {rest : List Nat} (hm : fr.mode = .run) (ht : fr.todo = .inRegion ops (i :: rest) :: k) (h : ((ops[i]?).map (Region.wanted · (yielded ops fr.tmps))).getD false = false) :
    step P (lone fr cs w) = .next (lone (fr.finish undef) cs w) :=
  step_lone_go (by simp [stepG, stepG.exec, hm, ht, h])

/-- what an operation that may be done does -/
theorem stepG_op' {ops : Array Oper} {i : Nat} {rest : List Nat} {o : Oper} (hm : fr.mode = .run) (ht : fr.todo = .inRegion ops (i :: rest) :: k) (ho : ops[i]? = some o) (hw : Region.wanted o (yielded ops fr.tmps) = true)
    (hr : fr.roundOf = none ∨ ∀ c, o.op ≠ .defer c) :
    stepG P true { frame := fr, callers := cs, status := .running, dying := none } w = stepG.apply P true fr cs none (execOp fr.eval o) w := by
  have hop : fr.oper? = some o := by simp [Frame.oper?, ht, ho]
  simp only [stepG, hm, stepG.exec, ht, ho, Option.map_some, Option.getD_some, hw, if_true, stepG.oper, hop]
  rcases hr with hr | hr
  · simp [hr]
  · split
    · rename_i l c h1 h2; exact absurd h2 (hr c)
    · rfl

theorem st_value {ops : Array Oper} {i : Nat} {rest : List Nat} {o : Oper} {x : Next} {v : Value} {w' : World} (hm : fr.mode = .run) (ht : fr.todo = .inRegion ops (i :: rest) :: k) (ho : ops[i]? = some o) (hw : Region.wanted o (yielded ops fr.tmps) = true)
    (hr : fr.roundOf = none ∨ ∀ c, o.op ≠ .defer c) (hx : (execOp fr.eval o).run P w = .ok x w') (hv : x = .value v ∨ (x = .skip ∧ v = undef)) :
    step P (lone fr cs w) = .next (lone (fr.finish v) cs w') :=
  step_lone_go (by
    rw [stepG_op' hm ht ho hw hr]
    rcases hv with rfl | ⟨rfl, rfl⟩ <;> simp [stepG.apply, Sem.runT_eq, hx])

theorem st_enter {ops : Array Oper} {i : Nat} {rest : List Nat} {o : Oper} {f : FuncId} {args : Array Value} {w' : World} (hm : fr.mode = .run) (ht : fr.todo = .inRegion ops (i :: rest) :: k) (ho : ops[i]? = some o) (hw : Region.wanted o (yielded ops fr.tmps) = true)
    (hr : fr.roundOf = none ∨ ∀ c, o.op ≠ .defer c) (hx : (execOp fr.eval o).run P w = .ok (.enter f args) w') :
    step P (lone fr cs w) = .next (lone (Frame.enter P f args .normal) (fr :: cs) w') :=
  step_lone_go (by
    rw [stepG_op' hm ht ho hw hr]
    simp [stepG.apply, Sem.runT_eq, hx, ht])
theorem st_round {ops : Array Oper} {i : Nat} {rest : List Nat} {o : Oper} {l : Nat} {f : FuncId} {tmps : Array Value} {as bd : Code} {w' : World} (hm : fr.mode = .run) (ht : fr.todo = .inRegion ops (i :: rest) :: k) (ho : ops[i]? = some o) (hw : Region.wanted o (yielded ops fr.tmps) = true)
    (hr : fr.roundOf = none ∨ ∀ c, o.op ≠ .defer c) (hx : (execOp fr.eval o).run P w = .ok (.round l f tmps as bd) w') :
    step P (lone fr cs w) = .next (lone (Frame.round l f tmps as bd .normal) (fr :: cs) w') :=
  step_lone_go (by
    rw [stepG_op' hm ht ho hw hr]
    simp [stepG.apply, Sem.runT_eq, hx, ht])
theorem st_defer {ops : Array Oper} {i : Nat} {rest : List Nat} {o : Oper} {d : Deferred} {w' : World} (hm : fr.mode = .run) (ht : fr.todo = .inRegion ops (i :: rest) :: k) (ho : ops[i]? = some o) (hw : Region.wanted o (yielded ops fr.tmps) = true)
    (hr : fr.roundOf = none) (hx : (execOp fr.eval o).run P w = .ok (.defer d) w') :
    step P (lone fr cs w) = .next (lone ({ fr with defers := d :: fr.defers }.finish undef) cs w') :=
  step_lone_go (by
    rw [stepG_op' hm ht ho hw (.inl hr)]
    simp [stepG.apply, Sem.runT_eq, hx, ht])
theorem st_panic {ops : Array Oper} {i : Nat} {rest : List Nat} {o : Oper} {v : Value} {w' : World} (hm : fr.mode = .run) (ht : fr.todo = .inRegion ops (i :: rest) :: k) (ho : ops[i]? = some o) (hw : Region.wanted o (yielded ops fr.tmps) = true)
    (hr : fr.roundOf = none ∨ ∀ c, o.op ≠ .defer c) (hx : (execOp fr.eval o).run P w = .halt (.panic v) w') :
    step P (lone fr cs w) = .next (lone (fr.raise [{ v, recovered := false }]) cs w') :=
  step_lone_go (by
    rw [stepG_op' hm ht ho hw hr]
    simp [stepG.apply, Sem.runT_eq, hx, ht])
theorem st_recover {ops : Array Oper} {i : Nat} {rest : List Nat} {o : Oper} {w' : World} (hm : fr.mode = .run) (ht : fr.todo = .inRegion ops (i :: rest) :: k) (ho : ops[i]? = some o) (hw : Region.wanted o (yielded ops fr.tmps) = true)
    (hr : fr.roundOf = none) (hx : (execOp fr.eval o).run P w = .ok .recover w') :
    step P (lone fr cs w) = .next (match tryRecover fr cs with | some (v, cs') => lone (fr.finish v) cs' w' | none => lone (fr.finish .nilIface) cs w') := by
  cases htr : tryRecover fr cs with
  | none =>
    exact step_lone_go (by
      rw [stepG_op' hm ht ho hw (.inl hr)]
      simp [stepG.apply, Sem.runT_eq, hx, ht, hr, htr])
  | some p =>
    exact step_lone_go (by
      rw [stepG_op' hm ht ho hw (.inl hr)]
      simp [stepG.apply, Sem.runT_eq, hx, ht, hr, htr])
end
end Go.Mia
namespace Go.Mia
open Go

section
variable {P : Program} {fr : Frame} {cs : List Frame} {w : World} {k : List Item}

theorem run_getObj' {b : Nat} {o : Obj} (h : w.heap[b]? = some o) (hc : ∀ a e f, o ≠ .cells a e f) : (getObj b).run P w = .ok o w := by
  unfold getObj Sem.run
  cases o <;> simp only [h] <;> first | rfl | exact absurd rfl (hc _ _ _)
theorem run_setObj' {b : Nat} {o o' : Obj} (h : w.heap[b]? = some o) (hc : ∀ a e f, o ≠ .cells a e f) : (setObj b o').run P w = .ok () { w with heap := w.heap.setIfInBounds b o' } := by
  unfold setObj Sem.run
  cases o <;> simp only [h] <;> first | rfl | exact absurd rfl (hc _ _ _)

theorem run_callFunc {f : FuncId} {fn : Func} {c : Code} {args : Array Value} (hf : P.funcs[f]? = some fn) (hn : fn.name ≠ "runtime.NumGoroutine") (hb : fn.body = some c) : (callFunc f args).run P w = .ok (.enter f args) w := by
  simp [callFunc, hf, hn, hb]

/-- how a frame looks when its function has returned from a deferred call -/
def settleFrame (c : Frame) : Frame :=
  match c.mode with
  | .panicking ({ recovered := true, .. } :: older) =>
    match older.dropWhile (!·.goexit) with
    | [] => { c with mode := .returning }
    | rest => { c with mode := .panicking rest }
  | _ => c

theorem st_deferred {d : Deferred} {ds : List Deferred} {f : FuncId} {captured : Array Value} {fn : Func} {c : Code} (hm : fr.mode ≠ .run) (hd : fr.defers = d :: ds) (ht : d.target = .fn (.func f) captured) (hf : P.funcs[f]? = some fn) (hn : fn.name ≠ "runtime.NumGoroutine") (hb : fn.body = some c) :
    step P (lone fr cs w) = .next (lone (Frame.enter P f (d.args ++ captured) .deferred) ({ fr with defers := ds } :: cs) w) := by
  have hrun := run_callFunc (P := P) (w := w) (args := d.args ++ captured) hf hn hb
  obtain ⟨tg, ar⟩ := d
  simp only at ht
  subst ht
  refine step_lone_go ?_
  cases hmode : fr.mode with
  | run => exact absurd hmode hm
  | returning => simp [stepG, unwind, hmode, hd, callDeferred, invoke, Sem.runT_eq, hrun]
  | panicking ch => simp [stepG, unwind, hmode, hd, callDeferred, invoke, Sem.runT_eq, hrun]

theorem st_collected {b : Nat} {ar : Array Value} {ds calls : List Deferred} (hm : fr.mode ≠ .run) (hd : fr.defers = { target := .collected b, args := ar } :: ds) (hb : w.heap[b]? = some (.deferred (some calls))) :
    step P (lone fr cs w) = .next (lone { fr with defers := calls ++ ds } cs { w with heap := w.heap.setIfInBounds b (.deferred none) }) := by
  have hrun : (Instr.takeDeferred b).run P w = .ok calls { w with heap := w.heap.setIfInBounds b (.deferred none) } := by
    simp [Instr.takeDeferred, run_getObj' hb (by simp), run_setObj' hb (by simp)]
  refine step_lone_go ?_
  cases hmode : fr.mode with
  | run => exact absurd hmode hm
  | returning => simp [stepG, unwind, hmode, hd, Sem.runT_eq, hrun]
  | panicking ch => simp [stepG, unwind, hmode, hd, Sem.runT_eq, hrun]

theorem st_return {fn : Func} {v : Value} {w' : World} {c : Frame} (hm : fr.mode = .returning) (hd : fr.defers = []) (hf : P.funcs[fr.fn]? = some fn) (hr : (results fn fr.tmps).run P w = .ok v w') (hk : fr.kind = .normal) :
    step P (lone fr (c :: cs) w) = .next (lone (c.finish v) cs w') :=
  step_lone_go (by simp [stepG, unwind, doReturn, hm, hd, hk, hf, Sem.runT_eq, hr])

theorem st_return_deferred {fn : Func} {v : Value} {w' : World} {c : Frame} (hm : fr.mode = .returning) (hd : fr.defers = []) (hf : P.funcs[fr.fn]? = some fn) (hr : (results fn fr.tmps).run P w = .ok v w') (hk : fr.kind = .deferred) :
    step P (lone fr (c :: cs) w) = .next (lone (settleFrame c) cs w') :=
  step_lone_go (by
    simp only [stepG, unwind, doReturn, hm, hd, hk, hf, Sem.runT_eq, hr]
    unfold settleFrame
    rfl)

theorem st_raise {fn : Func} {c : Frame} {chain : List PanicEntry} (hm : fr.mode = .panicking chain) (hd : fr.defers = []) (hf : P.funcs[fr.fn]? = some fn) :
    step P (lone fr (c :: cs) w) = .next (lone (c.raise chain) cs w) :=
  step_lone_go (by simp [stepG, unwind, Frame.catches, hm, hd, hf])

theorem run_endRound {l : Nat} {jump : Option Code} {r : Loop} (hl : w.heap[l]? = some (.loop r)) :
    (Instr.endRound l jump).run P w = .ok (.bool jump.isNone) { w with heap := w.heap.setIfInBounds l (.loop { r with state := if jump.isNone then .ready else .done, pending := jump }) } := by
  cases jump <;> simp [Instr.endRound, Instr.getLoop, run_getObj' hl (by simp), run_setObj' hl (by simp)]

theorem st_leave_round {l : Nat} {r : Loop} {jump : Option Code} {c : Frame} (hm : fr.mode = .run) (hk : fr.kind = .normal) (hr : fr.roundOf = some l) (hl : w.heap[l]? = some (.loop r))
    (ht : (fr.todo = [] ∧ jump = none) ∨ (∃ k, fr.todo = .code .ret :: k ∧ jump = some .ret) ∨ (∃ id k, fr.todo = .code (.exit id) :: k ∧ exitTo id k = none ∧ jump = some (.exit id))) :
    step P (lone fr (c :: cs) w) = .next (lone (c.finish (.bool jump.isNone)) cs { w with heap := w.heap.setIfInBounds l (.loop { r with state := if jump.isNone then .ready else .done, pending := jump }) }) := by
  have hrun := run_endRound (P := P) (jump := jump) hl
  refine step_lone_go ?_
  rcases ht with ⟨ht, rfl⟩ | ⟨k, ht, rfl⟩ | ⟨id, k, ht, hx, rfl⟩
  · simp [stepG, stepG.exec, hm, ht, hr, Sem.runT_eq, hrun, doReturn, hk] at hrun ⊢
  · simp [stepG, stepG.exec, hm, ht, hr, Sem.runT_eq, hrun, doReturn, hk] at hrun ⊢
  · simp [stepG, stepG.exec, hm, ht, hx, hr, Sem.runT_eq, hrun, doReturn, hk] at hrun ⊢

theorem st_beginRound {l : Nat} {r : Loop} (hm : fr.mode = .run) (hr : fr.roundOf = some l) (ht : fr.todo = .beginRound :: k) (hl : w.heap[l]? = some (.loop r)) (hs : r.state = .ready) :
    step P (lone fr cs w) = .next (lone { fr with todo := k } cs { w with heap := w.heap.setIfInBounds l (.loop { r with state := .busy }) }) := by
  have hrun : (Instr.beginRound l).run P w = .ok () { w with heap := w.heap.setIfInBounds l (.loop { r with state := .busy }) } := by
    simp [Instr.beginRound, Instr.getLoop, run_getObj' hl (by simp), run_setObj' hl (by simp), hs]
  exact step_lone_go (by simp [stepG, stepG.exec, hm, ht, hr, stepG.apply, Sem.runT_eq, hrun, Frame.finish])

theorem st_endRangeFunc {l : Nat} {r : Loop} (hm : fr.mode = .run) (ht : fr.todo = .endRangeFunc l :: k) (hl : w.heap[l]? = some (.loop r)) (hs : r.state ≠ .busy) :
    step P (lone fr cs w) = .next (lone { fr with todo := (r.pending.map Item.code).toList ++ k } cs { w with heap := w.heap.setIfInBounds l (.loop { r with state := .exhausted }) }) := by
  have hrun : (Instr.endLoop l).run P w = .ok r.pending { w with heap := w.heap.setIfInBounds l (.loop { r with state := .exhausted }) } := by
    simp [Instr.endLoop, Instr.getLoop, run_getObj' hl (by simp), run_setObj' hl (by simp), hs]
  exact step_lone_go (by simp [stepG, stepG.exec, hm, ht, Sem.runT_eq, hrun])

/-- a loop over a function begins -/
theorem st_rangeFunc {f : Operand} {params : Array Tmp} {as bd : Code} {g : FuncId} {first captured : Array Value} {fn : Func} {c : Code} (hm : fr.mode = .run) (hr : fr.roundOf = none) (ht : fr.todo = .code (.rangeFunc f params as bd) :: k)
    (hv : fr.eval f = .func (.func g) first captured) (hf : P.funcs[g]? = some fn) (hn : fn.name ≠ "runtime.NumGoroutine") (hb : fn.body = some c) :
    step P (lone fr cs w) = .next (lone (Frame.enter P g (first.push (.func (.yield (w.heap.size + 1)) #[] #[]) ++ captured) .normal)
      ({ fr with todo := .inRangeFunc (w.heap.size + 1) :: k, defers := { target := .collected w.heap.size, args := #[] } :: fr.defers } :: cs)
      { w with heap := (w.heap.push (.deferred (some []))).push (.loop { state := .ready, pending := none, fn := fr.fn, tmps := fr.tmps, params, assign := as, body := bd, defers := w.heap.size }) }) := by
  have hloop : (Instr.enterLoop fr.fn fr.tmps params as bd none).run P w = .ok (w.heap.size + 1, [{ target := .collected w.heap.size, args := #[] }])
      { w with heap := (w.heap.push (.deferred (some []))).push (.loop { state := .ready, pending := none, fn := fr.fn, tmps := fr.tmps, params, assign := as, body := bd, defers := w.heap.size }) } := by
    simp [Instr.enterLoop]
  have hcall := run_callFunc (P := P) (args := first.push (.func (.yield (w.heap.size + 1)) #[] #[]) ++ captured) (w := { w with heap := (w.heap.push (.deferred (some []))).push (.loop { state := .ready, pending := none, fn := fr.fn, tmps := fr.tmps, params, assign := as, body := bd, defers := w.heap.size }) }) hf hn hb
  refine step_lone_go ?_
  have hev : ∀ t d, ({ fn := fr.fn, tmps := fr.tmps, todo := t, defers := d, mode := .run, kind := fr.kind } : Frame).eval = fr.eval := fun t d => by funext x; cases x <;> rfl
  have hc : fr.eval (.const (.func (.yield (w.heap.size + 1)) #[] #[])) = .func (.yield (w.heap.size + 1)) #[] #[] := rfl
  simp [stepG, stepG.exec, hm, ht, hr, Sem.runT_eq, hloop, stepG.apply, hev, resolve, hv, hc, Deferred.ofValue, invoke, hcall]
end
end Go.Mia
