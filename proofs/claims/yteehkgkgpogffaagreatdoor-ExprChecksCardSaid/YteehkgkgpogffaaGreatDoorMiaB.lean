import Derived.Laws.IdiomStrings
import Derived.Laws.MakeOwn
import Derived.Laws.Tables
import Derived.Test.YteehkgkgpogffaaGreatDoorMiaA
set_option linter.unusedSimpArgs false
set_option linter.unusedVariables false
set_option linter.unusedSectionVars false
namespace Go.Mia
open Go

def updβ (β : Nat → Nat → Option Nat) (d i b : Nat) : Nat → Nat → Option Nat := fun d' i' => if d' = d ∧ i' = i then some b else β d' i'

/-- no right but that of a slice without room -/
def PlainTk : D → Prop
  | .slice .full _ _ | .slice .none _ _ => True
  | .slice _ _ _ => False
  | _ => True

theorem OwnOk.plain {k : K} {h : Hold} {v : Value} {d : D} (hp : PlainTk d) (hs : k.sp h = none) : OwnOk k h v d := by
  unfold OwnOk
  split <;> simp_all [PlainTk]

theorem degr1_plain (d : D) : PlainTk d.degr1 := by cases d <;> trivial
theorem fullOr_plain (d : D) : PlainTk (fullOr d) := by
  cases d with
  | slice tk s xs => cases tk <;> trivial
  | _ => trivial
theorem fullOr_cells {d : D} (h : d.cells = [d]) : (fullOr d).cells = [fullOr d] := by
  cases d with
  | slice tk s xs => cases tk <;> rfl
  | agg cs => exact h
  | _ => rfl
theorem fullOr_upto (n : Nat) (d : D) : (fullOr d).upto n = d.upto n := by
  cases d with
  | slice tk s xs => cases tk <;> rfl
  | _ => rfl
theorem fullOr_rep {k : K} {v : Value} {d : D} (h : Rep k v d) : Rep k v (fullOr d) := by
  cases d with
  | slice tk s xs => cases tk <;> first | exact h | exact h.degr1
  | _ => exact h
theorem upto_val {n : Nat} {d : D} (h : d.upto n = true) : d.isVal = true := by cases d <;> simp_all [D.upto, D.isVal]
theorem uptos_mem {n : Nat} {ds : List D} (h : D.uptos n ds = true) : ∀ d ∈ ds, d.upto n = true := fun d hd => by
  obtain ⟨j, hj⟩ := List.getElem?_of_mem hd; exact uptos_get h j d hj
theorem upto_cells {n : Nat} {d : D} (h : d.upto n = true) : ∀ c ∈ d.cells, c.upto n = true := by
  cases d with
  | agg cs => exact uptos_mem h
  | _ => intro c hc; simp [D.cells] at hc; subst hc; exact h

theorem not_self (cs : List D) : cs ≠ [D.agg cs] := by
  intro h
  have := congrArg SizeOf.sizeOf h
  simp at this
  omega
theorem one_of {k : K} {u : Value} {c : D} (hu : Rep k u c) (hc : c.cells = [c]) (hv : c.isVal = true) : u.oneCell' = true := by
  cases hu <;> first | rfl | (simp [D.isVal] at hv; done) | (exact absurd hc (not_self _))
/-- the cells of a value, in memory and in the reading -/
theorem Rep.cells {k : K} {v : Value} {d : D} (h : Rep k v d) (hv : d.isVal = true) : Reps k v.cells.toList d.cells ∧ (∀ c ∈ d.cells, c.cells = [c]) ∧ (∀ u ∈ v.cells.toList, u.oneCell' = true) := by
  have single : v.cells = #[v] → d.cells = [d] → Reps k v.cells.toList d.cells ∧ (∀ c ∈ d.cells, c.cells = [c]) ∧ (∀ u ∈ v.cells.toList, u.oneCell' = true) := by
    intro e1 e2
    rw [e1, e2]
    refine ⟨.cons h .nil, ?_, ?_⟩
    · intro c hc; simp at hc; subst hc; exact e2
    · intro u hu; simp at hu; subst hu; exact one_of h e2 hv
  cases h with
  | agg vs hl h1 hr =>
    simp only [Value.cells, D.cells]
    refine ⟨⟨hl, hr⟩, fun c hc => (h1 c hc).1, fun u hu => ?_⟩
    obtain ⟨j, hj⟩ := List.getElem?_of_mem hu
    have hlt : j < vs.length := (List.getElem?_eq_some_iff.1 (by simpa using hj)).1
    have hd := List.getElem?_eq_getElem (show j < _ by rw [← hl]; exact hlt)
    have := hr j _ hd
    have hu' : vs.getD j Go.undef = u := by
      have hj' : vs[j]? = some u := by first | exact hj | simpa using hj
      rw [List.getD_eq_getElem?_getD, hj']; rfl
    rw [hu'] at this
    have hm := h1 _ (List.getElem_mem (by rw [← hl]; exact hlt))
    exact one_of this hm.1 hm.2
  | undef v => simp [D.isVal] at hv
  | tup vs hl hr => simp [D.isVal] at hv
  | _ => exact single rfl rfl


section
variable {P : Program} {pol : Pol} {k : K} {δ j : Nat} {st : St} {B T : Nat → Prop} {a : Act} {o : Oper} (L : Loc P pol k δ j st B T)
include L

/-- A box is made. -/
theorem chg_newBox {w0 : World} (hw : w0.heap = k.w.heap ∧ w0.os = k.w.os ∧ w0.tape = k.w.tape ∧ w0.output = k.w.output) {cs : Array Value} {e : TypeId} {fr : Nat × Nat} {ds : List D} {sp' : Hold → Option (Nat × Nat)} {live' : Nat → Bool}
    (hl : ds.length ≤ cs.size) (hz : ∀ j, j < cs.size → ¬ (fr.1 ≤ j ∧ j < fr.2)) (hr : ∀ (i : Nat) (x : D), ds[i]? = some x → Rep k (cs.getD i undef) x) (h1 : ∀ d ∈ ds, d.cells = [d] ∧ d.upto δ = true)
    (c1 : ∀ h r, sp' h = some r → ∃ h0, k.sp h0 = some r) (c2 : ∀ h h' b o o', sp' h = some (b, o) → sp' h' = some (b, o') → h = h') (c3 : ∀ d t, d ≠ δ → sp' (.tok d t) = k.sp (.tok d t))
    (c4 : ∀ d i off, ¬ (d = δ ∧ i = st.m + j) → sp' (.cell d i off) = k.sp (.cell d i off))
    (c5 : ∀ t, t ≠ st.nt + j → live' t = true → st.live t = true ∧ sp' (.tok δ t) = k.sp (.tok δ t))
    (c6 : ∀ t, t ≠ st.nt + j → live' t = false → k.sp (.tok δ t) = none ∨ st.live t = true → sp' (.tok δ t) = none)
    (c8 : ∀ t, t ≠ st.nt + j → st.live t = false → sp' (.tok δ t) = k.sp (.tok δ t))
    (c7 : ∀ (i : Nat) (x : D), ds[i]? = some x → OwnOk ⟨push w0 (.cells cs e fr), updβ k.β δ (st.m + j) k.w.heap.size, sp'⟩ (.cell δ (st.m + j) i) (cs.getD i undef) x) :
    Chg P pol δ j st { st with S := upd2 st.S δ (st.m + j) (.cells ds), live := live' } k ⟨push w0 (.cells cs e fr), updβ k.β δ (st.m + j) k.w.heap.size, sp'⟩ := by
  have hstep : ∀ low, low ≤ δ → Step δ low k ⟨push w0 (.cells cs e fr), updβ k.β δ (st.m + j) k.w.heap.size, sp'⟩ := by
    intro low hlow
    refine push_step hw ?_ ?_ ?_ ?_ ?_ L.good.lt
    · intro d i b hb
      unfold updβ; split
      · rename_i h; rw [h.1, h.2, L.fb] at hb; cases hb
      · exact hb
    · intro d i b hb
      unfold updβ at hb; split at hb
      · rename_i h; injection hb with hb; exact .inr ⟨hb.symm, by omega⟩
      · exact .inl hb
    · intro h b o ho; obtain ⟨h0, hh⟩ := c1 h _ ho; exact .inr ⟨h0, o, hh, Nat.le_refl _⟩
    · intro d i off hd; exact c4 d i off (by omega)
    · intro d t hd; exact c3 d t (by omega)
  have E := (hstep 0 (Nat.zero_le _)).ext
  refine { ext := fun low h _ => (hstep low h).ext, low := Nat.le_refl _, good := ?_, β := ?_, store := ?_, now := .inl ⟨rfl, c4, fun d i b hb => by rw [push_old _ _ (by rw [hw.1]; exact L.good.lt _ _ _ hb), hw.1], rfl⟩, tok := c5, dead := c6, tokf := c8, other := ?_, lv := ?_, tks := c3, m := rfl, nt := rfl, σ := rfl, pend := rfl, recd := rfl }
  · refine ⟨?_, ?_, ?_, c2, ?_, fun d i off r hr => ?cb⟩
    case cb =>
      by_cases h : d = δ ∧ i = st.m + j
      · exact ⟨k.w.heap.size, by simp [updβ, h]⟩
      · have hr' : sp' (.cell d i off) = some r := hr
        rw [c4 d i off h] at hr'
        obtain ⟨b, hb⟩ := L.good.cb d i off r hr'
        exact ⟨b, by simp [updβ, h, hb]⟩
    · intro d i d' i' b hb hb'
      simp only [updβ] at hb hb'
      split at hb <;> split at hb'
      · rename_i h h'; exact ⟨by omega, by omega⟩
      · injection hb with hb; have := L.good.lt _ _ _ hb'; omega
      · injection hb' with hb'; have := L.good.lt _ _ _ hb; omega
      · exact L.good.inj _ _ _ _ _ hb hb'
    · intro d i b hb
      simp only [updβ] at hb
      show b < (push w0 _).heap.size
      rw [push_size, hw.1]
      split at hb
      · injection hb with hb; omega
      · have := L.good.lt _ _ _ hb; omega
    · intro h b o ho
      obtain ⟨h0, hh⟩ := c1 h _ ho
      show b < (push w0 _).heap.size
      rw [push_size, hw.1]
      have := L.good.splt _ _ _ hh; omega
    · intro d i b h o hb ho
      obtain ⟨h0, hh⟩ := c1 h _ ho
      simp only [updβ] at hb
      split at hb
      · injection hb with hb; have := L.good.splt _ _ _ hh; omega
      · exact L.good.disj _ _ _ _ _ hb hh
  · intro d i hne; simp [updβ, hne]
  · intro d i b hb
    by_cases h : d = δ ∧ i = st.m + j
    · right
      obtain ⟨rfl, rfl⟩ := h
      simp only [updβ, and_self, if_true] at hb
      injection hb with hb
      subst hb
      simp only [upd2, and_self, if_true]
      refine ⟨cs, e, fr, ?_, hl, hz, fun i x hx => ⟨(hr i x hx).later E.later, c7 i x hx, h1 x (List.mem_of_getElem? hx)⟩⟩
      show (push w0 _).heap[k.w.heap.size]? = _
      rw [← hw.1]; exact push_new _ _
    · left
      simp only [updβ, if_neg h] at hb
      refine ⟨by simp [upd2, h], hb, ?_, fun off => c4 d i off h⟩
      show (push w0 _).heap[b]? = _
      rw [push_old _ _ (by rw [hw.1]; exact L.good.lt _ _ _ hb), hw.1]
  · intro h h1 h2
    cases h with
    | tok d t => by_cases e : d = δ
                 · subst e; exact absurd rfl (h1 t)
                 · exact c3 d t e
    | cell d i off => exact absurd rfl (h2 d i off)
  · intro d i off hd; exact c4 d i off (by omega)

theorem does_newBox {w0 : World} (hw : w0.heap = k.w.heap ∧ w0.os = k.w.os ∧ w0.tape = k.w.tape ∧ w0.output = k.w.output) {cs : Array Value} {e : TypeId} {fr : Nat × Nat} {ds : List D}
    (hl : ds.length ≤ cs.size) (hz : ∀ j, j < cs.size → ¬ (fr.1 ≤ j ∧ j < fr.2)) (hr : ∀ (i : Nat) (x : D), ds[i]? = some x → Rep k (cs.getD i undef) x) (h1 : ∀ d ∈ ds, d.cells = [d] ∧ d.upto δ = true) (hp : ∀ d ∈ ds, PlainTk d)
    {v : Value} {d : D} (hrun : (execOp a.eval o).run P k.w = .ok (.value v) (push w0 (.cells cs e fr)))
    (hv : ∀ k' : K, k'.β δ (st.m + j) = some k.w.heap.size → Rep k' v d) (hd : ∀ tk s xs, d ≠ .slice tk s xs) :
    Does P pol a o δ j k st B T d { st with S := upd2 st.S δ (st.m + j) (.cells ds) } := by
  have C := chg_newBox L hw (e := e) (sp' := k.sp) (live' := st.live) hl hz hr h1 (fun h r hh => ⟨h, hh⟩) L.good.spinj (fun _ _ _ => rfl) (fun _ _ _ _ => rfl) (fun t _ h => ⟨h, rfl⟩)
    (fun t _ h h' => by
      rcases h' with h' | h'
      · exact h'
      · simp_all)
    (fun _ _ _ => rfl)
    (fun i x hx => .plain (hp x (List.mem_of_getElem? hx)) (L.fc i))
  refine ⟨_, v, _, hrun, .inl rfl, C, hv _ (by simp [updβ]), ?_, ?_, fun _ => L.ft⟩
  · unfold CellTk; split
    · rename_i e; exact absurd rfl (hd _ _ _)
    · rename_i e; exact absurd rfl (hd _ _ _)
    · rename_i e; exact absurd rfl (hd _ _ _)
    · trivial
  · unfold NameOk; split
    · exact absurd rfl (hd _ _ _)
    · exact absurd rfl (hd _ _ _)
    · trivial

theorem zeroT_ok {t : TypeId} {zs : List D} (h : zeroT P t = some zs) : ∃ i z, P.info? t = some i ∧ i.zero = some z ∧ z.cells.toList.length = zs.length ∧ ∀ (j : Nat) (d : D), zs[j]? = some d → LitOk k (z.cells.getD j undef) d := by
  unfold zeroT at h
  split at h
  · rename_i z ss hz hss
    simp only [Option.bind_eq_some_iff] at hz
    obtain ⟨i, hi, hz⟩ := hz
    obtain ⟨hl, hd⟩ := lits_ok (k := k) h
    refine ⟨i, z, hi, hz, hl, fun j d hd' => ?_⟩
    have := hd j d hd'
    simpa [List.getD_eq_getElem?_getD, Array.getD_eq_getD_getElem?] using this
  · simp at h

omit L in
theorem LitOk.plain {v : Value} {d : D} (h : LitOk k v d) : PlainTk d := by
  cases d with
  | slice tk s xs => have := (h.tk _ _ _ rfl).1; subst this; trivial
  | _ => trivial

theorem does_alloc {t : TypeId} {zs : List D} (ho : o.op = .alloc t) (hz : zeroT P t = some zs) :
    Does P pol a o δ j k st B T (.ptr δ (st.m + j) 0) { st with S := upd2 st.S δ (st.m + j) (.cells zs) } := by
  obtain ⟨i, z, hi, hzv, hl, hd⟩ := zeroT_ok L (k := k) hz
  refine does_newBox L (w0 := k.w) ⟨rfl, rfl, rfl, rfl⟩ (cs := z.cells) (e := t) (fr := (0, 0)) (ds := zs) (by simp at hl; omega) (by omega) (fun i x hx => (hd i x hx).rep) ?_ ?_ (v := .pointer (some ⟨k.w.heap.size, 0, none⟩)) ?_ (fun k' h => .ptr h) (by simp)
  · intro d hd'; obtain ⟨jj, hj⟩ := List.getElem?_of_mem hd'; exact ⟨(hd jj d hj).one, (hd jj d hj).up δ⟩
  · intro d hd'; obtain ⟨jj, hj⟩ := List.getElem?_of_mem hd'; exact LitOk.plain (hd jj d hj)
  · simp only [execOp, ho, Instr.alloc, zeroValue, typeInfo, Sem.run_bind, run_program, Result.andThen_ok, hi, hzv, Sem.run_pure, newVar, newRow, run_newObj]
    rfl

theorem fullOr_reps {k : K} {vs : List Value} {ds : List D} (h : Reps k vs ds) : Reps k vs (ds.map fullOr) := by
  refine ⟨by simpa using h.1, fun j d hd => ?_⟩
  simp only [List.getElem?_map, Option.map_eq_some_iff] at hd
  obtain ⟨c, hc, rfl⟩ := hd
  exact fullOr_rep (h.2 j c hc)

/-- what is laid into a box or a cell -/
theorem settle_cases (live : Nat → Bool) (d : D) : (∃ t s xs, d = .slice (.tok t) s xs ∧ live t = true ∧ settle live d = ([.slice .own s xs], upd live t false)) ∨ (settle live d = (d.cells.map fullOr, live)) := by
  cases d with
  | slice tk s xs =>
    cases tk with
    | tok t =>
      cases h : live t with
      | true => exact .inl ⟨t, s, xs, rfl, h, by simp [settle, h]⟩
      | false => exact .inr (by simp [settle, h, D.cells, fullOr])
    | _ => exact .inr rfl
  | _ => exact .inr rfl

theorem does_box {t tx : TypeId} {x : Operand} {x' : Opnd} (ho : o.op = .box t x) (hx : opnd P tx x = some x')
    (hs : ∀ s ∈ (IOp.box x').slots, Val k δ st B T (a.tmps.getD s undef) (st.σ s)) (hup : (ev st.σ x').upto δ = true) :
    Does P pol a o δ j k st B T (.ptr δ (st.m + j) 0) { st with S := upd2 st.S δ (st.m + j) (.cells (settle st.live (ev st.σ x')).1), live := (settle st.live (ev st.σ x')).2 } := by
  have vx := opnd_val (a := a) hx fun s h => hs s (by simpa [IOp.slots] using h)
  obtain ⟨hreps, hone, hoc⟩ := vx.rep.cells (upto_val hup)
  have hrun : (execOp a.eval o).run P k.w = .ok (.value (.pointer (some ⟨k.w.heap.size, 0, none⟩))) (push k.w (.cells (a.eval x).cells t)) := by
    simp only [execOp, ho, Instr.box, newVar, newRow, Sem.run_bind, run_newObj, Result.andThen_ok, Sem.run_pure]
    rfl
  rcases settle_cases L st.live (ev st.σ x') with ⟨t0, s0, xs, e, hlive, hset⟩ | hset
  · rw [hset]
    have hv := vx.rep
    have hvt := vx.tk
    have hvn := vx.name
    rw [e] at hv hvt hvn hreps
    obtain ⟨ad, cap, b, off, vs, r, _⟩ := Rep.inv_slice hv
    rw [r] at hv hvt hreps
    have held := hvt hlive
    let sp' := moveSp k.sp (.tok δ t0) (.cell δ (st.m + j) 0)
    have ht0 : t0 ≠ st.nt + j := fun e => L.nT (e ▸ hvn)
    have C := chg_newBox L (w0 := k.w) ⟨rfl, rfl, rfl, rfl⟩ (cs := (a.eval x).cells) (e := t) (fr := (0, 0)) (ds := [.slice .own s0 xs]) (sp' := sp') (live' := upd st.live t0 false)
      (by rw [r]; simp [Value.cells]) (by omega) (fun i y hy => by
        cases i with
        | zero => simp at hy; subst hy; rw [r]; simp [Value.cells]; exact (by cases hv with | slice b off vs hl hle hf he ha hc hr => exact .slice b off vs hl hle (by simp) he ha hc hr)
        | succ i => simp at hy)
      (by intro d hd; simp at hd; subst hd; exact ⟨rfl, rfl⟩) (fun h r hh => moveSp_some hh) (fun h h' b o o' h1 h2 => move_spinj L.good h h' b o o' h1 h2)
      (fun d t hd => by simp [sp', moveSp, hd]) (fun d i off hne => by
        simp only [sp', moveSp]
        rw [if_neg (by intro e; injection e with e1 e2; exact hne ⟨e1, e2⟩), if_neg (by simp)])
      (fun t' hne hl => by
        simp only [upd] at hl
        split at hl
        · simp at hl
        · rename_i hne'; exact ⟨hl, by simp [sp', moveSp, hne']⟩)
      (fun t' hne hl hor => by
        by_cases e' : t' = t0
        · simp [sp', moveSp, e']
        · simp only [upd, if_neg e'] at hl
          rcases hor with h | h
          · simp [sp', moveSp, e', h]
          · simp_all)
      (fun t' _ hl => by
        have e' : t' ≠ t0 := fun e => by rw [e, hlive] at hl; cases hl
        simp [sp', moveSp, e'])
      (fun i y hy => by
        cases i with
        | zero =>
          simp at hy; subst hy; rw [r]
          simp only [Value.cells]
          show HeldAt _ _ _ _ _ _
          have E := (push_step (δ := δ) (low := 0) (k := k) (o := .cells (Value.slice ad xs.length cap).cells t) (w := k.w) ⟨rfl, rfl, rfl, rfl⟩ (β' := k.β) (sp' := k.sp) (fun _ _ _ h => h) (fun _ _ _ h => .inl h) (fun h b o hh => .inr ⟨h, o, hh, Nat.le_refl _⟩) (fun _ _ _ h => by omega) (fun _ _ _ => rfl) L.good.lt).ext
          rcases held with ⟨b, o, h1, h2⟩ | ⟨h1, h2⟩
          · refine .inl ⟨b, o, by simp [sp', moveSp, h1], ?_⟩
            obtain ⟨f, q1, q2, cs, et, q3, q4⟩ := h2
            obtain ⟨cs', q5, q6⟩ := E.shape b cs et q3
            exact ⟨f, q1, q2, cs', et, q5, by omega⟩
          · exact .inr ⟨h1, by simp [sp', moveSp, h2]⟩
        | succ i => simp at hy)
    refine ⟨_, _, _, hrun, .inl rfl, C, .ptr (by simp [updβ]), trivial, trivial, fun _ => ?_⟩
    simp [sp', moveSp, L.ft]
  · rw [hset]
    have hfr := fullOr_reps L hreps
    refine does_newBox L (w0 := k.w) ⟨rfl, rfl, rfl, rfl⟩ (cs := (a.eval x).cells) (e := t) (fr := (0, 0)) (ds := (ev st.σ x').cells.map fullOr) (by have := hfr.1; simp at this; simp; omega) (by omega) (fun i y hy => ?_) ?_ ?_ hrun (fun k' h => .ptr h) (by simp)
    · have := hfr.2 i y hy
      simpa [List.getD_eq_getElem?_getD, Array.getD_eq_getD_getElem?] using this
    · intro d hd
      obtain ⟨c, hc, rfl⟩ := List.mem_map.1 hd
      exact ⟨fullOr_cells (hone c hc), by rw [fullOr_upto]; exact upto_cells hup c hc⟩
    · intro d hd
      obtain ⟨c, hc, rfl⟩ := List.mem_map.1 hd
      exact fullOr_plain c
end
end Go.Mia
namespace Go.Mia
open Go

section
variable {P : Program} {pol : Pol} {k : K} {δ j : Nat} {st : St} {B T : Nat → Prop} {a : Act} {o : Oper} (L : Loc P pol k δ j st B T)
include L

/-- A box's cells are written. -/
theorem chg_setRow {d i b : Nat} (hb : k.β d i = some b) {cs cs' : Array Value} {e : TypeId} {fr : Nat × Nat} (hg : k.w.heap[b]? = some (.cells cs e fr)) (hsz : cs'.size = cs.size) (hz : ∀ j, j < cs.size → ¬ (fr.1 ≤ j ∧ j < fr.2))
    {ds : List D} {sp' : Hold → Option (Nat × Nat)} {live' : Nat → Bool} (hl : ds.length ≤ cs.size) (hr : ∀ (i : Nat) (x : D), ds[i]? = some x → Rep k (cs'.getD i undef) x) (h1 : ∀ x ∈ ds, x.cells = [x] ∧ x.upto d = true)
    (c1 : ∀ h r, sp' h = some r → ∃ h0, k.sp h0 = some r) (c2 : ∀ h h' b o o', sp' h = some (b, o) → sp' h' = some (b, o') → h = h') (c3 : ∀ d t, d ≠ δ → sp' (.tok d t) = k.sp (.tok d t))
    (c4 : ∀ d' i' off, ¬ (d' = d ∧ i' = i) → sp' (.cell d' i' off) = k.sp (.cell d' i' off))
    (c5 : ∀ t, t ≠ st.nt + j → live' t = true → st.live t = true ∧ sp' (.tok δ t) = k.sp (.tok δ t))
    (c6 : ∀ t, t ≠ st.nt + j → live' t = false → k.sp (.tok δ t) = none ∨ st.live t = true → sp' (.tok δ t) = none)
    (c8 : ∀ t, t ≠ st.nt + j → st.live t = false → sp' (.tok δ t) = k.sp (.tok δ t))
    (c7 : ∀ (jj : Nat) (x : D), ds[jj]? = some x → OwnOk ⟨k.w.setRow b cs', k.β, sp'⟩ (.cell d i jj) (cs'.getD jj undef) x) :
    Chg P pol δ j st { st with S := upd2 st.S d i (.cells ds), live := live', now := st.now + 1, low := min st.low d } k ⟨k.w.setRow b cs', k.β, sp'⟩ := by
  have hdle : d ≤ δ := by rcases L.has d i b hb with h | h <;> omega
  have hstep : ∀ low, low ≤ δ → low ≤ d → Step δ low k ⟨k.w.setRow b cs', k.β, sp'⟩ := by
    intro low _ hld
    refine setRow_step (o := 0) hg hsz (by omega) (.inl ⟨d, i, hb⟩) (fun d' i' h => by rw [(L.good.inj _ _ _ _ _ h hb).1]; exact hld) ?_ ?_ ?_
    · intro h b' o ho; obtain ⟨h0, hh⟩ := c1 h _ ho; exact ⟨h0, o, hh, Nat.le_refl _⟩
    · intro d' i' off hd; exact c4 d' i' off (by omega)
    · intro d' t hd; exact c3 d' t (by omega)
  have E := (hstep 0 (Nat.zero_le _) (Nat.zero_le _)).ext
  refine { ext := fun low h h' => (hstep low h (by have : low ≤ min st.low d := h'; omega)).ext, low := by show min st.low d ≤ st.low; omega, good := ?_, β := fun _ _ _ => rfl, store := ?_, now := .inr rfl, tok := c5, dead := c6, tokf := c8, other := ?_, lv := ?_, tks := c3, m := rfl, nt := rfl, σ := rfl, pend := rfl, recd := rfl }
  · refine ⟨L.good.inj, ?_, ?_, c2, ?_, fun d' i' off r hr => ?cb⟩
    case cb =>
      by_cases h : d' = d ∧ i' = i
      · exact ⟨b, by rw [h.1, h.2]; exact hb⟩
      · have hr' : sp' (.cell d' i' off) = some r := hr
        rw [c4 d' i' off h] at hr'
        exact L.good.cb d' i' off r hr'
    · intro d' i' b' h; simpa using L.good.lt d' i' b' h
    · intro h b' o ho; obtain ⟨h0, hh⟩ := c1 h _ ho; simpa using L.good.splt h0 b' o hh
    · intro d' i' b' h o hb' ho; obtain ⟨h0, hh⟩ := c1 h _ ho; exact L.good.disj _ _ _ _ _ hb' hh
  · intro d' i' b' hb'
    by_cases h : d' = d ∧ i' = i
    · obtain ⟨rfl, rfl⟩ := h
      have hbb : b' = b := by have := hb.symm.trans hb'; injection this with this; exact this.symm
      subst hbb
      right
      simp only [upd2, and_self, if_true]
      exact ⟨cs', e, fr, setRow_heap k.w b' cs cs' e fr hg, by omega, by rw [hsz]; exact hz, fun jj x hx => ⟨(hr jj x hx).later E.later, c7 jj x hx, h1 x (List.mem_of_getElem? hx)⟩⟩
    · left
      refine ⟨by simp [upd2, h], hb', ?_, fun off => c4 d' i' off h⟩
      refine setRow_other k.w b b' cs' fun e => ?_
      subst e
      exact h (L.good.inj _ _ _ _ _ hb' hb)
  · intro h h1 h2
    cases h with
    | tok d' t => by_cases e : d' = δ
                  · subst e; exact absurd rfl (h1 t)
                  · exact c3 d' t e
    | cell d' i' off => exact absurd rfl (h2 d' i' off)
  · intro d' i' off hd; exact c4 d' i' off (by omega)

/-- a box's cells without those of a part -/
def freeCells (sp : Hold → Option (Nat × Nat)) (d i lo hi : Nat) : Hold → Option (Nat × Nat)
  | .cell d' i' off => if d' = d ∧ i' = i ∧ lo ≤ off ∧ off < hi then none else sp (.cell d' i' off)
  | h => sp h
omit L in
theorem freeCells_some {sp : Hold → Option (Nat × Nat)} {d i lo hi : Nat} {h : Hold} {r : Nat × Nat} (hh : freeCells sp d i lo hi h = some r) : sp h = some r := by
  unfold freeCells at hh; split at hh
  · split at hh
    · cases hh
    · exact hh
  · exact hh

omit L in
theorem setCells_get (cs vs : List D) (off : Nat) (h : off + vs.length ≤ cs.length) (jj : Nat) : (setCells cs off vs)[jj]? = if jj < off then cs[jj]? else if jj < off + vs.length then vs[jj - off]? else cs[jj]? := by
  unfold setCells
  rw [List.append_assoc]
  by_cases h1 : jj < off
  · rw [if_pos h1, List.getElem?_append_left (by simp; omega), List.getElem?_take, if_pos h1]
  · rw [if_neg h1, List.getElem?_append_right (by simp; omega)]
    simp only [List.length_take, Nat.min_eq_left (show off ≤ cs.length by omega)]
    by_cases h2 : jj < off + vs.length
    · rw [if_pos h2, List.getElem?_append_left (by omega)]
    · rw [if_neg h2, List.getElem?_append_right (by omega), List.getElem?_drop]
      congr 1; omega
omit L in
theorem setCells_len (cs vs : List D) (off : Nat) (h : off + vs.length ≤ cs.length) : (setCells cs off vs).length = cs.length := by
  unfold setCells; simp; omega
omit L in
theorem rowSet_get (cs : Array Value) (vs : List Value) (off : Nat) (h : off + vs.length ≤ cs.size) (jj : Nat) : ((cs.toList.take off ++ vs ++ cs.toList.drop (off + vs.length)).toArray)[jj]? = if jj < off then cs[jj]? else if jj < off + vs.length then vs[jj - off]? else cs[jj]? := by
  rw [List.getElem?_toArray, List.append_assoc]
  by_cases h1 : jj < off
  · rw [if_pos h1, List.getElem?_append_left (by simp; omega), List.getElem?_take, if_pos h1]; simp
  · rw [if_neg h1, List.getElem?_append_right (by simp; omega)]
    simp only [List.length_take, Array.length_toList, Nat.min_eq_left (show off ≤ cs.size by omega)]
    by_cases h2 : jj < off + vs.length
    · rw [if_pos h2, List.getElem?_append_left (by omega)]
    · rw [if_neg h2, List.getElem?_append_right (by omega), List.getElem?_drop]
      simp only [Array.getElem?_toList]
      congr 1; omega
omit L in
theorem rowSet_size (cs : Array Value) (vs : List Value) (off : Nat) (h : off + vs.length ≤ cs.size) : ((cs.toList.take off ++ vs ++ cs.toList.drop (off + vs.length)).toArray).size = cs.size := by
  simp; omega

/-- A part of a box is written with cells that bear no right. -/
theorem chg_write {d i b off : Nat} (hb : k.β d i = some b) {cs : List D} (hS : st.S d i = .cells cs) {vs : List Value} {ds : List D} (hr : Reps k vs ds) (hlen : off + ds.length ≤ cs.length) (h1 : ∀ x ∈ ds, x.cells = [x] ∧ x.upto d = true) (hp : ∀ x ∈ ds, PlainTk x)
    (hone : ∀ v ∈ vs, v.oneCell' = true) :
    ∃ k', (storeCells ⟨b, off, none⟩ vs).run P k.w = .ok () k'.w ∧ Chg P pol δ j st { st with S := upd2 st.S d i (.cells (setCells cs off ds)), now := st.now + 1, low := min st.low d } k k' ∧ k'.sp (.tok δ (st.nt + j)) = k.sp (.tok δ (st.nt + j)) ∧ k'.β = k.β := by
  have hobj := L.store d i b hb
  rw [hS] at hobj
  obtain ⟨cv, et, fr, hheap, hcl, hfz, hcell⟩ := hobj
  have hvl : off + vs.length ≤ cv.size := by rw [hr.1]; omega
  have hrun := run_storeCells_row P b off et fr vs 0 cv k.w hheap hfz (by omega) hone
  simp only [Nat.add_zero] at hrun
  refine ⟨⟨_, k.β, freeCells k.sp d i off (off + ds.length)⟩, hrun, ?_, rfl, rfl⟩
  have hget := rowSet_get cv vs off hvl
  have hds := setCells_get cs ds off hlen
  refine chg_setRow L (live' := st.live) hb hheap (rowSet_size cv vs off hvl) hfz (ds := setCells cs off ds) (by rw [setCells_len _ _ _ hlen]; omega) ?_ ?_ (fun h r hh => ⟨h, freeCells_some hh⟩) (fun h h' b o o' q1 q2 => L.good.spinj h h' b o o' (freeCells_some q1) (freeCells_some q2)) (fun _ _ _ => rfl) ?_ (fun t _ h => ⟨h, rfl⟩) ?_ (fun _ _ _ => rfl) ?_
  · intro jj x hx
    rw [hds] at hx
    rw [Array.getD_eq_getD_getElem?, hget]
    by_cases q1 : jj < off
    · rw [if_pos q1] at hx ⊢; rw [← Array.getD_eq_getD_getElem?]; exact (hcell jj x hx).1
    · rw [if_neg q1] at hx ⊢
      by_cases q2 : jj < off + ds.length
      · rw [if_pos q2] at hx
        rw [if_pos (by rw [hr.1]; exact q2)]
        have := hr.2 _ x hx
        rwa [List.getD_eq_getElem?_getD] at this
      · rw [if_neg q2] at hx
        rw [if_neg (by rw [hr.1]; exact q2), ← Array.getD_eq_getD_getElem?]
        exact (hcell jj x hx).1
  · intro x hx
    obtain ⟨jj, hj⟩ := List.getElem?_of_mem hx
    rw [hds] at hj
    by_cases q1 : jj < off
    · rw [if_pos q1] at hj; exact (hcell jj x hj).2.2
    · rw [if_neg q1] at hj
      by_cases q2 : jj < off + ds.length
      · rw [if_pos q2] at hj; exact h1 x (List.mem_of_getElem? hj)
      · rw [if_neg q2] at hj; exact (hcell jj x hj).2.2
  · intro d' i' off' hne
    show freeCells _ _ _ _ _ _ = _
    simp only [freeCells]
    rw [if_neg (by intro e; exact hne ⟨e.1, e.2.1⟩)]
  · intro t _ hl hor
    rcases hor with h | h
    · exact h
    · simp_all
  · intro jj x hx
    rw [hds] at hx
    have hE := (setRow_step (δ := δ) (low := 0) (k := k) (o := 0) hheap (rowSet_size cv vs off hvl) (by omega) (.inl ⟨d, i, hb⟩) (fun _ _ _ => Nat.zero_le _) (sp' := freeCells k.sp d i off (off + ds.length)) (fun h b o hh => ⟨h, o, freeCells_some hh, Nat.le_refl _⟩) (fun _ _ _ h => by omega) (fun _ _ _ => rfl)).ext
    rw [Array.getD_eq_getD_getElem?, hget]
    by_cases q1 : jj < off
    · rw [if_pos q1] at hx ⊢; rw [← Array.getD_eq_getD_getElem?]
      exact (hcell jj x hx).2.1.ext hE (by simp only [freeCells]; rw [if_neg (by omega)])
    · rw [if_neg q1] at hx ⊢
      by_cases q2 : jj < off + ds.length
      · rw [if_pos q2] at hx
        exact .plain (hp x (List.mem_of_getElem? hx)) (by simp only [freeCells]; rw [if_pos (by refine ⟨trivial, trivial, ?_, ?_⟩ <;> omega)])
      · rw [if_neg q2] at hx
        rw [if_neg (by rw [hr.1]; exact q2), ← Array.getD_eq_getD_getElem?]
        exact (hcell jj x hx).2.1.ext hE (by simp only [freeCells]; rw [if_neg (by omega)])
end
end Go.Mia
namespace Go.Mia
open Go

section
variable {P : Program} {pol : Pol} {k : K} {δ j : Nat} {st : St} {B T : Nat → Prop} {a : Act} {o : Oper} (L : Loc P pol k δ j st B T)
include L

theorem Does.skip {st' : St} {k' : K} (hrun : (execOp a.eval o).run P k.w = .ok .skip k'.w) (C : Chg P pol δ j st st' k k') (hs : k'.sp (.tok δ (st.nt + j)) = none) : Does P pol a o δ j k st B T .undef st' :=
  ⟨.skip, undef, k', hrun, .inr ⟨rfl, rfl⟩, C, .undef _, trivial, trivial, fun _ => hs⟩

theorem does_store {s : Nat} {t ta tx : TypeId} {x y : Operand} {x' y' : Opnd} (ho : o.op = .store t x y) (hz : sizeT P t = some s) (hx : opnd P ta x = some x') (hy : opnd P tx y = some y')
    (hs : ∀ s' ∈ (IOp.store s x' y').slots, Val k δ st B T (a.tmps.getD s' undef) (st.σ s')) {st' : St} (he : storeOp s (ev st.σ x') (ev st.σ y') st = some st') : Does P pol a o δ j k st B T .undef st' := by
  have vx := opnd_val (a := a) hx fun s h => hs s (by simp [IOp.slots, h])
  have vy := opnd_val (a := a) hy fun s h => hs s (by simp [IOp.slots, h])
  unfold storeOp at he
  split at he
  · rename_i d i off e1
    split at he
    · rename_i cs hS
      split at he <;> simp at he
      subst he; rename_i hc
      obtain ⟨hl, hoff, hup⟩ := hc
      obtain ⟨b, hb, r⟩ := Rep.inv_ptr (e1 ▸ vx.rep)
      obtain ⟨hreps, hone, hoc⟩ := vy.rep.cells (upto_val hup)
      have hvl : (a.eval y).cells.size = s := by have := hreps.1; simp at this; omega
      have hex : ∀ w', (storeCells ⟨b, off, none⟩ (a.eval y).cells.toList).run P k.w = .ok () w' → (execOp a.eval o).run P k.w = .ok .skip w' := by
        intro w' h
        simp [execOp, ho, r, Instr.storeAt, Instr.sureAddr, storeVar, run_size hz, hvl, h]
      rcases settle_cases L st.live (ev st.σ y') with ⟨t0, s0, xs, e, hlive, hset⟩ | hset
      · -- a right goes over
        rw [hset]
        have hv := vy.rep
        have hvt := vy.tk
        have hvn := vy.name
        rw [e] at hv hvt hvn hreps hl
        obtain ⟨ad, cap, b1, off1, vs1, r1, _⟩ := Rep.inv_slice hv
        rw [r1] at hv hvt hreps hvl hoc hex
        simp only [D.cells, List.length_singleton] at hl
        have held := hvt hlive
        have ht0 : t0 ≠ st.nt + j := fun e => L.nT (e ▸ hvn)
        have hobj := L.store d i b hb
        rw [hS] at hobj
        obtain ⟨cv, et, fr, hheap, hcl, hfz, hcell⟩ := hobj
        have hrun := run_storeCells_row P b off et fr [Value.slice ad xs.length cap] 0 cv k.w hheap hfz (by simp; omega) (by simp [Value.oneCell'])
        simp only [Nat.add_zero] at hrun
        have hget := rowSet_get cv [Value.slice ad xs.length cap] off (by simp; omega)
        have hds := setCells_get cs [D.slice .own s0 xs] off (by simp; omega)
        have hsize := rowSet_size cv [Value.slice ad xs.length cap] off (by simp; omega)
        simp only [List.length_singleton] at hget hds hsize hrun
        have hE := (setRow_step (δ := δ) (low := 0) (k := k) (o := 0) hheap hsize (by omega) (.inl ⟨d, i, hb⟩) (fun _ _ _ => Nat.zero_le _) (sp' := k.sp) (fun h b o hh => ⟨h, o, hh, Nat.le_refl _⟩) (fun _ _ _ h => by omega) (fun _ _ _ => rfl)).ext
        have C := chg_setRow L (sp' := moveSp k.sp (.tok δ t0) (.cell d i off)) (live' := upd st.live t0 false) hb hheap hsize hfz (ds := setCells cs off [D.slice .own s0 xs])
          (by rw [setCells_len _ _ _ (by simp; omega)]; omega)
          (fun jj x hx => by
            rw [hds] at hx
            rw [Array.getD_eq_getD_getElem?, hget]
            by_cases q1 : jj < off
            · rw [if_pos q1] at hx ⊢; rw [← Array.getD_eq_getD_getElem?]; exact (hcell jj x hx).1
            · rw [if_neg q1] at hx ⊢
              by_cases q2 : jj < off + 1
              · rw [if_pos q2] at hx ⊢
                obtain rfl : jj = off := by omega
                simp at hx; subst hx
                simp
                cases hv with | slice b off vs hl hle hf he ha hc hr => exact .slice b off vs hl hle (by simp) he ha hc hr
              · rw [if_neg q2] at hx ⊢; rw [← Array.getD_eq_getD_getElem?]; exact (hcell jj x hx).1)
          (fun x hx => by
            obtain ⟨jj, hj⟩ := List.getElem?_of_mem hx
            rw [hds] at hj
            by_cases q1 : jj < off
            · rw [if_pos q1] at hj; exact (hcell jj x hj).2.2
            · rw [if_neg q1] at hj
              by_cases q2 : jj < off + 1
              · rw [if_pos q2] at hj
                obtain rfl : jj = off := by omega
                simp at hj; subst hj; exact ⟨rfl, rfl⟩
              · rw [if_neg q2] at hj; exact (hcell jj x hj).2.2)
          (fun h r hh => moveSp_some hh) (fun h h' b o o' q1 q2 => move_spinj L.good h h' b o o' q1 q2)
          (fun d' t hd => by simp [moveSp, hd])
          (fun d' i' off' hne => by
            simp only [moveSp]
            rw [if_neg (by intro e; injection e with e1 e2; exact hne ⟨e1, e2⟩), if_neg (by simp)])
          (fun t' hne hl => by
            simp only [upd] at hl
            split at hl
            · simp at hl
            · rename_i hne'; exact ⟨hl, by simp [moveSp, hne']⟩)
          (fun t' hne hl hor => by
            by_cases e' : t' = t0
            · simp [moveSp, e']
            · simp only [upd, if_neg e'] at hl
              rcases hor with h | h
              · simp [moveSp, e', h]
              · simp_all)
          (fun t' _ hl => by
            have e' : t' ≠ t0 := fun e => by rw [e, hlive] at hl; cases hl
            simp [moveSp, e'])
          (fun jj x hx => by
            rw [hds] at hx
            rw [Array.getD_eq_getD_getElem?, hget]
            have keep : ∀ x', cs[jj]? = some x' → jj ≠ off → OwnOk ⟨k.w.setRow b (cv.toList.take off ++ [Value.slice ad xs.length cap] ++ cv.toList.drop (off + 1)).toArray, k.β, moveSp k.sp (.tok δ t0) (.cell d i off)⟩ (.cell d i jj) (cv[jj]?.getD undef) x' := by
              intro x' hx' hne
              rw [← Array.getD_eq_getD_getElem?]
              refine OwnOk.ext (k := k) ?_ ?_ (hcell jj x' hx').2.1 (δ := δ) (low := 0)
              · exact (setRow_step (δ := δ) (low := 0) (k := k) (o := 0) hheap hsize (by omega) (.inl ⟨d, i, hb⟩) (fun _ _ _ => Nat.zero_le _) (sp' := moveSp k.sp (.tok δ t0) (.cell d i off)) (fun h b o hh => by obtain ⟨h0, hh⟩ := moveSp_some hh; exact ⟨h0, o, hh, Nat.le_refl _⟩) (fun _ _ _ h => by omega) (fun d' t hd => by simp only [moveSp]; rw [if_neg (by simp), if_neg (by intro e; injection e with e1 e2; omega)])).ext
              · simp [moveSp, hne]
            by_cases q1 : jj < off
            · rw [if_pos q1] at hx ⊢; exact keep x hx (by omega)
            · rw [if_neg q1] at hx ⊢
              by_cases q2 : jj < off + 1
              · rw [if_pos q2] at hx ⊢
                obtain rfl : jj = off := by omega
                simp at hx; subst hx
                simp only [Nat.sub_self, List.getElem?_cons_zero, Option.getD_some]
                show HeldAt _ _ _ _ _ _
                rcases held with ⟨b', o', h1, h2⟩ | ⟨h1, h2⟩
                · refine .inl ⟨b', o', by simp [moveSp, h1], ?_⟩
                  obtain ⟨f, q1, q2, cs2, et2, q3, q4⟩ := h2
                  obtain ⟨cs', q5, q6⟩ := hE.shape b' cs2 et2 q3
                  exact ⟨f, q1, q2, cs', et2, q5, by omega⟩
                · exact .inr ⟨h1, by simp [moveSp, h2]⟩
              · rw [if_neg q2] at hx ⊢; exact keep x hx (by omega))
        have hx2 := hex _ (hrun : (storeCells ⟨b, off, none⟩ (Value.slice ad xs.length cap).cells.toList).run P k.w = _)
        exact Does.skip L hx2 C (by
          simp only [moveSp]
          rw [if_neg (by simp), L.ft]
          split <;> rfl)
      · rw [hset]
        have hfr := fullOr_reps L hreps
        obtain ⟨k', hrun, C, hsp, _⟩ := chg_write L hb hS hfr (by simpa using (show off + (ev st.σ y').cells.length ≤ cs.length by omega)) (fun x hx => by
          obtain ⟨c, hc, rfl⟩ := List.mem_map.1 hx
          exact ⟨fullOr_cells (hone c hc), by rw [fullOr_upto]; exact upto_cells hup c hc⟩) (fun x hx => by
          obtain ⟨c, hc, rfl⟩ := List.mem_map.1 hx
          exact fullOr_plain c) hoc
        exact Does.skip L (hex _ hrun) C (by rw [hsp, L.ft])
    · simp at he
  · simp at he
end
end Go.Mia
namespace Go.Mia
open Go

theorem nextslicecap_le' {need old : Nat} (h : old < need) : Builtin.nextslicecap need old ≤ need + need / 4 + 512 := by
  unfold Builtin.nextslicecap
  split
  · omega
  · split
    · omega
    · rw [growBy_four]
      repeat' split
      all_goals omega

theorem fits_lim {need old bytes : Nat} (h : old < need) (hb : need * bytes ≤ LIM) (h1 : bytes ≤ 1048576) : Builtin.nextslicecap need old * bytes ≤ 281474976710656 := by
  have h2 : Builtin.nextslicecap need old * bytes ≤ (need + need / 4 + 512) * bytes := Nat.mul_le_mul_right _ (nextslicecap_le' h)
  have h3 : need / 4 * bytes ≤ need * bytes / 4 := by
    rw [Nat.le_div_iff_mul_le (by omega)]
    have : need / 4 * 4 ≤ need := Nat.div_mul_le_self need 4
    calc need / 4 * bytes * 4 = need / 4 * 4 * bytes := by rw [Nat.mul_assoc, Nat.mul_comm bytes 4, ← Nat.mul_assoc]
      _ ≤ need * bytes := Nat.mul_le_mul_right _ this
  rw [Nat.add_mul, Nat.add_mul] at h2
  unfold LIM at hb
  omega

/-- what an appended value gives -/
structure Src (P : Program) (size : Nat) (w : World) (x : Value) (m : Nat) (news : List Value) : Prop where
  len : ∀ w', (Builtin.lenOf x).run P w' = .ok m w'
  cells : ∀ w' : World, w'.heap = w.heap → (Builtin.firstCells size m x).run P w' = .ok news.toArray w'
  size : news.length = m * size

def kindOfU (P : Program) (u : TypeId) : Prop := (∃ e, P.underlying u = some (.slice e)) ∨ P.underlying u = some .string

theorem run_append_gen {P : Program} {w : World} {t u ty e : TypeId} {i : TypeInfo} {z : Value} (ht : P.underlying t = some (.slice e)) (hu : kindOfU P u) (hi : P.info? e = some i) (hz : i.zero = some z)
    {ba : Option Addr} {n cap m : Nat} {x : Value} {olds news : List Value} (hs : Src P i.size w x m news)
    (hfo : ∀ w' : World, w'.heap = w.heap → (Builtin.firstCells i.size n (.slice ba n cap)).run P w' = .ok olds.toArray w')
    (hg : cap < n + m) (hb : (n + m) * i.bytes ≤ LIM) (h0 : i.bytes ≠ 0) (h1 : i.bytes ≤ 1048576) :
    (Builtin.append_ #[t, u] ty #[.slice ba n cap, x]).run P w =
      .ok (.slice (some ⟨w.heap.size, 0, none⟩) (n + m) (grownCap w (n + m) cap e))
        (push w.drew (.cells (olds.toArray ++ news.toArray ++ Builtin.zeroCells z.cells (grownCap w (n + m) cap e - (n + m))) e (0, 0))) := by
  have hn : ¬ (n + m ≤ cap) := by omega
  have h48 : ¬ (281474976710656 < Builtin.nextslicecap (n + m) cap * i.bytes) := by have := fits_lim hg hb h1; omega
  have hf := hs.cells w.drew rfl
  have hfo' := hfo w.drew rfl
  rcases hu with ⟨e', hu⟩ | hu <;>
  simp [Builtin.append_, run_underlying ht, run_underlying hu, sizeOf, typeInfo, zeroValue, hi, hz, hs.len, hn, h48, h0, Question.forced, hf, hfo', newRow, grownCap]
  all_goals (refine congrArg (fun c => push w.drew (.cells c e (0, 0))) ?_; apply Array.ext'; simp [List.append_assoc])

theorem run_append_in {P : Program} {w : World} {t u ty e : TypeId} {i : TypeInfo} (ht : P.underlying t = some (.slice e)) (hu : kindOfU P u) (hi : P.info? e = some i)
    {ba : Option Addr} {n cap m : Nat} {x : Value} {news : List Value} (hs : Src P i.size w x m news) (hg : n + m ≤ cap) {w' : World}
    (hst : (match ba with | some a => (storeCells (a.add (n * i.size)) news).run P w | none => .ok () w) = .ok () w') :
    (Builtin.append_ #[t, u] ty #[.slice ba n cap, x]).run P w = .ok (.slice ba (n + m) cap) w' := by
  have hf := hs.cells w rfl
  cases ba with
  | none =>
    simp only at hst
    injection hst with h1 h2
    subst h2
    rcases hu with ⟨e', hu⟩ | hu <;>
    simp [Builtin.append_, run_underlying ht, run_underlying hu, sizeOf, typeInfo, hi, hs.len, hg, hf]
  | some a =>
    rcases hu with ⟨e', hu⟩ | hu <;>
    simp [Builtin.append_, run_underlying ht, run_underlying hu, sizeOf, typeInfo, hi, hs.len, hg, hf, hst]
end Go.Mia
namespace Go.Mia
open Go

theorem pure_val {d : D} (h : d.pure = true) : d.isVal = true := by cases d <;> simp_all [D.pure, D.isVal]
mutual
theorem pure_upto : ∀ {d : D} (n : Nat), d.pure = true → d.upto n = true
  | .undef, n, h => by simp [D.pure] at h
  | .bool _, n, h => rfl
  | .int _ _, n, h => rfl
  | .str _, n, h => rfl
  | .nilp, n, h => rfl
  | .ptr _ _ _, n, h => by simp [D.pure] at h
  | .cptr _, n, h => rfl
  | .slice _ _ _, n, h => rfl
  | .vsl _ _ _ _ _ _, n, h => by simp [D.pure] at h
  | .fn _ a b, n, h => by simp only [D.pure, Bool.and_eq_true] at h; simp only [D.upto, Bool.and_eq_true]; exact ⟨pures_uptos n h.1, pures_uptos n h.2⟩
  | .yld _ _, n, h => by simp [D.pure] at h
  | .nilf, n, h => rfl
  | .iface _ v, n, h => by simp only [D.pure] at h; simp only [D.upto]; exact pure_upto n h
  | .nili, n, h => rfl
  | .agg cs, n, h => by simp only [D.pure] at h; simp only [D.upto]; exact pures_uptos n h
  | .tup _, n, h => by simp [D.pure] at h
theorem pures_uptos : ∀ {ds : List D} (n : Nat), D.pures ds = true → D.uptos n ds = true
  | [], n, h => rfl
  | d :: ds, n, h => by simp only [D.pures, Bool.and_eq_true] at h; simp only [D.uptos, Bool.and_eq_true]; exact ⟨pure_upto n h.1, pures_uptos n h.2⟩
end

theorem notAgg {c : D} (h : c.cells = [c]) : c.isAgg = false := by
  cases c with
  | agg cs => exact absurd h (not_self _)
  | _ => rfl

theorem chunks_len {s : Nat} : ∀ {n : Nat} {cs : List D}, (chunks s n cs).length = n
  | 0, cs => rfl
  | n + 1, cs => by simp [chunks, chunks_len]

theorem chunks_ok {s : Nat} : ∀ {n : Nat} {cs : List D}, n * s ≤ cs.length → (∀ c ∈ cs, c.cells = [c]) → D.pures cs = true →
    (chunks s n cs).flatMap D.cells = cs.take (n * s) ∧ elemsOk s (chunks s n cs) = true
  | 0, cs, _, _, _ => by simp [chunks, elemsOk]
  | n + 1, cs, hl, h1, hp => by
    have hmul : (n + 1) * s = s + n * s := by rw [Nat.add_mul]; omega
    obtain ⟨e1, e2⟩ := chunks_ok (s := s) (n := n) (cs := cs.drop s) (by simp; omega) (fun c hc => h1 c (List.mem_of_mem_drop hc)) (pures_of fun d hd => pures_mem hp d (List.mem_of_mem_drop hd))
    have hcell : (if s = 1 then (cs.head?).getD .undef else D.agg (cs.take s)).cells = cs.take s := by
      split
      · rename_i hs
        subst hs
        cases cs with
        | nil => simp at hl
        | cons c cs => simpa using h1 c (by simp)
      · rfl
    refine ⟨?_, ?_⟩
    · simp only [chunks, List.flatMap_cons, hcell, e1, hmul]
      rw [List.take_add]
    · simp only [chunks, elemsOk, Bool.and_eq_true, decide_eq_true_eq, hcell]
      refine ⟨⟨⟨by simp; omega, ?_⟩, ?_⟩, e2⟩
      · split
        · cases cs with
          | nil => simp at hl; omega
          | cons c cs => simp only [D.pures, Bool.and_eq_true] at hp; exact hp.1
        · simp only [D.pure]
          exact pures_of fun d hd => pures_mem hp d (List.mem_of_mem_take hd)
      · split
        · cases cs with
          | nil => simp at hl; omega
          | cons c cs => simp only [List.head?_cons, Option.getD_some]; have := h1 c (by simp); cases c <;> first | rfl | exact absurd this (not_self _)
        · simp only [D.flat, List.all_eq_true, Bool.not_eq_true']
          exact fun c hc => notAgg (h1 c (List.mem_of_mem_take hc))

theorem elems_one {k : K} {s : Nat} {ys : List D} (he : elemsOk s ys = true) {news : List Value} (hr : Reps k news (ys.flatMap D.cells)) : ∀ u ∈ news, u.oneCell' = true := by
  intro u hu
  obtain ⟨j, hj⟩ := List.getElem?_of_mem hu
  have hlt : j < news.length := (List.getElem?_eq_some_iff.1 hj).1
  have hd := List.getElem?_eq_getElem (show j < _ by rw [← hr.1]; exact hlt)
  have hrep := hr.2 j _ hd
  have hu' : news.getD j Go.undef = u := by rw [List.getD_eq_getElem?_getD, hj]; rfl
  rw [hu'] at hrep
  have hm := List.mem_of_getElem? hd
  obtain ⟨x, hx, hc⟩ := List.mem_flatMap.1 hm
  obtain ⟨_, hp, hf⟩ := elemsOk_mem he x hx
  exact one_of hrep (flat_one hf _ hc) (pure_val (pures_mem (pure_cells hp) _ hc))

theorem degr1_cells_one {cs : List D} (h1 : ∀ c ∈ cs, c.cells = [c]) : ∀ c ∈ cs.map D.degr1, c.cells = [c] := by
  intro c hc
  obtain ⟨d, hd, rfl⟩ := List.mem_map.1 hc
  exact degr1_one (h1 d hd)
theorem degr1_pures {cs : List D} (h : D.pures cs = true) : D.pures (cs.map D.degr1) = true := by
  refine pures_of fun d hd => ?_
  obtain ⟨c, hc, rfl⟩ := List.mem_map.1 hd
  rw [degr1_pure]; exact pures_mem h c hc

theorem bytes_cells (bs : List UInt8) : (bs.map fun b => D.int .u8 (b.toNat : Int)).flatMap D.cells = bs.map fun b => D.int .u8 (b.toNat : Int) := by
  induction bs with
  | nil => rfl
  | cons b bs ih => simp [D.cells, ih]

theorem src_ok {P : Program} {pol : Pol} {k : K} {S : Store} {x : Value} {d : D} (hst : StoreRel P pol k S) (hx : Rep k x d) {str : Bool} {s1 size : Nat} {ys : List D} (h : srcOf S str d = some (s1, ys)) (hs : s1 = size ∨ ys = []) :
    ∃ news, Src P size k.w x ys.length news ∧ Reps k news (ys.flatMap D.cells) ∧ elemsOk size ys = true := by
  unfold srcOf at h
  split at h
  · rename_i tk s ys'
    simp at h
    obtain ⟨rfl, rfl⟩ := h
    obtain ⟨ad, cap, b, off, vs, rfl, hle, hf, he, ha, hc, hr⟩ := Rep.inv_slice hx
    have he' : elemsOk size ys' = true := by
      rcases hs with rfl | rfl
      · exact he
      · rfl
    have hl := flat_len (fun x hx => (elemsOk_mem he' x hx).1)
    refine ⟨(List.range (ys'.flatMap D.cells).length).map vs, ⟨fun w' => rfl, fun w' hw => ?_, by simpa using hl⟩, ⟨by simp, fun j d hd => ?_⟩, he'⟩
    · have hcells : ∀ j v, ((List.range (ys'.flatMap D.cells).length).map vs)[j]? = some v → w'.cell? ((⟨b, off, none⟩ : Addr).add j) = some v := by
        intro j v hj
        simp only [List.getElem?_map, Option.map_eq_some_iff] at hj
        obtain ⟨j', hj', rfl⟩ := hj
        have : j' = j ∧ j < (ys'.flatMap D.cells).length := by
          have hlt := (List.getElem?_eq_some_iff.1 hj').1
          simp at hlt
          rw [List.getElem?_range (by simpa using hlt)] at hj'
          exact ⟨by simpa using hj'.symm, by simpa using hlt⟩
        obtain ⟨rfl, hlt⟩ := this
        rw [addr_add]
        have := (hc j' hlt).cell
        simpa [World.cell?, hw] using this
      by_cases h0 : ys' = []
      · subst h0
        cases ad with
        | none => simp [Builtin.firstCells]
        | some a => simp [Builtin.firstCells, loadCells, loadCellsFrom]
      · have hlen : 0 < ys'.length := by cases ys' with | nil => exact absurd rfl h0 | cons => simp
        rw [ha hlen]
        exact run_firstCells_some (P := P) w' size ys'.length ⟨b, off, none⟩ _ cap _ (by simpa using hl) hcells
    · have hlt := (List.getElem?_eq_some_iff.1 hd).1
      have := hr j d hd
      rw [List.getD_eq_getElem?_getD, List.getElem?_map, List.getElem?_range hlt]
      exact this
  · rename_i bs
    simp at h
    obtain ⟨rfl, rfl⟩ := h
    obtain rfl := Rep.inv_str hx
    have he : ∀ sz, sz = 1 ∨ (bs.map fun b => D.int .u8 (b.toNat : Int)) = [] → elemsOk sz (bs.map fun b => D.int .u8 (b.toNat : Int)) = true := by
      intro sz h
      rcases h with rfl | h
      · refine elemsOk_of fun x hx => ?_
        obtain ⟨b, _, rfl⟩ := List.mem_map.1 hx
        exact ⟨rfl, rfl, rfl⟩
      · rw [h]; rfl
    refine ⟨bs.map fun b => Value.int .u8 (b.toNat : Int), ⟨fun w' => by simp [Builtin.lenOf, ByteArray.size], fun w' hw => ?_, ?_⟩, ?_, he _ (by rcases hs with h | h; exact .inl h.symm; exact .inr h)⟩
    · have hex := extract_mk bs 0 bs.length
      simp only [List.take_length, List.drop_zero] at hex
      simp only [Builtin.firstCells, List.length_map, hex, Sem.run_pure]
      congr 1
      apply Array.ext'
      simp
    · rcases hs with rfl | h
      · simp
      · simp at h; subst h; simp
    · rw [bytes_cells]
      refine ⟨by simp, fun j d hd => ?_⟩
      simp only [List.getElem?_map, Option.map_eq_some_iff] at hd
      obtain ⟨b, hb, rfl⟩ := hd
      simp only [List.getD_eq_getElem?_getD, List.getElem?_map, hb]
      exact .int _ _
  · rename_i d' i' off len s c
    split at h
    · rename_i cs hS
      split at h
      · rename_i hcond
        simp only [Option.some.injEq, Prod.mk.injEq] at h
        obtain ⟨rfl, rfl⟩ := h
        obtain ⟨ad, cap, rfl, hlc, hcc, hb⟩ := Rep.inv_vsl hx
        by_cases h0 : len = 0
        · subst h0
          refine ⟨[], ⟨fun w' => rfl, fun w' hw => ?_, by simp [chunks]⟩, by simp [chunks]; exact .nil, rfl⟩
          cases ad with
          | none => simp [Builtin.firstCells]
          | some a => simp [Builtin.firstCells, loadCells, loadCellsFrom, chunks]
        · obtain ⟨b, hβ, rfl⟩ := hb (by omega)
          have hobj := hst _ _ _ hβ
          rw [hS] at hobj
          obtain ⟨cv, et, fr, hheap, hcl, hfz, hcell⟩ := hobj
          have hone : ∀ c ∈ (cs.drop off).map D.degr1, c.cells = [c] := degr1_cells_one fun c hc => by
            obtain ⟨j, hj⟩ := List.getElem?_of_mem (List.mem_of_mem_drop hc)
            exact (hcell j c hj).2.2.1
          obtain ⟨e1, e2⟩ := chunks_ok (s := s) (n := len) (cs := (cs.drop off).map D.degr1) (by simp; omega) hone (degr1_pures (pures_of fun d hd => pures_mem hcond.2 d (List.mem_of_mem_drop hd)))
          have hs' : s = size := by
            rcases hs with h | h
            · exact h
            · have := congrArg List.length h; simp [chunks_len] at this; omega
          subst hs'
          refine ⟨(cv.toList.drop off).take (len * s), ⟨fun w' => by simp [Builtin.lenOf, chunks_len], fun w' hw => ?_, ?_⟩, ?_, e2⟩
          · rw [chunks_len]
            refine run_firstCells_some (P := P) w' s len ⟨b, off, none⟩ _ cap _ (by simp; omega) fun j v hj => ?_
            rw [addr_add]
            simp only [World.cell?, hw, hheap]
            rw [List.getElem?_take] at hj
            split at hj
            · rw [List.getElem?_drop] at hj; simpa using hj
            · simp at hj
          · rw [chunks_len]; simp; omega
          · rw [e1]
            refine ⟨by simp; omega, fun j d hd => ?_⟩
            rw [List.getElem?_take] at hd
            split at hd
            · rename_i hlt
              rw [List.getElem?_map, Option.map_eq_some_iff] at hd
              obtain ⟨c, hc, rfl⟩ := hd
              rw [List.getElem?_drop] at hc
              have := (hcell _ c hc).1
              rw [Array.getD_eq_getD_getElem?] at this
              rw [List.getD_eq_getElem?_getD, List.getElem?_take, if_pos hlt, List.getElem?_drop]
              simpa using this.degr1
            · simp at hd
      · simp at h
    · simp at h
  · simp at h
end Go.Mia
namespace Go.Mia
open Go

/-- what taking a right has done -/
structure Takes (k : K) (δ j : Nat) (st st' : St) (h : Option Hold) : Prop where
  S : (st'.S = st.S ∧ st'.now = st.now ∧ st'.low = st.low ∧ ∀ d i off, h ≠ some (.cell d i off)) ∨
    ∃ d i off cs s ys, h = some (.cell d i off) ∧ st.S d i = .cells cs ∧ cs[off]? = some (.slice .own s ys) ∧ st'.S = upd2 st.S d i (.cells (cs.set off (.slice .none s ys))) ∧
      st'.now = st.now + 1 ∧ st'.low = min st.low d ∧ d ≤ δ ∧ ¬ (d = δ ∧ i = st.m + j)
  live : ∀ t, st'.live t = true → st.live t = true ∧ h ≠ some (.tok δ t)
  dead : ∀ t, st'.live t = false → st.live t = true → h = some (.tok δ t)
  tks : ∀ d t, h = some (.tok d t) → d = δ ∧ t ≠ st.nt + j ∧ st.live t = true
  m : st'.m = st.m
  nt : st'.nt = st.nt
  σ : st'.σ = st.σ
  pend : st'.pend = st.pend
  recd : st'.recd = st.recd

/-- one holder's right has gone, another one has one -/
def swapSp (sp : Hold → Option (Nat × Nat)) (h : Option Hold) (n : Hold) (r : Option (Nat × Nat)) : Hold → Option (Nat × Nat) :=
  fun x => if x = n then r else if h = some x then none else sp x

theorem swapSp_new {sp : Hold → Option (Nat × Nat)} {h : Option Hold} {n : Hold} {r : Option (Nat × Nat)} : swapSp sp h n r n = r := by simp [swapSp]
theorem swapSp_gone {sp : Hold → Option (Nat × Nat)} {h : Hold} {n : Hold} {r : Option (Nat × Nat)} (hn : h ≠ n) : swapSp sp (some h) n r h = none := by simp [swapSp, hn]
theorem swapSp_old {sp : Hold → Option (Nat × Nat)} {h : Option Hold} {n x : Hold} {r : Option (Nat × Nat)} (hn : x ≠ n) (hh : h ≠ some x) : swapSp sp h n r x = sp x := by simp [swapSp, hn, hh]
theorem swapSp_some {sp : Hold → Option (Nat × Nat)} {h : Option Hold} {n x : Hold} {r : Option (Nat × Nat)} {q : Nat × Nat} (hh : swapSp sp h n r x = some q) : (x = n ∧ r = some q) ∨ (x ≠ n ∧ h ≠ some x ∧ sp x = some q) := by
  unfold swapSp at hh
  split at hh
  · exact .inl ⟨‹_›, hh⟩
  · split at hh
    · cases hh
    · exact .inr ⟨‹_›, ‹_›, hh⟩

section
variable {P : Program} {pol : Pol} {k : K} {δ j : Nat} {st st' : St} {B T : Nat → Prop} {a : Act} {o : Oper} (L : Loc P pol k δ j st B T)
include L

theorem chg_take {h : Option Hold} (tk : Takes k δ j st st' h) {w' : World} {r : Option (Nat × Nat)}
    (hstep : ∀ low, low ≤ δ → (∀ d i off, h = some (.cell d i off) → low ≤ d) → Step δ low k ⟨w', k.β, swapSp k.sp h (.tok δ (st.nt + j)) r⟩)
    (hheap : ∀ d i b, k.β d i = some b → w'.heap[b]? = k.w.heap[b]?)
    (hr : ∀ b o, r = some (b, o) → b < w'.heap.size ∧ (∀ d i, k.β d i ≠ some b) ∧ ∀ x o', k.sp x = some (b, o') → h = some x) :
    Chg P pol δ j st (newTok j st') k ⟨w', k.β, swapSp k.sp h (.tok δ (st.nt + j)) r⟩ := by
  have E := (hstep 0 (Nat.zero_le _) (fun _ _ _ _ => Nat.zero_le _)).ext
  have hsz := (hstep 0 (Nat.zero_le _) (fun _ _ _ _ => Nat.zero_le _)).size
  have old : ∀ x, x ≠ Hold.tok δ (st.nt + j) → h ≠ some x → (⟨w', k.β, swapSp k.sp h (.tok δ (st.nt + j)) r⟩ : K).sp x = k.sp x := fun x h1 h2 => swapSp_old h1 h2
  have gone : ∀ x, x ≠ Hold.tok δ (st.nt + j) → h = some x → (⟨w', k.β, swapSp k.sp h (.tok δ (st.nt + j)) r⟩ : K).sp x = none := fun x h1 h2 => by subst h2; exact swapSp_gone h1
  refine { ext := ?_, low := ?_, good := ?_, β := fun _ _ _ => rfl, store := ?_, now := ?_, tok := ?_, dead := ?_, tokf := fun t hne hl => old _ (by simpa using hne) (fun e => by have := (tk.tks _ _ e).2.2; rw [hl] at this; cases this), other := ?_, lv := ?_, tks := ?_, m := tk.m, nt := tk.nt, σ := tk.σ, pend := tk.pend, recd := tk.recd }
  · intro low hl hl'
    refine (hstep low hl fun d i off e => ?_).ext
    have hl2 : low ≤ st'.low := hl'
    rcases tk.S with ⟨_, _, _, h4⟩ | ⟨d', i', off', cs, s, ys, h1, _, _, _, _, h6, _⟩
    · exact absurd e (h4 d i off)
    · rw [h1] at e; injection e with e; injection e with e1 e2 e3; subst e1; omega
  · show st'.low ≤ st.low
    rcases tk.S with ⟨_, _, h3, _⟩ | ⟨d', i', off', cs, s, ys, h1, _, _, _, _, h6, _⟩ <;> omega
  · refine ⟨L.good.inj, fun d i b hb => Nat.lt_of_lt_of_le (L.good.lt d i b hb) hsz, ?_, ?_, ?_, fun d i off q hr => ?cb⟩
    case cb =>
      have hr' : swapSp k.sp h (.tok δ (st.nt + j)) r (.cell d i off) = some q := hr
      rcases swapSp_some hr' with ⟨e, _⟩ | ⟨_, _, e⟩
      · cases e
      · exact L.good.cb d i off q e
    · intro x b o hx
      rcases swapSp_some hx with ⟨_, e⟩ | ⟨_, _, e⟩
      · exact (hr b o e).1
      · exact Nat.lt_of_lt_of_le (L.good.splt x b o e) hsz
    · intro x x' b o o' hx hx'
      rcases swapSp_some hx with ⟨e1, e⟩ | ⟨e1, n1, e⟩ <;> rcases swapSp_some hx' with ⟨e1', e'⟩ | ⟨e1', n1', e'⟩
      · rw [e1, e1']
      · exact absurd ((hr b o e).2.2 x' o' e') n1'
      · exact absurd ((hr b o' e').2.2 x o e) n1
      · exact L.good.spinj x x' b o o' e e'
    · intro d i b x o hb hx
      rcases swapSp_some hx with ⟨e1, e⟩ | ⟨e1, n1, e⟩
      · exact (hr b o e).2.1 d i hb
      · exact L.good.disj d i b x o hb e
  · intro d i b hb
    rcases tk.S with ⟨h1, _, _, h4⟩ | ⟨d', i', off', cs, s, ys, h1, h2, h3, h5, h6, h7, h8, h9⟩
    · left
      refine ⟨by show st'.S d i = _; rw [h1], hb, hheap d i b hb, fun off => old _ (by simp) (h4 d i off)⟩
    · by_cases hd : d = d' ∧ i = i'
      · obtain ⟨rfl, rfl⟩ := hd
        right
        show ObjRel P pol _ d i b (st'.S d i)
        rw [h5]
        simp only [upd2, and_self, if_true]
        have hobj := L.store d i b hb
        rw [h2] at hobj
        obtain ⟨cv, et, fr, q1, q2, q3, q4⟩ := hobj
        refine ⟨cv, et, fr, (hheap d i b hb).trans q1, by simpa using q2, q3, fun jj x hx => ?_⟩
        by_cases hj : jj = off'
        · subst hj
          rw [List.getElem?_set_self (by exact (List.getElem?_eq_some_iff.1 h3).1)] at hx
          injection hx with hx
          subst hx
          obtain ⟨r1, r2, r3, r4⟩ := q4 jj _ h3
          refine ⟨(r1.degr1).later E.later, ?_, rfl, rfl⟩
          refine OwnOk.plain (by trivial) ?_
          exact gone _ (by simp) h1
        · rw [List.getElem?_set_ne (by omega)] at hx
          obtain ⟨r1, r2, r3, r4⟩ := q4 jj _ hx
          refine ⟨r1.later E.later, r2.ext E ?_, r3, r4⟩
          exact old _ (by simp) (by rw [h1]; simp; exact fun e => hj e.symm)
      · left
        refine ⟨by show st'.S d i = _; rw [h5]; simp [upd2, hd], hb, hheap d i b hb, fun off => old _ (by simp) (by rw [h1]; simp; intro e1 e2; exact absurd ⟨e1.symm, e2.symm⟩ hd)⟩
  · rcases tk.S with ⟨h1, h2, h3, h4⟩ | ⟨d', i', off', cs, s, ys, h1, h2, h3, h5, h6, h7, h8, h9⟩
    · exact .inl ⟨h2, fun d i off _ => old _ (by simp) (h4 d i off), hheap, h3⟩
    · exact .inr h6
  · intro t hne hl
    have hl' : st'.live t = true := by
      have : upd st'.live (st'.nt + j) true t = true := hl
      rw [tk.nt] at this
      simpa [upd, hne] using this
    obtain ⟨q1, q2⟩ := tk.live t hl'
    exact ⟨q1, old _ (by simpa using hne) q2⟩
  · intro t hne hl hor
    have hl' : st'.live t = false := by
      have : upd st'.live (st'.nt + j) true t = false := hl
      rw [tk.nt] at this
      simpa [upd, hne] using this
    by_cases hh : h = some (.tok δ t)
    · exact gone _ (by simpa using hne) hh
    · rw [old _ (by simpa using hne) hh]
      rcases hor with q | q
      · exact q
      · exact absurd (tk.dead t hl' q) hh
  · intro x n1 n2
    refine old _ (fun e => n1 _ e) fun e => ?_
    cases x with
    | tok d t => have := (tk.tks d t e).1; subst this; exact n1 _ rfl
    | cell d i off => exact n2 d i off rfl
  · intro d i off hd
    refine old _ (by simp) fun e => ?_
    rcases tk.S with ⟨_, _, _, h4⟩ | ⟨d', i', off', cs, s, ys, h1, h2, h3, h5, h6, h7, h8, h9⟩
    · exact h4 d i off e
    · rw [h1] at e; injection e with e; injection e with e1 e2 e3; omega
  · intro d t hd
    exact old _ (by simp; exact fun e => absurd e hd) fun e => hd (tk.tks d t e).1

/-- what a right is worth -/
def Held (k : K) (h : Option Hold) (a : Option Addr) (len cap s : Nat) : Prop :=
  match h with
  | none => cap = len
  | some h => HeldAt k h a len cap s

theorem takes_of {v : Value} {tk : Tk} {s : Nat} {xs : List D} (hv : Val k δ st B T v (.slice tk s xs)) {st' : St} (ht : takeRight st tk = some st') {ad : Option Addr} {cap : Nat} (hva : v = .slice ad xs.length cap) :
    ∃ h, Takes k δ j st st' h ∧ Held k h ad xs.length cap s ∧ (tk = .full → h = none) := by
  subst hva
  cases tk with
  | none => simp [takeRight] at ht
  | own => simp [takeRight] at ht
  | full =>
    simp [takeRight] at ht
    subst ht
    obtain ⟨ad', cap', b, off, vs, e, hle, hf, _⟩ := Rep.inv_slice hv.rep
    injection e with e1 e2 e3
    subst e1; subst e3
    exact ⟨none, ⟨.inl ⟨rfl, rfl, rfl, by simp⟩, fun t h => ⟨h, by simp⟩, fun t h h' => by simp_all, by simp, rfl, rfl, rfl, rfl, rfl⟩, hf rfl, fun _ => rfl⟩
  | tok t =>
    simp only [takeRight] at ht
    split at ht
    · rename_i hl
      simp at ht
      subst ht
      have hheld : HeldAt k (.tok δ t) ad xs.length cap s := hv.tk hl
      have hn : T t := hv.name
      refine ⟨some (.tok δ t), ⟨.inl ⟨rfl, rfl, rfl, by simp⟩, fun t' h => ?_, fun t' h h' => ?_, fun d t' e => ?_, rfl, rfl, rfl, rfl, rfl⟩, hheld, by simp⟩
      · simp only [upd] at h
        split at h
        · simp at h
        · rename_i hne; exact ⟨h, by simp; exact fun e => hne e.symm⟩
      · simp only [upd] at h
        split at h
        · rename_i e; rw [e]
        · simp_all
      · injection e with e; injection e with e1 e2
        exact ⟨e1.symm, fun e3 => L.nT (by rw [← e3, ← e2]; exact hn), by rw [← e2]; exact hl⟩
    · simp at ht
  | lent d i off stamp =>
    simp only [takeRight] at ht
    split at ht
    · rename_i hst
      split at ht
      · rename_i cs hS
        split at ht
        · rename_i s' ys hcs
          simp at ht
          subst ht
          have hheld : HeldAt k (.cell d i off) ad xs.length cap s := (hv.tk).2 hst
          have hn : d < δ ∨ (d = δ ∧ B i) := hv.name
          refine ⟨some (.cell d i off), ⟨.inr ⟨d, i, off, cs, s', ys, rfl, hS, hcs, rfl, rfl, rfl, by omega, fun e => ?_⟩, fun t h => ⟨h, by simp⟩, fun t h h' => by simp_all, by simp, rfl, rfl, rfl, rfl, rfl⟩, hheld, by simp⟩
          rcases hn with hn | hn
          · omega
          · exact L.nB (e.2 ▸ hn.2)
        · simp at ht
      · simp at ht
    · simp at ht
end
end Go.Mia
namespace Go.Mia
open Go

theorem same_step {δ low : Nat} {k : K} {w : World} (hw : w.heap = k.w.heap ∧ w.os = k.w.os ∧ w.tape = k.w.tape ∧ w.output = k.w.output) {sp' : Hold → Option (Nat × Nat)}
    (hsp : ∀ h b o, sp' h = some (b, o) → ∃ h0 o0, k.sp h0 = some (b, o0) ∧ o0 ≤ o)
    (hcells : ∀ d i off, d < low → sp' (.cell d i off) = k.sp (.cell d i off)) (htoks : ∀ d t, d < δ → sp' (.tok d t) = k.sp (.tok d t)) : Step δ low k ⟨w, k.β, sp'⟩ where
  size := by rw [hw.1]; exact Nat.le_refl _
  os := hw.2.1
  tape := hw.2.2.1
  output := hw.2.2.2
  β := fun _ _ _ h => h
  βn := fun _ _ _ h => .inl h
  sp := fun h b o ho => .inr (hsp h b o ho)
  cell := fun b off v h _ _ => by simpa [World.cell?, hw.1] using h
  other := fun b _ _ _ => by rw [hw.1]
  boxes := fun d i b _ _ => by rw [hw.1]
  cells := hcells
  toks := htoks
  shape := fun b cs e h => ⟨cs, by rw [hw.1]; exact h, rfl⟩

theorem flat_app {xs ys : List D} : (xs ++ ys).flatMap D.cells = xs.flatMap D.cells ++ ys.flatMap D.cells := by simp

theorem elems_app {s s0 : Nat} {xs ys : List D} (h0 : s0 = s ∨ xs = []) (h : elemsOk s0 xs = true) (h' : elemsOk s ys = true) : elemsOk s (xs ++ ys) = true := by
  refine elemsOk_of fun x hx => ?_
  rcases List.mem_append.1 hx with hx | hx
  · rcases h0 with rfl | rfl
    · exact elemsOk_mem h x hx
    · simp at hx
  · exact elemsOk_mem h' x hx

section
variable {P : Program} {pol : Pol} {k : K} {δ j : Nat} {st st' : St} {B T : Nat → Prop} {a : Act} {o : Oper} (L : Loc P pol k δ j st B T)
include L

theorem takes_step {h : Option Hold} (tk : Takes k δ j st st' h) {r : Option (Nat × Nat)} {low : Nat} (hl : low ≤ δ) (hc : ∀ d i off, h = some (.cell d i off) → low ≤ d) :
    (∀ d i off, d < low → swapSp k.sp h (.tok δ (st.nt + j)) r (.cell d i off) = k.sp (.cell d i off)) ∧ ∀ d t, d < δ → swapSp k.sp h (.tok δ (st.nt + j)) r (.tok d t) = k.sp (.tok d t) := by
  refine ⟨fun d i off hd => swapSp_old (by simp) fun e => ?_, fun d t hd => swapSp_old (by simp; exact fun e => absurd e (by omega)) fun e => ?_⟩
  · have := hc d i off e; omega
  · have := (tk.tks d t e).1; omega

theorem app_tok {v x : Value} {tk : Tk} {s0 s : Nat} {xs ys : List D} (hv : Val k δ st B T v (.slice tk s0 xs)) (ht : takeRight st tk = some st') (hs0 : s0 = s ∨ (xs = [] ∧ tk = .full))
    {news : List Value} (hsrc : Src P s k.w x ys.length news) (hr : Reps k news (ys.flatMap D.cells)) (he : elemsOk s ys = true)
    {t u ty e : TypeId} {i : TypeInfo} {z : Value} (hut : P.underlying t = some (.slice e)) (hu : kindOfU P u) (hi : P.info? e = some i) (hz : i.zero = some z) (hsz : i.size = s) (hzs : z.cells.size = s)
    (hb : (xs.length + ys.length) * i.bytes ≤ LIM) (h0 : i.bytes ≠ 0) (h1 : i.bytes ≤ 1048576) :
    ∃ v' k', (Builtin.append_ #[t, u] ty #[v, x]).run P k.w = .ok v' k'.w ∧ Chg P pol δ j st (newTok j st') k k' ∧ Rep k' v' (.slice (.tok (st.nt + j)) s (xs ++ ys)) ∧
      CellTk k' δ (newTok j st').now (newTok j st').live v' (.slice (.tok (st.nt + j)) s (xs ++ ys)) := by
  subst hsz
  obtain ⟨ad, cap, b, off, vs, rfl, hle, hf, hex, ha, hc, hrr⟩ := Rep.inv_slice hv.rep
  obtain ⟨h, htk, hheld, hfull⟩ := takes_of L hv ht rfl
  have hexs : elemsOk i.size xs = true := by
    rcases hs0 with rfl | ⟨rfl, _⟩
    · exact hex
    · rfl
  have helems := elems_app (.inl rfl) hexs he
  have hlx := flat_len (fun y hy => (elemsOk_mem hexs y hy).1)
  have hly := flat_len (fun y hy => (elemsOk_mem he y hy).1)
  have hone := elems_one he hr
  have hnl := hsrc.size
  have hlive : ∀ {sp : Hold → Option (Nat × Nat)}, True := trivial
  by_cases hroom : xs.length + ys.length ≤ cap
  · -- the trivial case: nothing is appended, no room
    have triv : ys.length = 0 → cap = xs.length → (∀ x, h = some x → k.sp x = none) → ∃ v' k', (Builtin.append_ #[t, u] ty #[.slice ad xs.length cap, x]).run P k.w = .ok v' k'.w ∧ Chg P pol δ j st (newTok j st') k k' ∧ Rep k' v' (.slice (.tok (st.nt + j)) i.size (xs ++ ys)) ∧
        CellTk k' δ (newTok j st').now (newTok j st').live v' (.slice (.tok (st.nt + j)) i.size (xs ++ ys)) := by
      intro hy hcap hsp
      obtain rfl : ys = [] := List.eq_nil_of_length_eq_zero hy
      have hnews : news = [] := by cases news with | nil => rfl | cons => simp at hnl
      subst hnews
      have hstep : ∀ low, low ≤ δ → (∀ d i off, h = some (.cell d i off) → low ≤ d) → Step δ low k ⟨k.w, k.β, swapSp k.sp h (.tok δ (st.nt + j)) none⟩ := by
        intro low hl hcl
        obtain ⟨c1, c2⟩ := takes_step L htk (r := none) hl hcl
        refine same_step ⟨rfl, rfl, rfl, rfl⟩ (fun y b o hy => ?_) c1 c2
        rcases swapSp_some hy with ⟨_, e⟩ | ⟨_, _, e⟩
        · simp at e
        · exact ⟨y, o, e, Nat.le_refl _⟩
      refine ⟨_, ⟨k.w, k.β, swapSp k.sp h (.tok δ (st.nt + j)) none⟩, run_append_in hut hu hi hsrc hroom (w' := k.w) ?_, chg_take L htk hstep (fun _ _ _ _ => rfl) (by simp), ?_, ?_⟩
      · cases ad <;> simp [storeCells]
      · simp only [List.append_nil, List.length_nil, Nat.add_zero]
        refine Rep.later (hstep 0 (Nat.zero_le _) (fun _ _ _ _ => Nat.zero_le _)).ext.later ?_
        exact .slice b off vs rfl hle (by simp) hexs ha hc hrr
      · intro _
        exact .inr ⟨by simp [hcap], swapSp_new⟩
    cases h with
    | none =>
      have hcap : cap = xs.length := hheld
      exact triv (by omega) hcap (by simp)
    | some hd =>
      rcases hheld with ⟨b', o', hsp, f, had, ho, cs, et, hheap, hcs⟩ | ⟨hcap, hsp⟩
      · subst had
        have hne : hd ≠ .tok δ (st.nt + j) := by
          intro e
          subst e
          exact (htk.tks _ _ rfl).2.1 rfl
        have hmul : (xs.length + ys.length) * i.size ≤ cap * i.size := Nat.mul_le_mul_right _ hroom
        rw [Nat.add_mul] at hmul
        obtain rfl : s0 = i.size := by
          rcases hs0 with e | ⟨_, e⟩
          · exact e
          · cases hfull e
        have hfit : f + xs.length * i.size + news.length ≤ cs.size := by rw [hnl]; omega
        have hbb : ∀ j, j < (xs.flatMap D.cells).length → b = b' ∧ off = f := by
          intro j hj
          have : 0 < xs.length := by
            rcases Nat.eq_zero_or_pos xs.length with q | q
            · rw [hlx, q] at hj; simp at hj
            · exact q
          have := ha this
          injection this with this
          injection this with q1 q2
          exact ⟨q1.symm, q2.symm⟩
        have hnbox : ∀ d i, k.β d i ≠ some b' := fun d i e => L.good.disj _ _ _ _ _ e hsp
        have hst := run_storeCells_row P b' (f + xs.length * i.size) et (0, 0) news 0 cs k.w hheap (by omega) (by omega) hone
        simp only [Nat.add_zero] at hst
        let cs' := (cs.toList.take (f + xs.length * i.size) ++ news ++ cs.toList.drop (f + xs.length * i.size + news.length)).toArray
        let r := some (b', o' + ys.length * i.size)
        have hget := rowSet_get cs news (f + xs.length * i.size) hfit
        have hsize := rowSet_size cs news (f + xs.length * i.size) hfit
        have hstep : ∀ low, low ≤ δ → (∀ d i off, some hd = some (Hold.cell d i off) → low ≤ d) → Step δ low k ⟨k.w.setRow b' cs', k.β, swapSp k.sp (some hd) (.tok δ (st.nt + j)) r⟩ := by
          intro low hl hcl
          obtain ⟨c1, c2⟩ := takes_step L htk (r := r) hl hcl
          refine setRow_step (o := o') hheap hsize (fun jj hj => ?_) (.inr ⟨hd, o', hsp, Nat.le_refl _⟩) (fun d i e => absurd e (hnbox d i)) ?_ c1 c2
          · rw [hget, if_pos (by omega)]
          · intro y b2 o2 hy
            rcases swapSp_some hy with ⟨_, e⟩ | ⟨_, _, e⟩
            · injection e with e; injection e with e1 e2
              subst e1; subst e2
              exact ⟨hd, o', hsp, by omega⟩
            · exact ⟨y, o2, e, Nat.le_refl _⟩
        have hE := (hstep 0 (Nat.zero_le _) (fun _ _ _ _ => Nat.zero_le _)).ext
        have hnw : (newTok j st').live (st.nt + j) = true := by simp [newTok, upd, htk.nt]
        refine ⟨_, ⟨k.w.setRow b' cs', k.β, swapSp k.sp (some hd) (.tok δ (st.nt + j)) r⟩, run_append_in hut hu hi hsrc hroom (w' := k.w.setRow b' cs') ?_, chg_take L htk hstep ?_ ?_, ?_, ?_⟩
        · simp only [addr_add]; exact hst
        · intro d i b2 hb2
          exact setRow_other k.w b' b2 cs' fun e => hnbox d i (e ▸ hb2)
        · intro b2 o2 e
          injection e with e; injection e with e1 e2
          subst e1
          refine ⟨by simpa using L.good.splt _ _ _ hsp, hnbox, fun y o3 hy => ?_⟩
          rw [L.good.spinj _ _ _ _ _ hsp hy]
        · refine .slice b' f (fun jj => if jj < xs.length * i.size then vs jj else news.getD (jj - xs.length * i.size) undef) (by simp) hroom (by simp) helems (fun _ => rfl) ?_ ?_
          · intro jj hjj
            rw [flat_app, List.length_append, hlx, hly] at hjj
            by_cases q : jj < xs.length * i.size
            · simp only [q, if_true]
              have hjx : jj < (xs.flatMap D.cells).length := by rw [hlx]; exact q
              obtain ⟨e1, e2⟩ := hbb jj hjx
              have := hE.later.const _ _ _ (hc jj hjx)
              rw [e1, e2] at this
              exact this
            · simp only [q, if_false]
              have hlt : jj - xs.length * i.size < news.length := by rw [hnl]; omega
              refine ⟨?_, hnbox, fun y o2 hy => ?_⟩
              · show (k.w.setRow b' cs').cell? _ = _
                rw [cell_setRow_same k.w b' (f + jj) cs cs' et (0, 0) hheap, hget, if_neg (by omega), if_pos (by omega), List.getD_eq_getElem?_getD, show f + jj - (f + xs.length * i.size) = jj - xs.length * i.size by omega, List.getElem?_eq_getElem hlt]
                rfl
              · rcases swapSp_some hy with ⟨_, e⟩ | ⟨_, n2, e⟩
                · injection e with e; injection e with e1 e2; omega
                · exact absurd (by rw [L.good.spinj _ _ _ _ _ hsp e]) n2
          · intro jj d hd
            rw [flat_app] at hd
            by_cases q : jj < xs.length * i.size
            · simp only [q, if_true]
              rw [List.getElem?_append_left (by rw [hlx]; exact q)] at hd
              exact (hrr jj d hd).later hE.later
            · simp only [q, if_false]
              rw [List.getElem?_append_right (by rw [hlx]; omega), hlx] at hd
              exact (hr.2 _ d hd).later hE.later
        · intro _
          refine .inl ⟨b', o' + ys.length * i.size, swapSp_new, f, rfl, by rw [Nat.add_mul]; omega, cs', et, setRow_heap k.w b' cs cs' et _ hheap, by rw [hsize]; exact hcs⟩
      · exact triv (by omega) hcap (by intro y hy; injection hy with hy; subst hy; exact hsp)
  · -- a new block
    have hg : cap < xs.length + ys.length := by omega
    have holds : ∀ w' : World, w'.heap = k.w.heap → (Builtin.firstCells i.size xs.length (.slice ad xs.length cap)).run P w' = .ok ((List.range (xs.flatMap D.cells).length).map vs).toArray w' := by
      intro w' hw
      by_cases h00 : xs = []
      · subst h00
        cases ad <;> simp [Builtin.firstCells, loadCells, loadCellsFrom]
      · have hlen : 0 < xs.length := by cases xs with | nil => exact absurd rfl h00 | cons => simp
        rw [ha hlen]
        refine run_firstCells_some (P := P) w' i.size xs.length ⟨b, off, none⟩ _ cap _ (by simpa using hlx) fun jj v hj => ?_
        simp only [List.getElem?_map, Option.map_eq_some_iff] at hj
        obtain ⟨j', hj', rfl⟩ := hj
        have hlt := (List.getElem?_eq_some_iff.1 hj').1
        simp at hlt
        rw [List.getElem?_range (by simpa using hlt)] at hj'
        obtain rfl : jj = j' := by simpa using hj'
        rw [addr_add]
        have := (hc jj (by simpa using hlt)).cell
        simpa [World.cell?, hw] using this
    have hrun := run_append_gen (P := P) (w := k.w) (ty := ty) (olds := (List.range (xs.flatMap D.cells).length).map vs) hut hu hi hz hsrc holds hg hb h0 h1
    let cv : Array Value := (((List.range (xs.flatMap D.cells).length).map vs).toArray ++ news.toArray ++ Builtin.zeroCells z.cells (grownCap k.w (xs.length + ys.length) cap e - (xs.length + ys.length)))
    have hcap := grownCap_ge k.w (xs.length + ys.length) cap e
    have hcv : cv.size = grownCap k.w (xs.length + ys.length) cap e * i.size := by
      show (_ ++ _ ++ _ : Array Value).size = _
      simp only [Array.size_append, List.size_toArray, size_zeroCells, hzs, List.length_map, List.length_range, hlx, hnl, ← Nat.add_mul]
      congr 1; omega
    have hcvj : ∀ jj, jj < (xs.length + ys.length) * i.size → cv[jj]? = some (if jj < xs.length * i.size then vs jj else news.getD (jj - xs.length * i.size) undef) := by
      intro jj hjj
      rw [Nat.add_mul] at hjj
      show (_ ++ _ ++ _ : Array Value)[jj]? = _
      rw [Array.getElem?_append_left (by simp [hlx, hnl]; omega)]
      by_cases q : jj < xs.length * i.size
      · rw [Array.getElem?_append_left (by simpa [hlx] using q)]
        simp [q, hlx]
      · rw [Array.getElem?_append_right (by simp [hlx]; omega)]
        have hlt : jj - xs.length * i.size < news.length := by rw [hnl]; omega
        simp [q, hlx, hlt]
    let r := some (k.w.heap.size, (xs.length + ys.length) * i.size)
    have hstep : ∀ low, low ≤ δ → (∀ d i off, h = some (Hold.cell d i off) → low ≤ d) → Step δ low k ⟨push k.w.drew (.cells cv e (0, 0)), k.β, swapSp k.sp h (.tok δ (st.nt + j)) r⟩ := by
      intro low hl hcl
      obtain ⟨c1, c2⟩ := takes_step L htk (r := r) hl hcl
      refine push_step (w := k.w.drew) ⟨rfl, rfl, rfl, rfl⟩ (fun _ _ _ h => h) (fun _ _ _ h => .inl h) ?_ c1 c2 L.good.lt
      intro y b2 o2 hy
      rcases swapSp_some hy with ⟨_, e⟩ | ⟨_, _, e⟩
      · injection e with e; injection e with e1 e2; exact .inl e1.symm
      · exact .inr ⟨y, o2, e, Nat.le_refl _⟩
    have hE := (hstep 0 (Nat.zero_le _) (fun _ _ _ _ => Nat.zero_le _)).ext
    have hnbox : ∀ d i, k.β d i ≠ some k.w.heap.size := fun d i e => by have := L.good.lt d i _ e; omega
    have hnsp : ∀ y o2, k.sp y ≠ some (k.w.heap.size, o2) := fun y o2 e => by have := L.good.splt y _ o2 e; omega
    refine ⟨_, ⟨push k.w.drew (.cells cv e (0, 0)), k.β, swapSp k.sp h (.tok δ (st.nt + j)) r⟩, hrun, chg_take L htk hstep ?_ ?_, ?_, ?_⟩
    · intro d i b2 hb2
      exact push_old _ _ (L.good.lt d i b2 hb2)
    · intro b2 o2 e2
      injection e2 with e2; injection e2 with e3 e4
      subst e3
      exact ⟨by rw [push_size]; exact Nat.lt_succ_self _, hnbox, fun y o3 hy => absurd hy (hnsp y o3)⟩
    · refine .slice k.w.heap.size 0 (fun jj => if jj < xs.length * i.size then vs jj else news.getD (jj - xs.length * i.size) undef) (by simp) hcap (by simp) helems (fun _ => rfl) ?_ ?_
      · intro jj hjj
        rw [flat_app, List.length_append, hlx, hly, ← Nat.add_mul] at hjj
        refine ⟨?_, hnbox, fun y o2 hy => ?_⟩
        · show (push k.w.drew _).cell? _ = _
          have := push_cell_new k.w.drew cv e (0, 0) (0 + jj)
          rw [show k.w.drew.heap.size = k.w.heap.size from rfl] at this
          rw [this, Nat.zero_add]
          exact hcvj jj hjj
        · rcases swapSp_some hy with ⟨_, e2⟩ | ⟨_, _, e2⟩
          · injection e2 with e2; injection e2 with e3 e4; omega
          · exact absurd e2 (hnsp y o2)
      · intro jj d hd
        rw [flat_app] at hd
        by_cases q : jj < xs.length * i.size
        · simp only [q, if_true]
          rw [List.getElem?_append_left (by rw [hlx]; exact q)] at hd
          exact (hrr jj d hd).later hE.later
        · simp only [q, if_false]
          rw [List.getElem?_append_right (by rw [hlx]; omega), hlx] at hd
          exact (hr.2 _ d hd).later hE.later
    · intro _
      refine .inl ⟨k.w.heap.size, (xs.length + ys.length) * i.size, swapSp_new, 0, rfl, by simp, cv, e, push_new k.w.drew _, ?_⟩
      rw [hcv]; omega
end
end Go.Mia
namespace Go.Mia
open Go

/-- what is known of the types of an append -/
structure AppTy (P : Program) (t u e : TypeId) (i : TypeInfo) (z : Value) (s bytes : Nat) : Prop where
  ht : P.underlying t = some (.slice e)
  hu : kindOfU P u
  hi : P.info? e = some i
  hz : i.zero = some z
  hs : i.size = s
  zs : z.cells.size = s
  hb : i.bytes = bytes
  b0 : bytes ≠ 0
  b1 : bytes ≤ 1048576

/-- a result of an operation -/
structure Gives (P : Program) (pol : Pol) (δ j : Nat) (k : K) (st : St) (B T : Nat → Prop) (v : Value) (k' : K) (d : D) (st' : St) : Prop where
  chg : Chg P pol δ j st st' k k'
  rep : Rep k' v d
  tk : CellTk k' δ st'.now st'.live v d
  name : NameOk δ (More B (st.m + j)) (More T (st.nt + j)) d
  no : st'.live (st.nt + j) = false → k'.sp (.tok δ (st.nt + j)) = none

theorem CellTk.plain {k : K} {δ now : Nat} {live : Nat → Bool} {v : Value} {d : D} (hs : ∀ tk s xs, d = .slice tk s xs → tk = .full ∨ tk = .none) : CellTk k δ now live v d := by
  unfold CellTk
  split
  · rcases hs _ _ _ rfl with h | h <;> simp at h
  · rcases hs _ _ _ rfl with h | h <;> simp at h
  · rcases hs _ _ _ rfl with h | h <;> simp at h
  · trivial
theorem NameOk.plain {δ : Nat} {B T : Nat → Prop} {d : D} (hs : ∀ tk s xs, d = .slice tk s xs → tk = .full ∨ tk = .none) : NameOk δ B T d := by
  unfold NameOk
  split
  · rcases hs _ _ _ rfl with h | h <;> simp at h
  · rcases hs _ _ _ rfl with h | h <;> simp at h
  · trivial

theorem setCells_nil (cs : List D) (off : Nat) : setCells cs off [] = cs := by simp [setCells]
theorem upd2_self (S : Store) (d i : Nat) : upd2 S d i (S d i) = S := by
  funext d' i'
  unfold upd2
  split
  · rename_i h; rw [h.1, h.2]
  · rfl

section
variable {P : Program} {pol : Pol} {k : K} {δ j : Nat} {st st' : St} {B T : Nat → Prop} {a : Act} {o : Oper} (L : Loc P pol k δ j st B T)
include L

/-- nothing but what the reading says of a box without cells -/
theorem chg_store {d i : Nat} {ob : Obj} {now low : Nat} (h : k.β d i = none ∨ st.S d i = ob) (hn : (now = st.now ∧ low = st.low) ∨ now = st.now + 1) (hlow : low ≤ st.low) :
    Chg P pol δ j st { st with S := upd2 st.S d i ob, now := now, low := low } k k where
  ext := fun l _ _ => Ext.refl δ l k
  low := hlow
  good := L.good
  β := fun _ _ _ => rfl
  store := fun d' i' b hb => by
    left
    refine ⟨?_, hb, rfl, fun _ => rfl⟩
    show upd2 st.S d i ob d' i' = _
    unfold upd2
    split
    · rename_i e
      rcases h with h | h
      · rw [e.1, e.2, h] at hb; cases hb
      · rw [e.1, e.2, h]
    · rfl
  now := hn.imp (fun h => ⟨h.1, fun _ _ _ _ => rfl, fun _ _ _ _ => rfl, h.2⟩) id
  tok := fun t _ h => ⟨h, rfl⟩
  dead := fun t _ h h' => by
    rcases h' with h' | h'
    · exact h'
    · simp_all
  tokf := fun _ _ _ => rfl
  other := fun _ _ _ => rfl
  lv := fun _ _ _ _ => rfl
  tks := fun _ _ _ => rfl
  m := rfl
  nt := rfl
  σ := rfl
  pend := rfl
  recd := rfl

theorem flat_cells_one {s : Nat} {ys : List D} (he : elemsOk s ys = true) : ∀ c ∈ (ys.flatMap D.cells).map fullOr, (c.cells = [c] ∧ ∀ n, c.upto n = true) ∧ PlainTk c := by
  intro c hc
  obtain ⟨c0, hc0, rfl⟩ := List.mem_map.1 hc
  obtain ⟨y, hy, hcy⟩ := List.mem_flatMap.1 hc0
  obtain ⟨_, hp, hf⟩ := elemsOk_mem he y hy
  refine ⟨⟨fullOr_cells (flat_one hf c0 hcy), fun n => ?_⟩, fullOr_plain _⟩
  rw [fullOr_upto]
  exact pure_upto n (pures_mem (pure_cells hp) c0 hcy)

theorem append_ok {vec str : Bool} {s bytes : Nat} {v x : Value} {dv dx d : D} {t u ty e : TypeId} {i : TypeInfo} {z : Value} (hty : AppTy P t u e i z s bytes) (hv : Val k δ st B T v dv) (hx : Rep k x dx)
    (he : appendOp δ j vec str s bytes dv dx st = some (d, st')) :
    ∃ v' k', (Builtin.append_ #[t, u] ty #[v, x]).run P k.w = .ok v' k'.w ∧ Gives P pol δ j k st B T v' k' d st' := by
  obtain ⟨hut, hu, hi, hz, hsz, hzs, hby, hb0, hb1⟩ := hty
  subst hsz hby
  unfold appendOp at he
  split at he
  · rename_i tk s0 xs
    split at he
    · rename_i s1 ys hsrc
      split at he
      · rename_i hcond
        obtain ⟨hs0, hs1, hlim⟩ := hcond
        obtain ⟨news, hsr, hr, hel⟩ := src_ok L.store hx hsrc hs1
        obtain ⟨ad, cap, b, off, vs, rfl, hle, hf, hex, ha, hc, hrr⟩ := Rep.inv_slice hv.rep
        have hone := elems_one hel hr
        have hnl := hsr.size
        split at he
        · split at he
          · rename_i hfull
            obtain ⟨rfl, rfl⟩ := hfull
            simp only [Option.some.injEq, Prod.mk.injEq, List.length_nil, Nat.zero_add, List.nil_append] at he
            obtain ⟨rfl, rfl⟩ := he
            have hcap : cap = 0 := by have := hf rfl; simpa using this
            subst hcap
            by_cases hy : ys = []
            · subst hy
              have hnews : news = [] := by cases news with | nil => rfl | cons => simp at hnl
              subst hnews
              refine ⟨.slice ad 0 0, k, run_append_in hut hu hi hsr (by simp) (w' := k.w) (by cases ad <;> simp [storeCells]), ⟨?_, ?_, .plain (by simp), .plain (by simp), fun _ => L.ft⟩⟩
              · exact chg_store L (.inl L.fb) (.inl ⟨rfl, rfl⟩) (Nat.le_refl _)
              · exact .vsl (Nat.le_refl _) (Nat.le_refl _) (by simp)
            · have hpos : 0 < ys.length := by cases ys with | nil => exact absurd rfl hy | cons => simp
              have holds : ∀ w' : World, w'.heap = k.w.heap → (Builtin.firstCells i.size 0 (.slice ad 0 0)).run P w' = .ok ([] : List Value).toArray w' := by
                intro w' _; cases ad <;> simp [Builtin.firstCells, loadCells, loadCellsFrom]
              have hrun := run_append_gen (P := P) (w := k.w) (ty := ty) (n := 0) (olds := []) hut hu hi hz hsr holds (by omega) (by simpa using hlim) hb0 hb1
              simp only [Nat.zero_add] at hrun
              have hcap := grownCap_ge k.w ys.length 0 e
              have hfr := fullOr_reps L hr
              have hcells := flat_cells_one L hel
              have hly := flat_len (fun y hy => (elemsOk_mem hel y hy).1)
              have C := chg_newBox L (w0 := k.w.drew) ⟨rfl, rfl, rfl, rfl⟩ (cs := ([] : List Value).toArray ++ news.toArray ++ Builtin.zeroCells z.cells (grownCap k.w ys.length 0 e - ys.length)) (e := e) (fr := (0, 0)) (ds := (ys.flatMap D.cells).map fullOr) (sp' := k.sp) (live' := st.live)
                (by simp [hly, hnl]) (by omega) (fun jj y hy => by
                  have hlt := (List.getElem?_eq_some_iff.1 hy).1
                  simp only [List.length_map, hly] at hlt
                  have := hfr.2 jj y hy
                  have hjn : jj < news.length := by omega
                  simp only [Array.getD_eq_getD_getElem?, Array.empty_append]
                  rw [Array.getElem?_append_left (by simpa using hjn)]
                  rw [List.getD_eq_getElem?_getD] at this
                  rw [List.getElem?_toArray]
                  exact this)
                (fun c hc => ⟨(hcells c hc).1.1, (hcells c hc).1.2 δ⟩) (fun h r hh => ⟨h, hh⟩) L.good.spinj (fun _ _ _ => rfl) (fun _ _ _ _ => rfl) (fun t _ h => ⟨h, rfl⟩)
                (fun t _ h h' => by
                  rcases h' with h' | h'
                  · exact h'
                  · have h2 : st.live t = false := h
                    rw [h2] at h'; cases h')
                (fun _ _ _ => rfl)
                (fun jj y hy => .plain (hcells y (List.mem_of_getElem? hy)).2 (L.fc jj))
              refine ⟨_, _, hrun, ⟨C, ?_, .plain (by simp), .plain (by simp), fun _ => L.ft⟩⟩
              exact .vsl (Nat.le_refl _) hcap (fun _ => ⟨k.w.heap.size, by simp [updβ], rfl⟩)
          · simp at he
        · split at he
          · rename_i hfull
            obtain ⟨rfl, rfl⟩ := hfull
            simp only [Option.some.injEq, Prod.mk.injEq] at he
            obtain ⟨rfl, rfl⟩ := he
            have hcap : cap = xs.length := hf rfl
            have hnews : news = [] := by cases news with | nil => rfl | cons => simp at hnl
            subst hnews
            have hexs : elemsOk i.size xs = true := by
              rcases hs0 with h | ⟨h, _⟩
              · rw [← h]; exact hex
              · rw [h]; rfl
            refine ⟨.slice ad xs.length cap, k, run_append_in hut hu hi hsr (by simp; omega) (w' := k.w) (by cases ad <;> simp [storeCells]), ⟨.refl L.good, ?_, .plain (by simp), .plain (by simp), fun _ => L.ft⟩⟩
            exact .slice b off vs rfl hle (fun _ => hcap) hexs ha hc hrr
          · split at he
            · rename_i st1 htr
              simp only [Option.some.injEq, Prod.mk.injEq] at he
              obtain ⟨rfl, rfl⟩ := he
              obtain ⟨v', k', q1, q2, q3, q4⟩ := app_tok (ty := ty) L hv htr hs0 hsr hr hel hut hu hi hz rfl hzs hlim hb0 hb1
              have hnt : st1.nt = st.nt := q2.nt
              refine ⟨v', k', q1, ⟨q2, q3, q4, .inr rfl, fun h => ?_⟩⟩
              simp [newTok, upd, hnt] at h
            · simp at he
      · simp at he
    · simp at he
  · rename_i d' i' off len s0 c
    split at he
    · rename_i s1 ys cs hsrc hS
      split at he
      · rename_i hcond
        obtain ⟨rfl, hs1, hlen, hcs⟩ := hcond
        simp only [Option.some.injEq, Prod.mk.injEq] at he
        obtain ⟨rfl, rfl⟩ := he
        obtain ⟨news, hsr, hr, hel⟩ := src_ok L.store hx hsrc hs1
        obtain ⟨ad, cap, rfl, hlc, hcc, hbox⟩ := Rep.inv_vsl hv.rep
        have hone := elems_one hel hr
        have hnl := hsr.size
        have hly := flat_len (fun y hy => (elemsOk_mem hel y hy).1)
        have hfr := fullOr_reps L hr
        have hcells := flat_cells_one L hel
        rcases Nat.eq_zero_or_pos c with h0 | h0
        · have hy : ys = [] := List.eq_nil_of_length_eq_zero (by omega)
          subst hy
          have hnews : news = [] := by cases news with | nil => rfl | cons => simp at hnl
          subst hnews
          refine ⟨_, k, run_append_in hut hu hi hsr (by simp; omega) (w' := k.w) (by cases ad <;> simp [storeCells]), ⟨?_, ?_, .plain (by simp), .plain (by simp), fun _ => L.ft⟩⟩
          · simp only [List.flatMap_nil, List.map_nil, setCells_nil]
            exact chg_store L (.inr hS) (.inr rfl) (Nat.min_le_left _ _)
          · exact .vsl (by simp; omega) hcc hbox
        · obtain ⟨b, hβ, rfl⟩ := hbox h0
          have hvl : off + len * i.size + ((ys.flatMap D.cells).map fullOr).length ≤ cs.length := by
            simp only [List.length_map, hly]; rw [Nat.add_mul] at hcs; omega
          obtain ⟨k', hrun, C, hsp, hβ'⟩ := chg_write L hβ hS hfr hvl (fun y hy => ⟨(hcells y hy).1.1, (hcells y hy).1.2 _⟩) (fun y hy => (hcells y hy).2) hone
          refine ⟨_, k', run_append_in hut hu hi hsr (by omega) (w' := k'.w) (by simp only [addr_add]; exact hrun), ⟨C, ?_, .plain (by simp), .plain (by simp), fun _ => by rw [hsp]; exact L.ft⟩⟩
          exact .vsl hlen hcc (fun _ => ⟨b, by rw [hβ']; exact hβ, rfl⟩)
      · simp at he
    · simp at he
  · simp at he

theorem Gives.does {v : Value} {k' : K} {d : D} (hrun : (execOp a.eval o).run P k.w = .ok (.value v) k'.w) (h : Gives P pol δ j k st B T v k' d st') : Does P pol a o δ j k st B T d st' :=
  ⟨.value v, v, k', hrun, .inl rfl, h.chg, h.rep, h.tk, h.name, h.no⟩

theorem does_append {vec str : Bool} {s bytes : Nat} {t u e tx ty : TypeId} {i : TypeInfo} {z : Value} {x y : Operand} {x' y' : Opnd} (hty : AppTy P t u e i z s bytes) (ho : o.op = .call { callee := .builtin .append, args := #[x, y], argTypes := #[t, u] })
    (hx : opnd P tx x = some x') (hy : opnd P ty y = some y') (hs : ∀ s' ∈ (IOp.append vec str s bytes x' y').slots, Val k δ st B T (a.tmps.getD s' undef) (st.σ s')) {d : D}
    (he : appendOp δ j vec str s bytes (ev st.σ x') (ev st.σ y') st = some (d, st')) : Does P pol a o δ j k st B T d st' := by
  have vx := opnd_val (a := a) hx fun s h => hs s (by simp [IOp.slots, h])
  have vy := opnd_val (a := a) hy fun s h => hs s (by simp [IOp.slots, h])
  obtain ⟨v', k', hrun, G⟩ := append_ok (ty := o.type) L hty vx vy.rep he
  refine G.does L ?_
  simp [execOp, ho, resolve, invoke, builtin, hrun]
end
end Go.Mia
namespace Go.Mia
open Go

theorem madeCells_get (zc : Array Value) (n s : Nat) (hs : zc.size = s) : ∀ jj, jj < n * s → (madeCells zc (n * s))[jj]? = some (zc.getD (jj % s) undef) := by
  intro jj hj
  have h0 : 0 < s := by
    rcases Nat.eq_zero_or_pos s with h | h
    · subst h; simp at hj
    · exact h
  have hlt : jj % s < zc.size := by rw [hs]; exact Nat.mod_lt _ h0
  simp [madeCells, hj, hs, Array.getD_eq_getD_getElem?, Array.getElem!_eq_getD, Array.getElem?_eq_getElem hlt]

theorem replicate_flat_len (zs : List D) (n : Nat) : (List.replicate n zs).flatten.length = n * zs.length := by simp [List.length_flatten, List.sum_replicate_nat]
theorem replicate_flat_get (zs : List D) : ∀ (n jj : Nat), jj < n * zs.length → (List.replicate n zs).flatten[jj]? = zs[jj % zs.length]?
  | 0, jj, h => by simp at h
  | n + 1, jj, h => by
    simp only [List.replicate_succ, List.flatten_cons]
    by_cases q : jj < zs.length
    · rw [List.getElem?_append_left q, Nat.mod_eq_of_lt q]
    · have h0 : 0 < zs.length := by
        rcases Nat.eq_zero_or_pos zs.length with h' | h'
        · rw [h'] at h; simp at h
        · exact h'
      rw [List.getElem?_append_right (by omega), replicate_flat_get zs n (jj - zs.length) (by rw [Nat.add_mul] at h; omega)]
      congr 1
      have : jj = jj - zs.length + zs.length := by omega
      conv => rhs; rw [this, Nat.add_mod_right]

theorem exec_make {a : Act} {o : Oper} {t : TypeId} {x y : Operand} (ho : o.op = .makeSlice t x y) : execOp a.eval o = (do let v ← Instr.makeSlice t (a.eval x) (a.eval y); pure (.value v)) := by
  unfold execOp; rw [ho]
theorem exec_conv {a : Act} {o : Oper} {t u : TypeId} {x : Operand} (ho : o.op = .convert t u x) : execOp a.eval o = (do let v ← convert t u (a.eval x); pure (.value v)) := by
  unfold execOp; rw [ho]

section
variable {P : Program} {pol : Pol} {k : K} {δ j : Nat} {st st' : St} {B T : Nat → Prop} {a : Act} {o : Oper} (L : Loc P pol k δ j st B T)
include L

theorem asNat_val {x : Operand} {x' : Opnd} {t : TypeId} (hx : opnd P t x = some x') (hs : ∀ s ∈ x'.slots, Val k δ st B T (a.tmps.getD s undef) (st.σ s)) {n : Nat} (hn : asNat (ev st.σ x') = some n) :
    ∃ kd, a.eval x = .int kd (n : Int) := by
  have vx := opnd_val (a := a) hx hs
  obtain ⟨kd, m, e, h0, h1⟩ := asNat_some hn
  have := Rep.inv_int (e ▸ vx.rep)
  exact ⟨kd, by rw [this]; congr 1; omega⟩

/-- the cells of many zero values -/
theorem zeros_rep {t : TypeId} {zs : List D} {i : TypeInfo} {z : Value} (hz : zeroT P t = some zs) (hi : P.info? t = some i) (hzv : i.zero = some z) :
    z.cells.size = zs.length ∧ (∀ (jj : Nat) (d : D), zs[jj]? = some d → LitOk k (z.cells.getD jj undef) d) := by
  obtain ⟨i', z', hi', hz', hl, hd⟩ := zeroT_ok L (k := k) hz
  rw [hi] at hi'; injection hi' with hi'; subst hi'
  rw [hzv] at hz'; injection hz' with hz'; subst hz'
  exact ⟨by simpa using hl, hd⟩

theorem does_mkSl {s bytes : Nat} {t e tl tc : TypeId} {i : TypeInfo} {x y : Operand} {x' y' : Opnd} {zs : List D} (ho : o.op = .makeSlice t x y) (hu : P.underlying t = some (.slice e)) (hi : P.info? e = some i) (hsz : i.size = s) (hby : i.bytes = bytes)
    (hz : zeroT P e = some zs) (hx : opnd P tl x = some x') (hy : opnd P tc y = some y') {n : Nat} (hlx : asNat (ev st.σ x') = some n) (hly : asNat (ev st.σ y') = some n) (hzl : zs.length = s)
    (hs1 : ∀ s ∈ x'.slots, Val k δ st B T (a.tmps.getD s undef) (st.σ s)) (hs2 : ∀ s ∈ y'.slots, Val k δ st B T (a.tmps.getD s undef) (st.σ s)) (h1 : n * bytes ≤ LIM) (h2 : n ≤ LIM) :
    Does P pol a o δ j k st B T (.vsl δ (st.m + j) 0 n s n) { st with S := upd2 st.S δ (st.m + j) (.cells (List.replicate n zs).flatten) } := by
  obtain ⟨kl, e1⟩ := asNat_val L hx hs1 hlx
  obtain ⟨kc, e2⟩ := asNat_val L hy hs2 hly
  subst hsz hby
  obtain ⟨i', z, hi', hzv, _, _⟩ := zeroT_ok L (k := k) hz
  rw [hi] at hi'; injection hi' with hi'; subst hi'
  obtain ⟨hzs, hd⟩ := zeros_rep L hz hi hzv
  have hbn : (i.bytes : Int) * (n : Int) ≤ 281474976710656 := by
    have : i.bytes * n ≤ 281474976710656 := by rw [Nat.mul_comm]; unfold LIM at h1; omega
    have e : (i.bytes : Int) * (n : Int) = ((i.bytes * n : Nat) : Int) := (Int.natCast_mul _ _).symm
    rw [e]; omega
  have hrun := run_make (P := P) k.w t e i z hu hi hzv kl kc (n : Int) (n : Int) (by omega) (Int.le_refl _) hbn (by unfold LIM at h2; omega)
  simp only [Int.toNat_natCast] at hrun
  have hmc := madeCells_get z.cells n i.size (by omega)
  have hds := replicate_flat_get zs n
  rw [hzl] at hds
  refine does_newBox L (w0 := k.w) ⟨rfl, rfl, rfl, rfl⟩ (cs := madeCells z.cells (n * i.size)) (e := e) (fr := (0, 0)) (ds := (List.replicate n zs).flatten) ?_ (by omega) ?_ ?_ ?_ (v := .slice (some ⟨k.w.heap.size, 0, none⟩) n n) ?_ ?_ (by simp)
  · rw [replicate_flat_len, size_madeCells, hzl]; exact Nat.le_refl _
  · intro jj d hdd
    have hlt := (List.getElem?_eq_some_iff.1 hdd).1
    rw [replicate_flat_len, hzl] at hlt
    rw [hds jj hlt] at hdd
    rw [Array.getD_eq_getD_getElem?, hmc jj hlt]
    exact (hd _ d hdd).rep
  · intro d hdd
    obtain ⟨l, hl, hdl⟩ := List.mem_flatten.1 hdd
    obtain ⟨_, rfl⟩ := List.mem_replicate.1 hl
    obtain ⟨jj, hj⟩ := List.getElem?_of_mem hdl
    exact ⟨(hd jj d hj).one, (hd jj d hj).up δ⟩
  · intro d hdd
    obtain ⟨l, hl, hdl⟩ := List.mem_flatten.1 hdd
    obtain ⟨_, rfl⟩ := List.mem_replicate.1 hl
    obtain ⟨jj, hj⟩ := List.getElem?_of_mem hdl
    exact LitOk.plain (hd jj d hj)
  · rw [exec_make ho, e1, e2, Sem.run_bind, hrun]
    rfl
  · intro k' hk
    exact .vsl (Nat.le_refl _) (Nat.le_refl _) (fun _ => ⟨_, hk, rfl⟩)

theorem does_mkCap {s bytes : Nat} {t e tc : TypeId} {i : TypeInfo} {z : Value} {kl : IntKind} {y : Operand} {y' : Opnd} (ho : o.op = .makeSlice t (.const (.int kl 0)) y) (hu : P.underlying t = some (.slice e)) (hi : P.info? e = some i) (hzv : i.zero = some z) (hsz : i.size = s) (hby : i.bytes = bytes)
    (hzs : z.cells.size = s) (hy : opnd P tc y = some y') {n : Nat} (hly : asNat (ev st.σ y') = some n)
    (hs2 : ∀ s ∈ y'.slots, Val k δ st B T (a.tmps.getD s undef) (st.σ s)) (h1 : n * bytes ≤ LIM) (h2 : n ≤ LIM) :
    Does P pol a o δ j k st B T (.slice (.tok (st.nt + j)) s []) (newTok j st) := by
  obtain ⟨kc, e2⟩ := asNat_val L hy hs2 hly
  subst hsz hby
  have hbn : (i.bytes : Int) * (n : Int) ≤ 281474976710656 := by
    have : i.bytes * n ≤ 281474976710656 := by rw [Nat.mul_comm]; unfold LIM at h1; omega
    have e : (i.bytes : Int) * (n : Int) = ((i.bytes * n : Nat) : Int) := (Int.natCast_mul _ _).symm
    rw [e]; omega
  have hrun := run_make (P := P) k.w t e i z hu hi hzv kl kc 0 (n : Int) (by omega) (by omega) hbn (by unfold LIM at h2; omega)
  simp only [Int.toNat_natCast, Int.toNat_zero] at hrun
  let r := some (k.w.heap.size, 0)
  let cv := madeCells z.cells (n * i.size)
  have htk : Takes k δ j st st none := ⟨.inl ⟨rfl, rfl, rfl, by simp⟩, fun t h => ⟨h, by simp⟩, fun t h h' => by simp_all, by simp, rfl, rfl, rfl, rfl, rfl⟩
  have hstep : ∀ low, low ≤ δ → (∀ d i off, (none : Option Hold) = some (Hold.cell d i off) → low ≤ d) → Step δ low k ⟨push k.w (.cells cv e (0, 0)), k.β, swapSp k.sp none (.tok δ (st.nt + j)) r⟩ := by
    intro low hl hcl
    obtain ⟨c1, c2⟩ := takes_step L htk (r := r) hl hcl
    refine push_step (w := k.w) ⟨rfl, rfl, rfl, rfl⟩ (fun _ _ _ h => h) (fun _ _ _ h => .inl h) ?_ c1 c2 L.good.lt
    intro y b2 o2 hy
    rcases swapSp_some hy with ⟨_, e⟩ | ⟨_, _, e⟩
    · injection e with e; injection e with e1 e2; exact .inl e1.symm
    · exact .inr ⟨y, o2, e, Nat.le_refl _⟩
  have hnbox : ∀ d i, k.β d i ≠ some k.w.heap.size := fun d i e => by have := L.good.lt d i _ e; omega
  have hnsp : ∀ y o2, k.sp y ≠ some (k.w.heap.size, o2) := fun y o2 e => by have := L.good.splt y _ o2 e; omega
  refine ⟨.value (.slice (some ⟨k.w.heap.size, 0, none⟩) 0 n), _, ⟨push k.w (.cells cv e (0, 0)), k.β, swapSp k.sp none (.tok δ (st.nt + j)) r⟩, ?_, .inl rfl, chg_take L htk hstep ?_ ?_, ?_, ?_, .inr rfl, fun h => ?_⟩
  · have e1 : a.eval (.const (.int kl 0)) = .int kl 0 := rfl
    rw [exec_make ho, e1, e2, Sem.run_bind, hrun]
    rfl
  · intro d i b2 hb2
    exact push_old _ _ (L.good.lt d i b2 hb2)
  · intro b2 o2 e2
    injection e2 with e2; injection e2 with e3 e4
    subst e3
    exact ⟨by rw [push_size]; exact Nat.lt_succ_self _, hnbox, fun y o3 hy => absurd hy (hnsp y o3)⟩
  · exact .slice 0 0 (fun _ => undef) rfl (Nat.zero_le _) (by simp) rfl (by simp) (by simp) (by simp)
  · intro _
    refine .inl ⟨k.w.heap.size, 0, swapSp_new, 0, rfl, by simp, cv, e, push_new k.w _, ?_⟩
    show 0 + n * i.size ≤ (madeCells _ _).size
    rw [size_madeCells]; omega
  · simp [newTok, upd] at h

theorem does_strBytes {src dst e tx : TypeId} {x : Operand} {x' : Opnd} {l : List UInt8} (ho : o.op = .convert src dst x) (hsrc : P.underlying src = some .string) (hdst : P.underlying dst = some (.slice e)) (he : P.underlying e = some (.int .u8)) (hx : opnd P tx x = some x')
    (hs : ∀ s ∈ (IOp.strBytes x').slots, Val k δ st B T (a.tmps.getD s undef) (st.σ s)) (hv : ev st.σ x' = .str l) :
    Does P pol a o δ j k st B T (.vsl δ (st.m + j) 0 l.length 1 l.length) { st with S := upd2 st.S δ (st.m + j) (.cells (l.map fun b => .int .u8 (b.toNat : Int))) } := by
  have vx := opnd_val (a := a) hx fun s h => hs s (by simpa [IOp.slots] using h)
  have r := Rep.inv_str (hv ▸ vx.rep)
  have hz : (ByteArray.mk l.toArray).size = l.length := by simp [ByteArray.size]
  have hrun := run_bytes_of_string (P := P) k.w src dst e ⟨l.toArray⟩ hsrc hdst he
  rw [hz] at hrun
  have hcap := grownCap_ge k.w l.length 0 e
  refine does_newBox L (w0 := k.w.drew) ⟨rfl, rfl, rfl, rfl⟩ (cs := bytesRow ⟨l.toArray⟩ (grownCap k.w l.length 0 e)) (e := e) (fr := ((bytesRow ⟨l.toArray⟩ (grownCap k.w l.length 0 e)).size, (bytesRow ⟨l.toArray⟩ (grownCap k.w l.length 0 e)).size + 1))
    (ds := l.map fun b => .int .u8 (b.toNat : Int)) ?_ (by intro jj hj; simp only; omega) ?_ ?_ ?_ (v := .slice (some ⟨k.w.heap.size, 0, none⟩) l.length (grownCap k.w l.length 0 e)) ?_ ?_ ?_
  · simp [bytesRow]
  · intro jj d hd
    simp only [List.getElem?_map, Option.map_eq_some_iff] at hd
    obtain ⟨b, hb, rfl⟩ := hd
    have hlt := (List.getElem?_eq_some_iff.1 hb).1
    have := bytesRow_at ⟨l.toArray⟩ (grownCap k.w l.length 0 e) jj (by simpa using hlt)
    rw [Array.getD_eq_getD_getElem?, this]
    have hbe : l[jj] = b := (List.getElem?_eq_some_iff.1 hb).2
    simp [hbe]
    exact .int _ _
  · intro d hd; obtain ⟨b, _, rfl⟩ := List.mem_map.1 hd; exact ⟨rfl, rfl⟩
  · intro d hd; obtain ⟨b, _, rfl⟩ := List.mem_map.1 hd; trivial
  · rw [exec_conv ho, r, Sem.run_bind, hrun]
    rfl
  · intro k' hk
    exact .vsl (Nat.le_refl _) hcap (fun _ => ⟨_, hk, rfl⟩)
  · intro tk s xs h; cases h

omit L in
theorem bytesOf_get : ∀ {cs : List D} {l : List UInt8}, bytesOf cs = some l → ∃ ns : List Int, cs = ns.map (D.int .u8) ∧ l = ns.map fun n => UInt8.ofNat n.toNat
  | [], l, h => by simp [bytesOf] at h; subst h; exact ⟨[], rfl, rfl⟩
  | c :: cs, l, h => by
    unfold bytesOf at h
    split at h
    · rename_i e; simp at e
    · rename_i n cs' e
      injection e with e1 e2
      subst e1 e2
      split at h
      · rename_i l' h'
        simp at h; subst h
        obtain ⟨ns, e1, e2⟩ := bytesOf_get h'
        exact ⟨n :: ns, by simp [e1], by simp [e2]⟩
      · simp at h
    · simp at h

theorem does_bytesStr {src dst e tx : TypeId} {x : Operand} {x' : Opnd} {s1 : Nat} {ys : List D} {l : List UInt8} (ho : o.op = .convert src dst x) (hsrc : P.underlying src = some (.slice e)) (hdst : P.underlying dst = some .string) (he : P.underlying e = some (.int .u8)) (hx : opnd P tx x = some x')
    (hs : ∀ s ∈ (IOp.bytesStr x').slots, Val k δ st B T (a.tmps.getD s undef) (st.σ s)) (hv : srcOf st.S false (ev st.σ x') = some (s1, ys)) (hl : bytesOf ys = some l) :
    Does P pol a o δ j k st B T (.str l) st := by
  have vx := opnd_val (a := a) hx fun s h => hs s (by simpa [IOp.slots] using h)
  obtain ⟨ns, rfl, rfl⟩ := bytesOf_get hl
  obtain ⟨news, hsr, hr, hel⟩ := src_ok (size := s1) L.store vx.rep hv (.inl rfl)
  have hfm : (ns.map (D.int .u8)).flatMap D.cells = ns.map (D.int .u8) := by
    clear hl hv hsr hr hel
    induction ns with
    | nil => rfl
    | cons n ns ih => simp [D.cells, ih]
  rw [hfm] at hr
  have hnews : news = ns.map (Value.int .u8) := by
    apply List.ext_getElem?
    intro jj
    by_cases q : jj < ns.length
    · have h1 : (ns.map (D.int .u8))[jj]? = some (D.int .u8 ns[jj]) := by simp [q]
      have h2 := Rep.inv_int (hr.2 jj _ h1)
      rw [List.getD_eq_getElem?_getD] at h2
      have hq : jj < news.length := by rw [hr.1]; simpa using q
      rw [List.getElem?_eq_getElem hq] at h2 ⊢
      simp at h2
      simp [q, h2]
    · have hq : ¬ jj < news.length := by rw [hr.1]; simpa using q
      rw [List.getElem?_eq_none (by omega), List.getElem?_eq_none (by simp; omega)]
  refine .quiet L (v := .string ⟨(ns.map fun n => UInt8.ofNat n.toNat).toArray⟩) ?_ (.plain (.str _) (by simp))
  have key : ∀ ad cap, a.eval x = .slice ad ns.length cap → (ad = none → ns = []) → s1 = 1 ∨ ns = [] → (execOp a.eval o).run P k.w = .ok (.value (.string ⟨(ns.map fun n => UInt8.ofNat n.toNat).toArray⟩)) k.w := by
    intro ad cap r hn h1
    have hcv : (convert src dst (.slice ad ns.length cap)).run P k.w = .ok (.string ⟨(ns.map fun n => UInt8.ofNat n.toNat).toArray⟩) k.w := by
      rw [run_convert_bytes_string k.w src dst e ad ns.length cap hsrc he hdst]
      cases ad with
      | none =>
        obtain rfl := hn rfl
        simp [Conv.bytesToString]
        rfl
      | some ad =>
        have hload : (loadCells ad ns.length).run P k.w = .ok (ns.map (Value.int .u8)).toArray k.w := by
          have := hsr.cells k.w rfl
          rw [r, hnews] at this
          simp only [Builtin.firstCells, List.length_map] at this
          rcases h1 with rfl | rfl
          · simpa using this
          · simpa using this
        rw [run_bytesToString k.w ad ns.length cap ns hload, foldl_push_bytes]
        have he0 : ByteArray.empty.data = #[] := rfl
        rw [he0]
        simp
    rw [exec_conv ho, r, Sem.run_bind, hcv]
    rfl
  have hs1 : s1 = 1 ∨ ns = [] := by
    have := hsr.size
    rw [hnews] at this
    simp only [List.length_map] at this
    rcases Nat.eq_zero_or_pos ns.length with h | h
    · exact .inr (List.eq_nil_of_length_eq_zero h)
    · left
      have h2 : ns.length * 1 = ns.length * s1 := by omega
      exact (Nat.eq_of_mul_eq_mul_left h h2).symm
  unfold srcOf at hv
  split at hv
  · rename_i tk s ys' e1
    simp only [Option.some.injEq, Prod.mk.injEq] at hv
    obtain ⟨rfl, rfl⟩ := hv
    obtain ⟨ad, cap, b, off, vs, r, hle, hf, hex, ha, hc, hrr⟩ := Rep.inv_slice (e1 ▸ vx.rep)
    refine key ad cap (by simpa using r) (fun h => ?_) hs1
    rcases Nat.eq_zero_or_pos ns.length with h' | h'
    · exact List.eq_nil_of_length_eq_zero h'
    · have := ha (by simpa using h'); rw [h] at this; cases this
  · rename_i e0 _; cases e0
  · rename_i d' i' off len s c _ e1
    split at hv
    · split at hv
      · simp only [Option.some.injEq, Prod.mk.injEq] at hv
        obtain ⟨rfl, hch⟩ := hv
        obtain ⟨ad, cap, r, hlc, hcc, hb⟩ := Rep.inv_vsl (e1 ▸ vx.rep)
        have hlen : len = ns.length := by have := congrArg List.length hch; rw [chunks_len] at this; simpa using this
        subst hlen
        refine key ad cap r (fun h => ?_) hs1
        rcases Nat.eq_zero_or_pos ns.length with h' | h'
        · exact List.eq_nil_of_length_eq_zero h'
        · obtain ⟨b, _, e⟩ := hb (by omega); rw [h] at e; cases e
      · simp at hv
    · simp at hv
  · simp at hv
end
end Go.Mia
namespace Go.Mia
open Go

theorem foldl_set (off : Nat) : ∀ (l : List Value) (m : Nat) (cells : Array Value),
    ((l.zipIdx m).foldl (fun cs (p : Value × Nat) => cs.setIfInBounds (off + p.2) p.1) cells).size = cells.size ∧
    ∀ jj, ((l.zipIdx m).foldl (fun cs (p : Value × Nat) => cs.setIfInBounds (off + p.2) p.1) cells)[jj]? = if off + m ≤ jj ∧ jj < off + m + l.length ∧ jj < cells.size then l[jj - (off + m)]? else cells[jj]?
  | [], m, cells => by
    refine ⟨rfl, fun jj => ?_⟩
    simp only [List.zipIdx_nil, List.foldl_nil, List.length_nil, Nat.add_zero]
    rw [if_neg (by omega)]
  | v :: l, m, cells => by
    obtain ⟨h1, h2⟩ := foldl_set off l (m + 1) (cells.setIfInBounds (off + m) v)
    refine ⟨by simpa using h1, fun jj => ?_⟩
    simp only [List.zipIdx_cons, List.foldl_cons]
    rw [h2]
    simp only [Array.size_setIfInBounds, List.length_cons, Array.getElem?_setIfInBounds]
    by_cases q : off + (m + 1) ≤ jj ∧ jj < off + (m + 1) + l.length ∧ jj < cells.size
    · rw [if_pos q, if_pos (by omega), show jj - (off + m) = jj - (off + (m + 1)) + 1 by omega, List.getElem?_cons_succ]
    · rw [if_neg q]
      by_cases q2 : off + m = jj
      · subst q2
        by_cases q3 : off + m < cells.size
        · simp [q3]
        · simp [q3]
      · rw [if_neg (by omega)]; first | rfl | (rw [if_neg (by omega)])

/-- parts that are laid over cells -/
inductive Parts (k : K) (place : Nat → Option (Nat × Nat)) : List (Nat × Value) → List (Nat × Nat × D) → Prop
  | nil : Parts k place [] []
  | cons {i off s : Nat} {v : Value} {d : D} {ps : List (Nat × Value)} {qs : List (Nat × Nat × D)} (h : place i = some (off, s)) (hr : Rep k v d) (t : Parts k place ps qs) : Parts k place ((i, v) :: ps) ((off, s, d) :: qs)

def CellsOk (ds : List D) : Prop := ∀ d ∈ ds, d.cells = [d] ∧ d.isVal = true

theorem degr_val (d : D) : d.degr.isVal = d.isVal := by cases d <;> rfl
theorem degr_len (d : D) : d.degr.cells.length = d.cells.length := by cases d <;> simp [D.degr, D.degr1, D.cells]
theorem degr_cellsOk {k : K} {v : Value} {d : D} (h : Rep k v d) (hv : d.isVal = true) : CellsOk d.degr.cells := by
  have h' := h.degr
  have hv' : d.degr.isVal = true := by rw [degr_val]; exact hv
  intro c hc
  refine ⟨(h'.cells hv').2.1 c hc, ?_⟩
  cases h' : d.degr with
  | agg cs =>
    rw [h'] at hc
    have hr := h.degr
    rw [h'] at hr
    obtain ⟨vs, _, _, h1⟩ := Rep.inv_agg hr
    exact (h1 c hc).2
  | _ => rw [h'] at hc hv'; simp [D.cells] at hc; subst hc; exact hv'

theorem fills_ok {k : K} {place : Nat → Option (Nat × Nat)} {ps : List (Nat × Value)} {qs : List (Nat × Nat × D)} (hp : Parts k place ps qs) : ∀ {cells : Array Value} {zs zs' : List D},
    Reps k cells.toList zs → fills zs qs = some zs' → ∃ cells', Instr.fill place cells ps = some cells' ∧ Reps k cells'.toList zs' ∧ (CellsOk zs → CellsOk zs') := by
  induction hp with
  | nil =>
    intro cells zs zs' hr hf
    simp [fills] at hf; subst hf
    exact ⟨cells, rfl, hr, fun h => h⟩
  | @cons i off s v d ps qs h hrd t ih =>
    intro cells zs zs' hr hf
    simp only [fills] at hf
    split at hf
    · rename_i hcond
      obtain ⟨hl, hoff, hv⟩ := hcond
      have hreps := (hrd.degr.cells (by rw [degr_val]; exact hv)).1
      have hlen : v.cells.size = s := by have := hreps.1; rw [degr_len] at this; simp at this; omega
      have hsz : cells.size = zs.length := by have := hr.1; simpa using this
      have hdl : d.degr.cells.length = s := by rw [degr_len]; exact hl
      obtain ⟨f1, f2⟩ := foldl_set off v.cells.toList 0 cells
      have hset := setCells_get zs d.degr.cells off (by omega)
      have hset2 := setCells_len zs d.degr.cells off (by omega)
      have hr' : Reps k ((v.cells.toList.zipIdx 0).foldl (fun cs (p : Value × Nat) => cs.setIfInBounds (off + p.2) p.1) cells).toList (setCells zs off d.degr.cells) := by
        refine ⟨by rw [hset2]; simp only [Array.length_toList]; omega, fun jj e he => ?_⟩
        rw [hset] at he
        rw [List.getD_eq_getElem?_getD, Array.getElem?_toList, f2]
        simp only [Nat.add_zero, Array.length_toList]
        by_cases q1 : jj < off
        · rw [if_pos q1] at he
          rw [if_neg (by omega)]
          have := hr.2 jj e he
          rwa [List.getD_eq_getElem?_getD, Array.getElem?_toList] at this
        · rw [if_neg q1] at he
          by_cases q2 : jj < off + d.degr.cells.length
          · rw [if_pos q2] at he
            rw [if_pos (by omega)]
            have := hreps.2 _ e he
            rwa [List.getD_eq_getElem?_getD] at this
          · rw [if_neg q2] at he
            rw [if_neg (by omega)]
            have := hr.2 jj e he
            rwa [List.getD_eq_getElem?_getD, Array.getElem?_toList] at this
      have hc' : CellsOk zs → CellsOk (setCells zs off d.degr.cells) := by
        intro hc c hcm
        obtain ⟨jj, hj⟩ := List.getElem?_of_mem hcm
        rw [hset] at hj
        split at hj
        · exact hc c (List.mem_of_getElem? hj)
        · split at hj
          · exact degr_cellsOk hrd hv c (List.mem_of_getElem? hj)
          · exact hc c (List.mem_of_getElem? hj)
      obtain ⟨cells', g1, g2, g3⟩ := ih hr' hf
      refine ⟨cells', ?_, g2, fun h => g3 (hc' h)⟩
      simp only [Instr.fill, h]
      rw [if_neg (by simp; omega)]
      rw [← g1]
      congr 1
      rw [← Array.foldl_toList, Array.toList_zipIdx]
    · simp at hf

section
variable {P : Program} {pol : Pol} {k : K} {δ j : Nat} {st st' : St} {B T : Nat → Prop} {a : Act} {o : Oper} (L : Loc P pol k δ j st B T)
include L

theorem partsOf_ok {fs : Array Field} {place : Nat → Option (Nat × Nat)} (hpl : ∀ (i : Nat) (f : Field) (s : Nat), fs[i]? = some f → sizeT P f.type = some s → place i = some (f.offset, s)) : ∀ {ps : List (Nat × Operand)} {qs : List (Nat × Nat × Opnd)}, partsOf P fs ps = some qs →
    (∀ s ∈ qs.flatMap (fun p => p.2.2.slots), Val k δ st B T (a.tmps.getD s undef) (st.σ s)) → Parts k place (ps.map fun p => (p.1, a.eval p.2)) (qs.map fun p => (p.1, p.2.1, ev st.σ p.2.2))
  | [], qs, h, hs => by simp [partsOf] at h; subst h; exact .nil
  | (i, x) :: ps, qs, h, hs => by
    simp only [partsOf] at h
    split at h
    · simp at h
    · rename_i f hf
      split at h
      · rename_i y s qs' h1 h2 h3
        simp at h; subst h
        refine .cons (hpl i f s hf h2) (opnd_val (a := a) h1 fun s' hs' => hs s' (by simp [hs'])).rep (partsOf_ok hpl h3 fun s' hs' => hs s' ?_)
        simp only [List.flatMap_cons, List.mem_append]; exact .inr hs'
      · simp at h
theorem partsArr_ok {e : TypeId} {s : Nat} {place : Nat → Option (Nat × Nat)} (hpl : ∀ (i : Nat), place i = some (i * s, s)) : ∀ {ps : List (Nat × Operand)} {qs : List (Nat × Nat × Opnd)}, partsArr P e s ps = some qs →
    (∀ s ∈ qs.flatMap (fun p => p.2.2.slots), Val k δ st B T (a.tmps.getD s undef) (st.σ s)) → Parts k place (ps.map fun p => (p.1, a.eval p.2)) (qs.map fun p => (p.1, p.2.1, ev st.σ p.2.2))
  | [], qs, h, hs => by simp [partsArr] at h; subst h; exact .nil
  | (i, x) :: ps, qs, h, hs => by
    simp only [partsArr] at h
    split at h
    · rename_i y qs' h1 h3
      simp at h; subst h
      refine .cons (hpl i) (opnd_val (a := a) h1 fun s' hs' => hs s' (by simp [hs'])).rep (partsArr_ok hpl h3 fun s' hs' => hs s' ?_)
      simp only [List.flatMap_cons, List.mem_append]; exact .inr hs'
    · simp at h

omit L in
theorem places_ok {fs : List Field} (h : ∀ f ∈ fs, (P.info? f.type).isSome = true) : ∃ pl, fs.mapM (fun f => (P.info? f.type).map fun i => (f.offset, i.size)) = some pl ∧ ∀ (i : Nat) (f : Field) (s : Nat), fs[i]? = some f → sizeT P f.type = some s → pl[i]? = some (f.offset, s) := by
  induction fs with
  | nil => exact ⟨[], rfl, by simp⟩
  | cons f fs ih =>
    obtain ⟨pl, h1, h2⟩ := ih fun f hf => h f (by simp [hf])
    obtain ⟨i, hi⟩ := Option.isSome_iff_exists.1 (h f (by simp))
    refine ⟨(f.offset, i.size) :: pl, by simp [List.mapM_cons, hi, h1], fun n g s hn hs => ?_⟩
    cases n with
    | zero => simp at hn; subst hn; simp [sizeT, hi] at hs; simp [hs]
    | succ n => simpa using h2 n g s (by simpa using hn) hs

theorem does_build {t : TypeId} {ps : Array (Nat × Operand)} {zs : List D} {qs : List (Nat × Nat × Opnd)} (ho : o.op = .build t ps) (hz : zeroT P t = some zs)
    (hu : (∃ fs, P.underlying t = some (.struct fs) ∧ fs.all (fun f => (P.info? f.type).isSome) = true ∧ partsOf P fs ps.toList = some qs) ∨ (∃ n e s, P.underlying t = some (.array n e) ∧ sizeT P e = some s ∧ partsArr P e s ps.toList = some qs))
    (hs : ∀ s ∈ (IOp.build zs qs).slots, Val k δ st B T (a.tmps.getD s undef) (st.σ s)) {cs : List D} (he : fills zs (qs.map fun p => (p.1, p.2.1, ev st.σ p.2.2)) = some cs) :
    Does P pol a o δ j k st B T (.agg cs) st := by
  obtain ⟨i, z, hi, hzv, hl, hd⟩ := zeroT_ok L (k := k) hz
  have hzr : Reps k z.cells.toList zs := ⟨hl, fun jj d hj => by have := (hd jj d hj).rep; rwa [Array.getD_eq_getD_getElem?, ← Array.getElem?_toList, ← List.getD_eq_getElem?_getD] at this⟩
  have hzc : CellsOk zs := fun d hdm => by
    obtain ⟨jj, hj⟩ := List.getElem?_of_mem hdm
    exact ⟨(hd jj d hj).one, (hd jj d hj).val⟩
  have hexec : execOp a.eval o = (do let v ← Instr.build t (ps.map fun p => (p.1, a.eval p.2)); pure (.value v)) := by unfold execOp; rw [ho]
  have hs' : ∀ s ∈ qs.flatMap (fun p => p.2.2.slots), Val k δ st B T (a.tmps.getD s undef) (st.σ s) := by simpa [IOp.slots] using hs
  have fin : ∀ {place : Nat → Option (Nat × Nat)}, Parts k place (ps.toList.map fun p => (p.1, a.eval p.2)) (qs.map fun p => (p.1, p.2.1, ev st.σ p.2.2)) →
      (∀ cells', Instr.fill place z.cells (ps.toList.map fun p => (p.1, a.eval p.2)) = some cells' → (Instr.build t (ps.map fun p => (p.1, a.eval p.2))).run P k.w = .ok (.agg cells') k.w) → Does P pol a o δ j k st B T (.agg cs) st := by
    intro place hp hrun
    obtain ⟨cells', g1, g2, g3⟩ := fills_ok hp hzr he
    refine .quiet L (v := .agg cells') ?_ (.plain ?_ (by simp))
    · rw [hexec, Sem.run_bind, hrun cells' g1]; rfl
    · have := Rep.agg (k := k) (cs := cs) cells'.toList g2.1 (fun d hdm => g3 hzc d hdm) g2.2
      simpa using this
  rcases hu with ⟨fs, hu, hall, hp⟩ | ⟨n, e, s, hu, hse, hp⟩
  · have hall' : ∀ f ∈ fs.toList, (P.info? f.type).isSome = true := by
      intro f hf
      rw [Array.all_eq_true'] at hall
      exact hall f (Array.mem_toList_iff.1 hf)
    obtain ⟨pl, h1, h2⟩ := places_ok hall'
    refine fin (place := (pl[·]?)) (partsOf_ok L (fun i f s hf hs => h2 i f s (by simpa using hf) hs) hp hs') fun cells' hf => ?_
    simp [Instr.build, run_underlying hu, typeInfo, zeroValue, hi, hzv, Array.mapM_eq_mapM_toList, run_places k.w _ _ h1, hf]
  · refine fin (place := fun i => some (i * s, s)) (partsArr_ok L (fun _ => rfl) hp hs') fun cells' hf => ?_
    simp [Instr.build, run_underlying hu, typeInfo, zeroValue, hi, hzv, run_size hse, hf]
end
end Go.Mia
namespace Go.Mia
open Go

def qsOf (s : Nat) : Nat → List D → List (Nat × Nat × D)
  | _, [] => []
  | m, d :: ds => (m * s, s, d) :: qsOf s (m + 1) ds

theorem fills_qs {s : Nat} : ∀ {ds : List D} {m : Nat} {zs : List D}, (∀ d ∈ ds, d.cells.length = s ∧ d.isVal = true) → (m + ds.length) * s ≤ zs.length →
    fills zs (qsOf s m ds) = some (zs.take (m * s) ++ (ds.map D.degr).flatMap D.cells ++ zs.drop ((m + ds.length) * s))
  | [], m, zs, _, _ => by simp [qsOf, fills]
  | d :: ds, m, zs, h, hl => by
    have hd := h d (by simp)
    have hmul : (m + (d :: ds).length) * s = m * s + s + ds.length * s := by rw [List.length_cons, Nat.add_mul, Nat.add_mul]; omega
    have hmul2 : (m + 1 + ds.length) * s = m * s + s + ds.length * s := by rw [Nat.add_mul, Nat.add_mul]; omega
    have hdl : d.degr.cells.length = s := by rw [degr_len]; exact hd.1
    rw [hmul] at hl
    simp only [qsOf, fills]
    rw [if_pos ⟨hd.1, by omega, hd.2⟩]
    have hset2 := setCells_len zs d.degr.cells (m * s) (by omega)
    rw [fills_qs (fun e he => h e (by simp [he])) (by rw [hmul2, hset2]; omega), hmul, hmul2]
    congr 1
    unfold setCells
    rw [hdl]
    have e1 : (m + 1) * s = m * s + s := by rw [Nat.add_mul]; omega
    have t1 : (zs.take (m * s) ++ d.degr.cells).length = m * s + s := by simp; omega
    rw [e1]
    rw [List.take_append_of_le_length (by omega), List.take_of_length_le (by omega), List.drop_append, List.drop_of_length_le (by omega), List.nil_append]
    simp only [List.map_cons, List.flatMap_cons, List.append_assoc]
    congr 3
    rw [List.drop_drop]
    congr 1
    omega

section
variable {P : Program} {pol : Pol} {k : K} {δ j : Nat} {st st' : St} {B T : Nat → Prop} {a : Act} {o : Oper} (L : Loc P pol k δ j st B T)
include L

theorem partsSl_ok {s : Nat} : ∀ {ps : List (Nat × Operand)} {ts : List TypeId} {es : List Opnd} {m : Nat}, inOrder m ps = true → opnds P ts (ps.map (·.2)) = some es →
    (∀ s ∈ es.flatMap Opnd.slots, Val k δ st B T (a.tmps.getD s undef) (st.σ s)) → Parts k (fun i => some (i * s, s)) (ps.map fun p => (p.1, a.eval p.2)) (qsOf s m ((evs st.σ es).map D.degr))
  | [], ts, es, m, _, h, hs => by simp [opnds] at h; subst h; exact .nil
  | (i, x) :: ps, ts, es, m, ho, h, hs => by
    simp only [inOrder, Bool.and_eq_true, beq_iff_eq] at ho
    obtain ⟨rfl, ho⟩ := ho
    have key : ∀ {t : TypeId} {ts' : List TypeId} {y : Opnd} {ys : List Opnd}, opnd P t x = some y → opnds P ts' (ps.map (·.2)) = some ys → es = y :: ys → Parts k (fun i => some (i * s, s)) (((i, x) :: ps).map fun p => (p.1, a.eval p.2)) (qsOf s i ((evs st.σ es).map D.degr)) := by
      intro t ts' y ys h1 h2 e
      subst e
      exact .cons rfl (opnd_val (a := a) h1 fun s' hs' => hs s' (by simp [hs'])).rep.degr (partsSl_ok ho h2 fun s' hs' => hs s' (by simp only [List.flatMap_cons, List.mem_append]; exact .inr hs'))
    cases ts with
    | nil =>
      simp only [List.map_cons, opnds] at h
      split at h
      · rename_i y ys h1 h2; simp at h; exact key h1 h2 h.symm
      · simp at h
    | cons t ts =>
      simp only [List.map_cons, opnds] at h
      split at h
      · rename_i y ys h1 h2; simp at h; exact key h1 h2 h.symm
      · simp at h

/-- a block that nobody knows -/
theorem chg_push {w0 : World} (hw : w0.heap = k.w.heap ∧ w0.os = k.w.os ∧ w0.tape = k.w.tape ∧ w0.output = k.w.output) (ob : Go.Obj) : Chg P pol δ j st st k ⟨push w0 ob, k.β, k.sp⟩ := by
  have hstep : ∀ low, low ≤ δ → Step δ low k ⟨push w0 ob, k.β, k.sp⟩ := fun low _ =>
    push_step hw (fun _ _ _ h => h) (fun _ _ _ h => .inl h) (fun h b o hh => .inr ⟨h, o, hh, Nat.le_refl _⟩) (fun _ _ _ _ => rfl) (fun _ _ _ => rfl) L.good.lt
  have hsz := (hstep 0 (Nat.zero_le _)).size
  have hold : ∀ d i b, k.β d i = some b → (push w0 ob).heap[b]? = k.w.heap[b]? := fun d i b hb => by rw [push_old _ _ (by rw [hw.1]; exact L.good.lt _ _ _ hb), hw.1]
  exact { ext := fun low h _ => (hstep low h).ext, low := Nat.le_refl _, good := ⟨L.good.inj, fun d i b hb => Nat.lt_of_lt_of_le (L.good.lt d i b hb) hsz, fun h b o ho => Nat.lt_of_lt_of_le (L.good.splt h b o ho) hsz, L.good.spinj, L.good.disj, L.good.cb⟩,
          β := fun _ _ _ => rfl, store := fun d i b hb => .inl ⟨rfl, hb, hold d i b hb, fun _ => rfl⟩, now := .inl ⟨rfl, fun _ _ _ _ => rfl, hold, rfl⟩, tok := fun t _ h => ⟨h, rfl⟩,
          dead := fun t _ h h' => by
            rcases h' with h' | h'
            · exact h'
            · simp_all
          tokf := fun _ _ _ => rfl, other := fun _ _ _ => rfl, lv := fun _ _ _ _ => rfl, tks := fun _ _ _ => rfl, m := rfl, nt := rfl, σ := rfl, pend := rfl, recd := rfl }

theorem does_buildSl {t e : TypeId} {n s : Nat} {i : TypeInfo} {z : Value} {ps : Array (Nat × Operand)} {ts : List TypeId} {es : List Opnd} (ho : o.op = .buildSlice t n ps) (hu : P.underlying t = some (.slice e)) (hi : P.info? e = some i) (hzv : i.zero = some z) (hsz : i.size = s)
    (hin : inOrder 0 ps.toList = true) (hn : ps.size = n) (hlim : n * s ≤ 2 ^ 24) (hop : opnds P ts (ps.toList.map (·.2)) = some es)
    (hs : ∀ s' ∈ (IOp.buildSl s es).slots, Val k δ st B T (a.tmps.getD s' undef) (st.σ s')) (he : elemsOk s ((evs st.σ es).map D.degr) = true) :
    Does P pol a o δ j k st B T (.slice .full s ((evs st.σ es).map D.degr)) st := by
  subst hsz
  have hp := partsSl_ok L (s := i.size) (m := 0) hin hop (by simpa [IOp.slots] using hs)
  have hlen : ((evs st.σ es).map D.degr).length = n := by simp [evs_len, opnds_len hop, hn]
  have hmem := elemsOk_mem he
  let base : Array Value := (Array.range (n * i.size)).map ((if n * i.size = 0 then #[] else z.cells)[· % (if n * i.size = 0 then #[] else z.cells).size]!)
  have hbase : base.size = n * i.size := by simp [base]
  have hreps : Reps k base.toList (List.replicate (n * i.size) D.undef) := ⟨by simp [hbase], fun jj d hd => by
    rw [List.getElem?_replicate] at hd
    split at hd
    · injection hd with hd; subst hd; exact .undef _
    · cases hd⟩
  have hf := fills_qs (s := i.size) (ds := (evs st.σ es).map D.degr) (m := 0) (zs := List.replicate (n * i.size) D.undef) (fun d hd => ⟨(hmem d hd).1, pure_val (hmem d hd).2.1⟩) (by simp only [Nat.zero_add, List.length_replicate, hlen]; exact Nat.le_refl _)
  obtain ⟨cells', g1, g2, _⟩ := fills_ok hp hreps hf
  simp only [Nat.zero_mul, List.take_zero, List.nil_append, Nat.zero_add, hlen, List.drop_replicate, Nat.sub_self, List.replicate_zero, List.append_nil] at g2
  have hdeg : ((evs st.σ es).map D.degr).map D.degr = (evs st.σ es).map D.degr := by
    rw [List.map_map]; congr 1; funext d; cases d <;> simp [D.degr, D.degr1, Function.comp_def]
    rename_i cs
    intro c _; cases c <;> rfl
  rw [hdeg] at g2
  have hrun : (Instr.buildSlice t n (ps.map fun p => (p.1, a.eval p.2))).run P k.w = .ok (.slice (some ⟨k.w.heap.size, 0, none⟩) n n) (push k.w (.cells cells' e (0, 0))) := by
    have hlim' : ¬ (16777216 < n * i.size) := by omega
    by_cases h0 : n * i.size = 0
    · have g1' := g1
      simp only [base, h0, if_true] at g1'
      simp [Instr.buildSlice, run_underlying hu, sizeOf, typeInfo, hi, hlim', h0, newRow] at g1' ⊢
      rw [g1']
      rfl
    · have g1' := g1
      simp only [base, h0, if_false] at g1'
      simp [Instr.buildSlice, run_underlying hu, sizeOf, typeInfo, zeroValue, hi, hzv, hlim', h0, newRow] at g1' ⊢
      rw [g1']
      rfl
  have hexec : execOp a.eval o = (do let v ← Instr.buildSlice t n (ps.map fun p => (p.1, a.eval p.2)); pure (.value v)) := by unfold execOp; rw [ho]
  have hnbox : ∀ d i, k.β d i ≠ some k.w.heap.size := fun d i e => by have := L.good.lt d i _ e; omega
  have hnsp : ∀ y o2, k.sp y ≠ some (k.w.heap.size, o2) := fun y o2 e => by have := L.good.splt y _ o2 e; omega
  have C := chg_push (δ := δ) (j := j) (st := st) (P := P) (pol := pol) L (w0 := k.w) ⟨rfl, rfl, rfl, rfl⟩ (.cells cells' e (0, 0))
  have E := C.ext 0 (Nat.zero_le _) (Nat.zero_le _)
  refine ⟨.value (.slice (some ⟨k.w.heap.size, 0, none⟩) n n), _, ⟨push k.w (.cells cells' e (0, 0)), k.β, k.sp⟩, by rw [hexec, Sem.run_bind, hrun]; rfl, .inl rfl, C, ?_, .plain (by simp), .plain (by simp), fun _ => L.ft⟩
  refine .slice k.w.heap.size 0 (fun jj => cells'.getD jj undef) hlen.symm (by omega) (fun _ => rfl) he (fun _ => rfl) (fun jj hjj => ⟨?_, hnbox, fun y o2 hy => absurd hy (hnsp y o2)⟩) (fun jj d hd => ?_)
  · have hlt : jj < cells'.size := by have := g2.1; simp only [Array.length_toList] at this; omega
    have := push_cell_new k.w cells' e (0, 0) (0 + jj)
    rw [this, Nat.zero_add, Array.getD_eq_getD_getElem?, Array.getElem?_eq_getElem hlt]
    rfl
  · have := g2.2 jj d hd
    rw [List.getD_eq_getElem?_getD, Array.getElem?_toList, ← Array.getD_eq_getD_getElem?] at this
    exact this.later E.later

theorem does_clear {t e tx : TypeId} {x : Operand} {x' : Opnd} {zs : List D} (ho : o.op = .call { callee := .builtin .clear, args := #[x], argTypes := #[t] }) (hu : P.underlying t = some (.slice e)) (hz : zeroT P e = some zs) (hx : opnd P tx x = some x')
    (hs : ∀ s' ∈ (IOp.clear zs x').slots, Val k δ st B T (a.tmps.getD s' undef) (st.σ s')) {d : D} (he : clearOp zs (ev st.σ x') st = some (d, st')) : Does P pol a o δ j k st B T d st' := by
  have vx := opnd_val (a := a) hx fun s h => hs s (by simpa [IOp.slots] using h)
  obtain ⟨i, z, hi, hzv, hzl, hzd⟩ := zeroT_ok L (k := k) hz
  unfold clearOp at he
  split at he
  · rename_i d' i' off len s c e1
    split at he
    · rename_i cs hS
      split at he
      · rename_i hc
        obtain ⟨hzs, hoff⟩ := hc
        simp only [Option.some.injEq, Prod.mk.injEq] at he
        obtain ⟨rfl, rfl⟩ := he
        obtain ⟨ad, cap, r, hlc, hcc, hb⟩ := Rep.inv_vsl (e1 ▸ vx.rep)
        rcases Nat.eq_zero_or_pos len with h0 | h0
        · subst h0
          refine ⟨.value (.tuple #[]), _, k, ?_, .inl rfl, ?_, .undef _, trivial, trivial, fun _ => L.ft⟩
          · cases ad <;> simp [execOp, ho, resolve, invoke, builtin, Builtin.clear_, run_underlying hu, r]
          · simp only [List.replicate_zero, List.flatten_nil, setCells_nil]
            exact chg_store L (.inr hS) (.inr rfl) (Nat.min_le_left _ _)
        · obtain ⟨b, hβ, rfl⟩ := hb (by omega)
          have hzc : (Builtin.zeroCells z.cells len).toList.length = len * s := by rw [Array.length_toList, size_zeroCells]; rw [← hzs, ← hzl]; simp
          have hzsz : z.cells.size = s := by simpa using hzl.trans hzs
          have hget : ∀ jj, jj < len * s → (Builtin.zeroCells z.cells len).toList[jj]? = some (z.cells.getD (jj % s) undef) := by
            intro jj hj
            have := madeCells_get z.cells len s hzsz jj hj
            rw [Array.getElem?_toList]
            rw [← this]
            simp [Builtin.zeroCells, madeCells, hzsz]
          have hr : Reps k (Builtin.zeroCells z.cells len).toList (List.replicate len zs).flatten := by
            refine ⟨by rw [hzc, replicate_flat_len, hzs], fun jj x hx => ?_⟩
            have hlt := (List.getElem?_eq_some_iff.1 hx).1
            rw [replicate_flat_len, hzs] at hlt
            rw [replicate_flat_get zs len jj (by rw [hzs]; exact hlt), hzs] at hx
            rw [List.getD_eq_getElem?_getD, hget jj hlt]
            exact (hzd _ x hx).rep
          have hfl : ∀ x ∈ (List.replicate len zs).flatten, ∃ v, LitOk k v x := by
            intro x hx
            obtain ⟨l, hl, hxl⟩ := List.mem_flatten.1 hx
            obtain ⟨_, rfl⟩ := List.mem_replicate.1 hl
            obtain ⟨jj, hj⟩ := List.getElem?_of_mem hxl
            exact ⟨_, hzd jj x hj⟩
          obtain ⟨k', hrun, C, hsp, hβ'⟩ := chg_write L hβ hS hr (by rw [replicate_flat_len, hzs]; exact hoff) (fun x hx => by obtain ⟨v, h⟩ := hfl x hx; exact ⟨h.one, h.up _⟩) (fun x hx => by obtain ⟨v, h⟩ := hfl x hx; exact LitOk.plain h)
            (by
              intro v hv
              obtain ⟨jj, hj⟩ := List.getElem?_of_mem hv
              have hlt := (List.getElem?_eq_some_iff.1 hj).1
              rw [hzc] at hlt
              rw [hget jj hlt] at hj
              injection hj with hj
              subst hj
              have hs0 : 0 < s := by
                rcases Nat.eq_zero_or_pos s with h | h
                · rw [h] at hlt; simp at hlt
                · exact h
              have hm : jj % s < zs.length := by rw [hzs]; exact Nat.mod_lt _ hs0
              exact (hzd _ _ (List.getElem?_eq_getElem hm)).vone)
          refine ⟨.value (.tuple #[]), _, k', ?_, .inl rfl, C, .undef _, trivial, trivial, fun _ => by rw [hsp]; exact L.ft⟩
          obtain ⟨m, rfl⟩ : ∃ m, len = m + 1 := ⟨len - 1, by omega⟩
          simp [execOp, ho, resolve, invoke, builtin, Builtin.clear_, run_underlying hu, r, zeroValue, typeInfo, hi, hzv, hrun]
      · simp at he
    · simp at he
  · simp at he
end
end Go.Mia
namespace Go.Mia
open Go

def IOp.goes : IOp → Bool
  | .call .. | .clone .. | .grow .. | .recov | .defer .. | .panic _ => true
  | _ => false

theorem sliceInfo_some {P : Program} {t e : TypeId} {s bytes : Nat} (h : sliceInfo P t = some (e, s, bytes)) : ∃ i, P.underlying t = some (.slice e) ∧ P.info? e = some i ∧ i.size = s ∧ i.bytes = bytes := by
  unfold sliceInfo at h
  split at h
  · rename_i e' hu
    simp only [Option.map_eq_some_iff, Prod.mk.injEq] at h
    obtain ⟨i, hi, rfl, rfl, rfl⟩ := h
    exact ⟨i, hu, hi, rfl, rfl⟩
  · simp at h

theorem sizeT_of {P : Program} {e : TypeId} {i : TypeInfo} (h : P.info? e = some i) : sizeT P e = some i.size := by simp [sizeT, h]
theorem zero_of {P : Program} {e : TypeId} {i : TypeInfo} {s : Nat} (hi : P.info? e = some i) (h : ((P.info? e).bind (·.zero)).any (fun z => z.cells.size == s) = true) : ∃ z, i.zero = some z ∧ z.cells.size = s := by
  rw [hi] at h
  cases hz : i.zero with
  | none => simp [hz] at h
  | some z => exact ⟨z, rfl, by simpa [hz] using h⟩

theorem isByte {P : Program} {e : TypeId} (h : (match P.underlying e with | some (.int .u8) => true | _ => false) = true) : P.underlying e = some (.int .u8) := by
  split at h
  · assumption
  · cases h
theorem const_int0 {P : Program} {x : Operand} {t : TypeId} {kl : IntKind} {n : Int} (h : opnd P t x = some (.const (.int kl n))) : ∃ kl', x = .const (.int kl' n) := by
  unfold opnd at h
  split at h
  · simp at h
  · rename_i v
    simp only [Option.map_eq_some_iff, Opnd.const.injEq] at h
    obtain ⟨d, hd, rfl⟩ := h
    unfold constD at hd
    split at hd
    · split at hd <;> simp at hd
    · unfold lit1 at hd
      split at hd <;> simp at hd
      obtain ⟨rfl, rfl⟩ := hd
      exact ⟨_, rfl⟩
  · simp at h
  · simp at h

section
variable {P : Program} {pol : Pol} {k : K} {δ j f : Nat} {st st' : St} {B T : Nat → Prop} {a : Act} {o : Oper} (L : Loc P pol k δ j st B T)
include L

theorem builtin_ok {c : Call} {b : Builtin} {io : IOp} (ho : o.op = .call c) (hc : c.callee = .builtin b) (ht : trBuiltin P pol f o c b = some io) (hg : io.goes = false)
    (hs : ∀ s ∈ io.slots, Val k δ st B T (a.tmps.getD s undef) (st.σ s)) {d : D} (he : evalOp δ j io st = some (d, st')) : Does P pol a o δ j k st B T d st' := by
  obtain ⟨callee, args, ats⟩ := c
  simp only at hc
  subst hc
  unfold trBuiltin at ht
  simp only at ht
  split at ht
  · -- len
    rename_i x t ts hargs hats
    have hargs' : args = #[x] := by apply Array.ext'; simpa using hargs
    have key : ∀ (lk : LenK) (x' : Opnd), (match lk with | .str => P.underlying t = some .string | .slice => ∃ e, P.underlying t = some (.slice e)) → opnd P t x = some x' → io = .len lk x' → Does P pol a o δ j k st B T d st' := by
      intro lk x' hu hx e
      subst e
      simp only [evalOp, Option.map_eq_some_iff, Prod.mk.injEq] at he
      obtain ⟨n, hn, rfl, rfl⟩ := he
      exact does_len L (ty := t) (ats := ats) (t := t) (ts := ts) hats (by rw [ho, hargs']) hu hx hs hn
    split at ht
    · rename_i hu
      simp only [Option.map_eq_some_iff] at ht
      obtain ⟨x', hx, rfl⟩ := ht
      exact key .str x' hu hx rfl
    · rename_i e hu
      simp only [Option.map_eq_some_iff] at ht
      obtain ⟨x', hx, rfl⟩ := ht
      exact key .slice x' ⟨e, hu⟩ hx rfl
    · simp at ht
  · -- max
    rename_i x xs t ts hargs hats
    split at ht
    · simp only [Option.map_eq_some_iff] at ht
      obtain ⟨ys, hy, rfl⟩ := ht
      simp only [evalOp] at he
      split at he
      · rename_i kd n ds hev
        simp only [Option.map_eq_some_iff, Prod.mk.injEq] at he
        obtain ⟨d', hd, rfl, rfl⟩ := he
        exact does_minmax L (isMax := true) ho rfl hargs hy hs hev hd
      · simp at he
    · simp at ht
  · rename_i x xs t ts hargs hats
    split at ht
    · simp only [Option.map_eq_some_iff] at ht
      obtain ⟨ys, hy, rfl⟩ := ht
      simp only [evalOp] at he
      split at he
      · rename_i kd n ds hev
        simp only [Option.map_eq_some_iff, Prod.mk.injEq] at he
        obtain ⟨d', hd, rfl, rfl⟩ := he
        exact does_minmax L (isMax := false) ho rfl hargs hy hs hev hd
      · simp at he
    · simp at ht
  · -- append
    rename_i x y t u hargs hats
    have hargs' : args = #[x, y] := by apply Array.ext'; simpa using hargs
    have hats' : ats = #[t, u] := by apply Array.ext'; simpa using hats
    subst hargs' hats'
    split at ht
    · rename_i e s bytes ud x' y' hsi hud hx hy
      obtain ⟨i, hut, hi, hsz, hby⟩ := sliceInfo_some hsi
      split at ht
      · rename_i hcond
        obtain ⟨c1, c2, c3, c4⟩ := hcond
        obtain ⟨z, hz, hzs⟩ := zero_of hi c4
        have key : ∀ (vec str : Bool), kindOfU P u → io = .append vec str s bytes x' y' → Does P pol a o δ j k st B T d st' := by
          intro vec str hku e'
          subst e'
          exact does_append L ⟨hut, hku, hi, hz, hsz, hzs, hby, c2, c1⟩ ho hx hy hs he
        split at ht
        · split at ht
          · simp only [if_true, Option.some.injEq] at ht
            exact key _ _ (.inr hud) ht.symm
          · simp at ht
        · simp only [Option.some.injEq] at ht
          exact key _ _ (.inl ⟨_, hud⟩) ht.symm
        · simp at ht
      · simp at ht
    · simp at ht
  · -- clear
    rename_i x t hargs hats
    have hargs' : args = #[x] := by apply Array.ext'; simpa using hargs
    have hats' : ats = #[t] := by apply Array.ext'; simpa using hats
    subst hargs' hats'
    split at ht
    · rename_i e s bytes hsi
      obtain ⟨i, hut, hi, hsz, hby⟩ := sliceInfo_some hsi
      split at ht
      · rename_i zs x' hz hx
        simp only [Option.some.injEq] at ht
        subst ht
        exact does_clear L ho hut hz hx hs he
      · simp at ht
    · simp at ht
  · simp at ht; subst ht; simp [IOp.goes] at hg
  · simp at ht

theorem op_ok {io : IOp} (ht : trOp P pol f o = some io) (hg : io.goes = false) (hs : ∀ s ∈ io.slots, Val k δ st B T (a.tmps.getD s undef) (st.σ s)) {d : D} (he : evalOp δ j io st = some (d, st')) :
    Does P pol a o δ j k st B T d st' := by
  unfold trOp at ht
  split at ht
  case h_1 x ho =>
    simp only [Option.map_eq_some_iff] at ht
    obtain ⟨y, hy, rfl⟩ := ht
    simp only [evalOp, Option.some.injEq, Prod.mk.injEq] at he
    obtain ⟨rfl, rfl⟩ := he
    exact does_mv L (.inl ho) hy hs
  case h_2 x ho =>
    simp only [Option.map_eq_some_iff] at ht
    obtain ⟨y, hy, rfl⟩ := ht
    simp only [evalOp, Option.some.injEq, Prod.mk.injEq] at he
    obtain ⟨rfl, rfl⟩ := he
    exact does_mv L (.inr ho) hy hs
  case h_3 c x y ho =>
    split at ht <;> simp at ht
    subst ht
    rename_i h1 h2 h3
    simp only [evalOp, Option.map_eq_some_iff, Prod.mk.injEq] at he
    obtain ⟨d', hd, rfl, rfl⟩ := he
    exact does_pick L ho h1 h2 h3 hs hd
  case h_4 t ho =>
    simp only [Option.map_eq_some_iff] at ht
    obtain ⟨zs, hz, rfl⟩ := ht
    simp only [evalOp, allocSt, Option.some.injEq, Prod.mk.injEq] at he
    obtain ⟨rfl, rfl⟩ := he
    exact does_alloc L ho hz
  case h_5 t x ho =>
    simp only [Option.map_eq_some_iff] at ht
    obtain ⟨x', hx, rfl⟩ := ht
    simp only [evalOp, allocSt] at he
    split at he <;> simp only [Option.some.injEq, Prod.mk.injEq, reduceCtorEq] at he
    obtain ⟨rfl, rfl⟩ := he
    exact does_box L ho hx hs (by assumption)
  case h_6 t ps ho =>
    split at ht
    · rename_i zs fs hz hu
      split at ht
      · rename_i hall
        simp only [Option.map_eq_some_iff] at ht
        obtain ⟨qs, hq, rfl⟩ := ht
        simp only [evalOp, Option.map_eq_some_iff, Prod.mk.injEq] at he
        obtain ⟨cs, hc, rfl, rfl⟩ := he
        exact does_build L ho hz (.inl ⟨fs, hu, hall, hq⟩) hs hc
      · simp at ht
    · rename_i zs n e hz hu
      split at ht
      · rename_i s hse
        simp only [Option.map_eq_some_iff] at ht
        obtain ⟨qs, hq, rfl⟩ := ht
        simp only [evalOp, Option.map_eq_some_iff, Prod.mk.injEq] at he
        obtain ⟨cs, hc, rfl, rfl⟩ := he
        exact does_build L ho hz (.inr ⟨n, e, s, hu, hse, hq⟩) hs hc
      · simp at ht
    · simp at ht
  case h_7 t n ps ho =>
    split at ht
    · rename_i e s bytes hsi
      obtain ⟨i, hut, hi, hsz, hby⟩ := sliceInfo_some hsi
      split at ht
      · rename_i hcond
        simp only [Bool.and_eq_true, beq_iff_eq, decide_eq_true_eq] at hcond
        obtain ⟨⟨⟨c1, c2⟩, c3⟩, c4⟩ := hcond
        obtain ⟨z, hz, hzs⟩ := zero_of hi c4
        simp only [Option.map_eq_some_iff] at ht
        obtain ⟨es, hes, rfl⟩ := ht
        simp only [evalOp] at he
        split at he <;> simp only [Option.some.injEq, Prod.mk.injEq, reduceCtorEq] at he
        obtain ⟨rfl, rfl⟩ := he
        exact does_buildSl L ho hut hi hz hsz c1 c2 c3 hes hs (by assumption)
      · simp at ht
    · simp at ht
  case h_8 t x ho =>
    split at ht
    · rename_i ag s x' h1 h2 h3
      split at ht <;> simp only [Option.some.injEq, reduceCtorEq] at ht
      rename_i hc
      subst ht
      simp only [evalOp, Option.map_eq_some_iff, Prod.mk.injEq] at he
      obtain ⟨d', hd, rfl, rfl⟩ := he
      exact does_load L ho h1 h2 (by intro h; subst h; simpa using hc) h3 hs hd
    · simp at ht
  case h_9 t x y ho =>
    split at ht <;> simp only [Option.some.injEq, reduceCtorEq] at ht
    rename_i s x' y' h1 h2 h3
    subst ht
    simp only [evalOp, Option.map_eq_some_iff, Prod.mk.injEq] at he
    obtain ⟨d', hd, rfl, rfl⟩ := he
    exact does_store L ho h1 h2 h3 hs hd
  case h_10 x ho =>
    simp only [Option.map_eq_some_iff] at ht
    obtain ⟨x', hx, rfl⟩ := ht
    simp only [evalOp, Option.map_eq_some_iff, Prod.mk.injEq] at he
    obtain ⟨d', hd, rfl, rfl⟩ := he
    exact does_nilck L ho hx hs hd
  case h_11 op t x y u ho =>
    split at ht
    · split at ht <;> simp only [Option.some.injEq, reduceCtorEq] at ht
      rename_i h1 h2 h3
      subst ht
      simp only [evalOp, Option.map_eq_some_iff, Prod.mk.injEq] at he
      obtain ⟨r, hr, rfl, rfl⟩ := he
      exact does_eq L (neg := false) ho rfl h1 h2 h3 hs hr
    · split at ht <;> simp only [Option.some.injEq, reduceCtorEq] at ht
      rename_i h1 h2 h3
      subst ht
      simp only [evalOp, Option.map_eq_some_iff, Prod.mk.injEq] at he
      obtain ⟨r, hr, rfl, rfl⟩ := he
      exact does_eq L (neg := true) ho rfl h1 h2 h3 hs hr
    · rename_i n1 n2
      split at ht <;> simp only [Option.some.injEq, reduceCtorEq] at ht
      rename_i h2 h3
      subst ht
      simp only [evalOp, Option.map_eq_some_iff, Prod.mk.injEq] at he
      obtain ⟨d', hd, rfl, rfl⟩ := he
      exact does_bin L ho h2 h3 (fun e => n1 e) (fun e => n2 e) hs hd
  case h_12 op t x ho =>
    simp only [Option.map_eq_some_iff] at ht
    obtain ⟨x', hx, rfl⟩ := ht
    simp only [evalOp, Option.map_eq_some_iff, Prod.mk.injEq] at he
    obtain ⟨d', hd, rfl, rfl⟩ := he
    exact does_un L ho hx hs hd
  case h_13 src dst x ho =>
    split at ht
    · rename_i ks kd x' h1 h2 h3
      simp only [Option.some.injEq] at ht
      subst ht
      simp only [evalOp] at he
      split at he <;> simp only [Option.some.injEq, Prod.mk.injEq, reduceCtorEq] at he
      obtain ⟨rfl, rfl⟩ := he
      exact does_toInt L ho h1 h2 h3 hs (by assumption)
    · rename_i x' h1 h2 h3
      simp only [Option.some.injEq] at ht
      subst ht
      simp only [evalOp] at he
      split at he <;> simp only [Option.some.injEq, Prod.mk.injEq, reduceCtorEq] at he
      obtain ⟨rfl, rfl⟩ := he
      exact does_same L ho h1 h2 h3 hs (by assumption)
    · rename_i e x' h1 h2 h3
      split at ht
      · rename_i h4
        simp only [if_true, Option.some.injEq] at ht
        subst ht
        simp only [evalOp] at he
        split at he
        · split at he <;> simp only [Option.some.injEq, Prod.mk.injEq, reduceCtorEq] at he
          obtain ⟨rfl, rfl⟩ := he
          exact does_strBytes L ho h1 h2 h4 h3 hs (by assumption)
        · simp at he
      · simp at ht
    · rename_i e x' h1 h2 h3
      split at ht
      · rename_i h4
        simp only [if_true, Option.some.injEq] at ht
        subst ht
        simp only [evalOp] at he
        split at he
        · rename_i s1 ys hsrc
          simp only [Option.map_eq_some_iff, Prod.mk.injEq] at he
          obtain ⟨l, hl, rfl, rfl⟩ := he
          exact does_bytesStr L ho h1 h2 h4 h3 hs hsrc hl
        · simp at he
      · simp at ht
    · simp at ht
  case h_14 t x ho =>
    split at ht
    · rename_i hc
      simp only [Option.map_eq_some_iff] at ht
      obtain ⟨x', hx, rfl⟩ := ht
      simp only [evalOp] at he
      split at he <;> simp only [Option.some.injEq, Prod.mk.injEq, reduceCtorEq] at he
      obtain ⟨rfl, rfl⟩ := he
      exact does_mkI L ho hc hx hs
    · simp at ht
  case h_15 g first cap ho =>
    split at ht <;> simp only [Option.some.injEq, reduceCtorEq] at ht
    rename_i h1 h2
    subst ht
    simp only [evalOp, Option.some.injEq, Prod.mk.injEq] at he
    obtain ⟨rfl, rfl⟩ := he
    exact does_mkF L ho h1 h2 hs
  case h_16 t l c ho =>
    split at ht
    · rename_i e s bytes l' c' hsi hl hc
      obtain ⟨i, hut, hi, hsz, hby⟩ := sliceInfo_some hsi
      split at ht
      · split at ht
        · rename_i ta tb
          split at ht
          · rename_i hab
            subst hab
            split at ht
            · rename_i zs hz
              split at ht <;> simp only [Option.some.injEq, reduceCtorEq] at ht
              rename_i hzl
              subst ht
              simp only [evalOp] at he
              split at he
              · rename_i n hn
                split at he <;> simp only [Option.some.injEq, Prod.mk.injEq, reduceCtorEq] at he
                rename_i hlim
                obtain ⟨rfl, rfl⟩ := he
                exact does_mkSl L ho hut hi hsz hby hz hl hc hn hn hzl (by simpa [IOp.slots] using hs) (by simpa [IOp.slots] using hs) hlim.1 hlim.2
              · simp at he
            · simp at ht
          · simp at ht
        · rename_i kl c'
          split at ht <;> simp only [Option.some.injEq, reduceCtorEq] at ht
          rename_i hz0
          subst ht
          obtain ⟨z, hz, hzs⟩ := zero_of hi hz0
          simp only [evalOp] at he
          split at he
          · rename_i n hn
            split at he <;> simp only [Option.some.injEq, Prod.mk.injEq, reduceCtorEq] at he
            rename_i hlim
            obtain ⟨rfl, rfl⟩ := he
            obtain ⟨kl', rfl⟩ := const_int0 hl
            exact does_mkCap L ho hut hi hz hsz hby hzs hc hn (by simpa [IOp.slots] using hs) hlim.1 hlim.2
          · simp at he
        · rename_i ka ia kb ib _
          split at ht
          · rename_i hab
            split at ht
            · rename_i zs hz
              split at ht <;> simp only [Option.some.injEq, reduceCtorEq] at ht
              rename_i hzl
              subst ht
              simp only [evalOp] at he
              split at he
              · rename_i n hn
                split at he <;> simp only [Option.some.injEq, Prod.mk.injEq, reduceCtorEq] at he
                rename_i hlim
                obtain ⟨rfl, rfl⟩ := he
                exact does_mkSl L ho hut hi hsz hby hz hl hc (by subst hab; exact hn) hn hzl (by simp [Opnd.slots]) (by simp [Opnd.slots]) hlim.1 hlim.2
              · simp at he
            · simp at ht
          · simp at ht
        · simp at ht
      · simp at ht
    · simp at ht
  case h_17 t x lo hi mx ho =>
    split at ht
    · rename_i l h m x' h1 h2 h3 h4
      have key : ∀ s : Nat, ((P.underlying t = some .string ∧ s = 0) ∨ (s ≠ 0 ∧ ∃ e, P.underlying t = some (.slice e) ∧ sizeT P e = some s)) → (mx ≠ none → hi ≠ none) → io = .slice s x' l h m → Does P pol a o δ j k st B T d st' := by
        intro s hty hmh e
        subst e
        simp only [evalOp] at he
        split at he
        · rename_i n1 n2 n3 e1 e2 e3
          simp only [Option.map_eq_some_iff, Prod.mk.injEq] at he
          obtain ⟨d', hd, rfl, rfl⟩ := he
          exact does_slice L ho hty h4 h1 h2 h3 hmh hs e1 e2 e3 hd
        · simp at he
      split at ht
      · rename_i hu
        split at ht <;> simp only [Option.some.injEq, reduceCtorEq] at ht
        rename_i hm
        refine key 0 (.inl ⟨hu, rfl⟩) (fun hmx => ?_) ht.symm
        cases mx with
        | none => exact absurd rfl hmx
        | some y => simp [optOpnd] at h3; obtain ⟨y', _, rfl⟩ := h3; simp at hm
      · rename_i e hu
        split at ht
        · rename_i s hse
          split at ht <;> simp only [Option.some.injEq, reduceCtorEq] at ht
          rename_i hc
          refine key s (.inr ⟨hc.1, e, hu, hse⟩) (fun hmx => ?_) ht.symm
          cases mx with
          | none => exact absurd rfl hmx
          | some y =>
            simp [optOpnd] at h3; obtain ⟨y', _, rfl⟩ := h3
            have := hc.2
            simp at this
            intro hh
            subst hh
            simp [optOpnd] at h2
            subst h2
            simp at this
        · simp at ht
      · simp at ht
    · simp at ht
  case h_18 t x i ho =>
    split at ht
    · rename_i fs x' hu hx
      split at ht
      · rename_i fd hf
        split at ht
        · rename_i s hse
          split at ht <;> simp only [Option.some.injEq, reduceCtorEq] at ht
          rename_i hs0
          subst ht
          simp only [evalOp, Option.map_eq_some_iff, Prod.mk.injEq] at he
          obtain ⟨d', hd, rfl, rfl⟩ := he
          exact does_fld L ho hu hf hse hs0 hx hs hd
        · simp at ht
      · simp at ht
    · simp at ht
  case h_19 t x i ho =>
    split at ht
    · rename_i fs x' hu hx
      split at ht
      · rename_i fd hf
        split at ht
        · rename_i ag s hag hse
          split at ht <;> simp only [Option.some.injEq, reduceCtorEq] at ht
          rename_i hc
          subst ht
          simp only [evalOp, Option.map_eq_some_iff, Prod.mk.injEq] at he
          obtain ⟨d', hd, rfl, rfl⟩ := he
          exact does_fldv L ho hu hf hag hse (by intro h; subst h; simpa using hc) hx hs hd
        · simp at ht
      · simp at ht
    · simp at ht
  case h_20 t x i ho =>
    split at ht
    · rename_i n e x' i' hu hx hi
      simp only [Option.map_eq_some_iff] at ht
      obtain ⟨s, hse, rfl⟩ := ht
      simp only [evalOp] at he
      split at he
      · rename_i m hm
        simp only [Option.map_eq_some_iff, Prod.mk.injEq] at he
        obtain ⟨d', hd, rfl, rfl⟩ := he
        exact does_idx_arr L ho hu hse hx hi hs hm hd
      · simp at he
    · rename_i e x' i' hu hx hi
      simp only [Option.map_eq_some_iff] at ht
      obtain ⟨s, hse, rfl⟩ := ht
      simp only [evalOp] at he
      split at he
      · rename_i m hm
        simp only [Option.map_eq_some_iff, Prod.mk.injEq] at he
        obtain ⟨d', hd, rfl, rfl⟩ := he
        exact does_idx_sl L ho hu hse hx hi hs hm hd
      · simp at he
    · simp at ht
  case h_21 t x i ho =>
    split at ht
    · rename_i x' i' hu hx hi
      simp only [Option.some.injEq] at ht
      subst ht
      simp only [evalOp] at he
      split at he
      · rename_i m hm
        simp only [Option.map_eq_some_iff, Prod.mk.injEq] at he
        obtain ⟨d', hd, rfl, rfl⟩ := he
        exact does_idxs L ho hu hx hi hs hm hd
      · simp at he
    · rename_i n e x' i' hu hx hi
      split at ht
      · rename_i ag s hag hse
        split at ht <;> simp only [Option.some.injEq, reduceCtorEq] at ht
        rename_i hc
        subst ht
        simp only [evalOp] at he
        split at he
        · rename_i m hm
          split at he
          · rename_i hlt
            simp only [Option.map_eq_some_iff, Prod.mk.injEq] at he
            obtain ⟨d', hd, rfl, rfl⟩ := he
            exact does_idxa L ho hu hag hse (by intro h; subst h; simpa using hc) hx hi hs hm hlt hd
          · simp at he
        · simp at he
      · simp at ht
    · simp at ht
  case h_22 x i ho =>
    simp only [Option.map_eq_some_iff] at ht
    obtain ⟨x', hx, rfl⟩ := ht
    simp only [evalOp, Option.map_eq_some_iff, Prod.mk.injEq] at he
    obtain ⟨d', hd, rfl, rfl⟩ := he
    exact does_ext L ho hx hs hd
  case h_23 x t0 t ok ho =>
    split at ht
    · rename_i hc
      split at ht <;> simp only [Option.some.injEq, reduceCtorEq] at ht
      rename_i z x' hz hx
      subst ht
      simp only [evalOp, Option.map_eq_some_iff, Prod.mk.injEq] at he
      obtain ⟨d', hd, rfl, rfl⟩ := he
      exact does_tas L ho hc hz hx hs hd
    · simp at ht
  case h_24 b args ats ho => exact builtin_ok L ho rfl ht hg hs he
  case h_25 g args ats ho =>
    exfalso
    split at ht
    · split at ht
      · split at ht
        · split at ht
          · simp only [Option.some.injEq] at ht; subst ht; simp [IOp.goes] at hg
          · simp at ht
        · split at ht
          · split at ht
            · split at ht
              · split at ht <;> simp only [Option.some.injEq, reduceCtorEq] at ht
                subst ht; simp [IOp.goes] at hg
              · simp at ht
            · simp at ht
          · simp only [Option.some.injEq] at ht; subst ht; simp [IOp.goes] at hg
      · simp only [Option.some.injEq] at ht; subst ht; simp [IOp.goes] at hg
    · simp at ht
  case h_26 g args ats ho =>
    exfalso
    split at ht <;> simp only [Option.some.injEq, reduceCtorEq] at ht
    subst ht; simp [IOp.goes] at hg
  case h_27 x ho =>
    exfalso
    simp only [Option.map_eq_some_iff] at ht
    obtain ⟨x', hx, rfl⟩ := ht
    simp [IOp.goes] at hg
  case h_28 => simp at ht
end
end Go.Mia
