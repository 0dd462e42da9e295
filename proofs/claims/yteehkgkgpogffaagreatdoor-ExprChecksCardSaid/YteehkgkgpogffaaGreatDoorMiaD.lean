import Derived.Test.YteehkgkgpogffaaGreatDoorMiaB
import Derived.Test.YteehkgkgpogffaaGreatDoorMiaC
import Derived.Test.YteehkgkgpogffaaGreatDoorMiaS
set_option linter.unusedSimpArgs false
set_option linter.unusedVariables false
set_option linter.unusedSectionVars false
namespace Go.Mia
open Go

theorem CellTk.less {k : K} {δ now : Nat} {live live' : Nat → Bool} {v : Value} {d : D} (h : CellTk k δ now live v d) (hl : ∀ t, live' t = true → live t = true) : CellTk k δ now live' v d := by
  unfold CellTk at *
  split
  · exact fun e => h (hl _ e)
  · exact h
  · simp at h
  · trivial

section
variable {P : Program} {pol : Pol} {k k' : K} {δ j past : Nat} {st s' : St} {B T : Nat → Prop} {a : Act} {o : Oper}

theorem StoreRel.view (h : StoreRel P pol k st.S) : StoreRel P pol k (view δ past st).S := by
  intro d i b hb
  have := h d i b hb
  unfold Go.Mia.view
  simp only
  split
  · trivial
  · exact this

theorem Loc.view (L : Loc P pol k δ j st B T) : Loc P pol k δ j (view δ past st) B T where
  good := L.good
  store := L.store.view
  fb := L.fb
  fc := L.fc
  ft := L.ft
  fl := by
    have h : (Go.Mia.view δ past st).live (st.nt + j) = (st.live (st.nt + j) && (decide (st.nt + j < st.nt) || past.testBit (st.nt + j - st.nt))) := rfl
    show (Go.Mia.view δ past st).live (st.nt + j) = false
    rw [h, L.fl]; rfl
  low := L.low
  has := L.has
  nB := L.nB
  nT := L.nT

theorem view_live {t : Nat} (h : (view δ past st).live t = true) : st.live t = true := by
  unfold view at h; simp only [Bool.and_eq_true] at h; exact h.1

theorem Val.view {v : Value} {d : D} (h : Val k δ st B T v d) : Val k δ (view δ past st) B T v d := ⟨h.rep, h.tk.less fun _ => view_live, h.name⟩

theorem Chg.merged (L : Loc P pol k δ j st B T) (C : Chg P pol δ j (view δ past st) s' k k') (hn : s'.now = st.now) : Chg P pol δ j st (merge δ j st (view δ past st) s') k k' := by
  have hnow : (∀ d i off, ¬ (d = δ ∧ i = st.m + j) → k'.sp (.cell d i off) = k.sp (.cell d i off)) ∧ (∀ d i b, k.β d i = some b → k'.w.heap[b]? = k.w.heap[b]?) ∧ s'.low = st.low := by
    rcases C.now with h | h
    · exact h.2
    · have h2 : s'.now = st.now + 1 := h; omega
  have hlow : s'.low = st.low := hnow.2.2
  exact {
    ext := fun low h1 h2 => C.ext low h1 (by rw [hlow]; exact h2)
    low := Nat.le_refl _
    good := C.good
    β := C.β
    store := fun d i b hb => by
      by_cases h : d = δ ∧ i = st.m + j
      · obtain ⟨rfl, rfl⟩ := h
        right
        show ObjRel P pol k' d (st.m + j) b (upd2 st.S d (st.m + j) (s'.S d (st.m + j)) d (st.m + j))
        simp only [upd2, and_self, if_true]
        rcases C.store d (st.m + j) b hb with ⟨_, h2, _⟩ | h2
        · rw [L.fb] at h2; cases h2
        · exact h2
      · left
        have hb' : k.β d i = some b := by rw [← C.β d i h]; exact hb
        exact ⟨by show upd2 st.S δ (st.m + j) _ d i = _; simp [upd2, h], hb', hnow.2.1 d i b hb', fun off => hnow.1 d i off h⟩
    now := .inl ⟨rfl, hnow.1, hnow.2.1, rfl⟩
    tok := fun t hne hl => by
      have hl' : (st.live t && !((view δ past st).live t && !s'.live t)) = true := by
        have : (merge δ j st (view δ past st) s').live t = (if t = st.nt + j then s'.live t else st.live t && !((view δ past st).live t && !s'.live t)) := rfl
        rw [this, if_neg hne] at hl; exact hl
      simp only [Bool.and_eq_true] at hl'
      refine ⟨hl'.1, ?_⟩
      cases hv : (view δ past st).live t with
      | false => exact C.tokf t hne hv
      | true =>
        have h2 := hl'.2
        rw [hv] at h2
        have : s'.live t = true := by cases h3 : s'.live t <;> simp_all
        exact (C.tok t hne this).2
    dead := fun t hne hl hor => by
      have hl' : (st.live t && !((view δ past st).live t && !s'.live t)) = false := by
        have : (merge δ j st (view δ past st) s').live t = (if t = st.nt + j then s'.live t else st.live t && !((view δ past st).live t && !s'.live t)) := rfl
        rw [this, if_neg hne] at hl; exact hl
      cases hst : st.live t with
      | false =>
        have hv : (view δ past st).live t = false := by
          cases h : (view δ past st).live t with
          | false => rfl
          | true => rw [view_live h] at hst; cases hst
        rw [C.tokf t hne hv]
        rcases hor with h | h
        · exact h
        · rw [hst] at h; cases h
      | true =>
        rw [hst] at hl'
        cases hv : (view δ past st).live t with
        | false => rw [hv] at hl'; simp at hl'
        | true =>
          rw [hv] at hl'
          have : s'.live t = false := by cases h3 : s'.live t <;> simp_all
          exact C.dead t hne this (.inr hv)
    tokf := fun t hne hl => C.tokf t hne (by
      cases h : (view δ past st).live t with
      | false => rfl
      | true => rw [view_live h] at hl; cases hl)
    other := C.other
    lv := C.lv
    tks := C.tks
    m := rfl
    nt := rfl
    σ := rfl
    pend := rfl
    recd := rfl }

/-- what a right's name can be in what an operation brings that looks at more than slots -/
theorem append_newtok {s bytes : Nat} {vec str : Bool} {x y d : D} (h : appendOp δ j vec str s bytes x y st = some (d, s')) : ∀ t u xs, d = .slice (.tok t) u xs → t = st.nt + j := by
  intro t u xs e
  subst e
  unfold appendOp at h
  split at h
  · split at h
    · split at h
      · split at h
        · split at h <;> simp at h
        · split at h
          · simp at h
          · split at h
            · simp at h; exact h.1.1.symm
            · simp at h
      · simp at h
    · simp at h
  · split at h
    · split at h <;> simp at h
    · simp at h
  · simp at h

theorem evalOp_newtok {op : IOp} {d : D} (hq : quietOp op = false) (hl : isLoad op = false) (h : evalOp δ j op st = some (d, s')) : ∀ t u xs, d = .slice (.tok t) u xs → t = st.nt + j := by
  intro t u xs e
  subst e
  cases op with
  | append vec str s bytes a b => exact append_newtok h _ _ _ rfl
  | clone vec f s bytes x => simp only [evalOp] at h; exact append_newtok h _ _ _ rfl
  | mkCap s bytes n =>
    simp only [evalOp] at h
    split at h
    · split at h <;> simp at h; exact h.1.1.symm
    · simp at h
  | alloc zs => simp [evalOp, allocSt] at h
  | box x => simp only [evalOp, allocSt] at h; split at h <;> simp at h
  | buildSl s es => simp only [evalOp] at h; split at h <;> simp at h
  | store s a x => simp [evalOp] at h
  | strBytes x => simp only [evalOp] at h; split at h <;> first | (split at h <;> simp at h; done) | simp at h
  | bytesStr x => simp only [evalOp] at h; split at h <;> simp at h
  | mkSl s bytes zs n => simp only [evalOp] at h; split at h <;> first | (split at h <;> simp at h; done) | simp at h
  | grow f s bytes zs x n => simp only [evalOp, growOp] at h; split at h <;> first | (split at h <;> simp at h; done) | simp at h
  | clear zs x =>
    simp only [evalOp, clearOp] at h
    split at h
    · split at h
      · split at h <;> simp at h
      · simp at h
    · simp at h
  | load g s x => simp [isLoad] at hl
  | recov => simp [evalOp] at h
  | call own f args => simp [evalOp] at h
  | defer f args => simp [evalOp] at h
  | panic x => simp [evalOp] at h
  | _ => simp [quietOp] at hq

theorem CellTk.merged {v : Value} {d : D} (hd : ∀ t u xs, d = .slice (.tok t) u xs → t = st.nt + j) (h : CellTk k' δ s'.now s'.live v d) (hn : s'.now = st.now) : CellTk k' δ (merge δ j st (view δ past st) s').now (merge δ j st (view δ past st) s').live v d := by
  have hnn : (merge δ j st (view δ past st) s').now = s'.now := hn.symm
  rw [hnn]
  unfold CellTk at *
  split
  · rename_i ad len cap t s xs
    have := hd t s xs rfl
    subst this
    intro e
    refine h ?_
    have h2 : (merge δ j st (view δ past st) s').live (st.nt + j) = s'.live (st.nt + j) := by unfold merge; simp
    rw [← h2]; exact e
  · exact h
  · simp at h
  · trivial

theorem Gives.merged {v : Value} {d : D} (L : Loc P pol k δ j st B T) (hd : ∀ t u xs, d = .slice (.tok t) u xs → t = st.nt + j) (hn : s'.now = st.now) (G : Gives P pol δ j k (view δ past st) B T v k' d s') : Gives P pol δ j k st B T v k' d (merge δ j st (view δ past st) s') where
  chg := G.chg.merged L hn
  rep := G.rep
  tk := CellTk.merged hd G.tk hn
  name := G.name
  no := fun h => G.no (by
    have h2 : (merge δ j st (view δ past st) s').live (st.nt + j) = s'.live (st.nt + j) := by unfold merge; simp
    show s'.live (st.nt + j) = false
    rw [← h2]; exact h)
end
end Go.Mia
namespace Go.Mia
open Go

theorem builtin_noLoad {P : Program} {pol : Pol} {f : Nat} {o : Oper} {c : Call} {b : Builtin} {io : IOp} (h : trBuiltin P pol f o c b = some io) : isLoad io = false := by
  unfold trBuiltin at h
  split at h
  · split at h
    · simp only [Option.map_eq_some_iff] at h; obtain ⟨_, _, rfl⟩ := h; rfl
    · simp only [Option.map_eq_some_iff] at h; obtain ⟨_, _, rfl⟩ := h; rfl
    · simp at h
  · split at h
    · simp only [Option.map_eq_some_iff] at h; obtain ⟨_, _, rfl⟩ := h; rfl
    · simp at h
  · split at h
    · simp only [Option.map_eq_some_iff] at h; obtain ⟨_, _, rfl⟩ := h; rfl
    · simp at h
  · split at h
    · split at h
      · simp only at h
        split at h
        · split at h
          · simp only [if_true, Option.some.injEq] at h; subst h; rfl
          · simp at h
        · simp only [Option.some.injEq] at h; subst h; rfl
        · simp at h
      · simp at h
    · simp at h
  · split at h
    · split at h
      · simp only [Option.some.injEq] at h; subst h; rfl
      · simp at h
    · simp at h
  · simp only [Option.some.injEq] at h; subst h; rfl
  · simp at h

theorem trOp_load {P : Program} {pol : Pol} {f : Nat} {o : Oper} {g : Bool} {s : Nat} {x' : Opnd} (ht : trOp P pol f o = some (.load g s x')) :
    ∃ t x, o.op = .load t x ∧ isAggT P t = some g ∧ sizeT P t = some s ∧ (g = false → s = 1) ∧ opnd P 0 x = some x' := by
  unfold trOp at ht
  split at ht
  case h_8 t x ho =>
    split at ht
    · rename_i ag s x' h1 h2 h3
      split at ht <;> simp only [Option.some.injEq, reduceCtorEq, IOp.load.injEq] at ht
      rename_i hc
      obtain ⟨rfl, rfl, rfl⟩ := ht
      exact ⟨t, x, ho, h1, h2, (by intro h; subst h; simpa using hc), h3⟩
    · simp at ht
  case h_24 => have := builtin_noLoad ht; simp [isLoad] at this
  all_goals exfalso
  all_goals first
    | (simp at ht; done)
    | (simp only [Option.map_eq_some_iff, reduceCtorEq, and_false, exists_false] at ht; done)
    | (split at ht <;> simp at ht; done)
    | (split at ht <;> first | (simp at ht; done) | (split at ht <;> simp at ht; done); done)
    | (split at ht <;> first | (simp at ht; done) | (split at ht <;> first | (simp at ht; done) | (split at ht <;> simp at ht; done)); done)
    | (split at ht <;> first | (simp at ht; done) | (split at ht <;> first | (simp at ht; done) | (split at ht <;> first | (simp at ht; done) | (split at ht <;> simp at ht; done))); done)
    | (split at ht <;> first | (simp at ht; done) | (split at ht <;> first | (simp at ht; done) | (split at ht <;> first | (simp at ht; done) | (split at ht <;> first | (simp at ht; done) | (split at ht <;> simp at ht; done)))); done)
    | (split at ht <;> first | (simp at ht; done) | (split at ht <;> first | (simp at ht; done) | (split at ht <;> first | (simp at ht; done) | (split at ht <;> first | (simp at ht; done) | (split at ht <;> first | (simp at ht; done) | (split at ht <;> simp at ht; done))))); done)

theorem CellTk.degr {k : K} {δ now : Nat} {live : Nat → Bool} {v : Value} (d : D) : CellTk k δ now live v d.degr := .plain (degr_tk d)
theorem NameOk.degr {δ : Nat} {B T : Nat → Prop} (d : D) : NameOk δ B T d.degr := .plain (degr_tk d)

section
variable {P : Program} {pol : Pol} {k : K} {δ j f : Nat} {B T : Nat → Prop} {a : Act}

theorem Does.gives {o : Oper} {st st' : St} {d : D} (h : Does P pol a o δ j k st B T d st') : ∃ x v k', (execOp a.eval o).run P k.w = .ok x k'.w ∧ (x = .value v ∨ (x = .skip ∧ v = undef)) ∧ Gives P pol δ j k st B T v k' d st' := by
  obtain ⟨x, v, k', h1, h2, h3, h4, h5, h6, h7⟩ := h
  exact ⟨x, v, k', h1, h2, ⟨h3, h4, h5, h6, h7⟩⟩

theorem plain_ok {o : IOper} {mo : Oper} {r r' : RSt} (hqi : quietOp o.op = true → o.iso = true) (ht : trOp P pol f mo = some o.op) (hg : o.op.goes = false) (L : Loc P pol k δ j r.st B T) (hs : ∀ s ∈ o.op.slots, Val k δ r.st B T (a.tmps.getD s undef) (r.st.σ s))
    (h : stepPlain δ j o r = some r') : ∃ x v k' d st', (execOp a.eval mo).run P k.w = .ok x k'.w ∧ (x = .value v ∨ (x = .skip ∧ v = undef)) ∧ Gives P pol δ j k r.st B T v k' d st' ∧ r'.st = putD st' o.dst d ∧ r'.df = r.df := by
  unfold stepPlain at h
  by_cases hiso : o.iso = true
  · rw [if_pos hiso] at h
    simp only [Option.map_eq_some_iff] at h
    obtain ⟨⟨d, s'⟩, h1, rfl⟩ := h
    obtain ⟨x, v, k', g1, g2, g3⟩ := (op_ok (f := f) L ht hg hs h1).gives
    exact ⟨x, v, k', d, s', g1, g2, g3, rfl, rfl⟩
  · rw [if_neg hiso] at h
    split at h
    · rename_i s x y ho
      split at h
      · simp only [Option.map_eq_some_iff] at h
        obtain ⟨s', h1, rfl⟩ := h
        have hE : evalOp δ j o.op r.st = some (.undef, s') := by rw [ho]; simp only [evalOp, h1]; rfl
        obtain ⟨x, v, k', g1, g2, g3⟩ := (op_ok (f := f) L ht hg hs hE).gives
        exact ⟨x, v, k', .undef, s', g1, g2, g3, rfl, rfl⟩
      · simp at h
    · rename_i g s x ho
      split at h
      · simp only [Option.map_eq_some_iff] at h
        obtain ⟨d, h1, rfl⟩ := h
        rw [ho] at ht hs
        obtain ⟨t, x0, e1, e2, e3, e4, e5⟩ := trOp_load ht
        have L2 : Loc P pol k δ j { r.st with S := (view δ o.past r.st).S } B T := { L with store := L.store.view }
        obtain ⟨v, g1, g2⟩ := load_val (st := { r.st with S := (view δ o.past r.st).S }) (d := d) L2 e1 e2 e3 e4 e5 (fun s' hs' => ⟨(hs s' hs').rep, (hs s' hs').tk, (hs s' hs').name⟩) (by
          rw [show loadOp g s (ev r.st.σ x) { r.st with S := (view δ o.past r.st).S } = loadOp g s (ev r.st.σ x) (view δ o.past r.st) from (by cases ev r.st.σ x <;> rfl)]
          exact h1)
        refine ⟨.value v, v, k, (if o.near.isEmpty then d else d.degr), r.st, g1, .inl rfl, ?_, rfl, rfl⟩
        split
        · exact ⟨.refl L.good, g2.rep, g2.tk, g2.name.mono (fun _ => .inl) (fun _ => .inl), fun _ => L.ft⟩
        · exact ⟨.refl L.good, g2.rep.degr, .degr d, .degr d, fun _ => L.ft⟩
      · simp at h
    · rename_i n1 n2
      split at h
      · simp at h
      · split at h
        · rename_i d s' hE
          split at h
          · rename_i hn
            simp only [Option.some.injEq] at h
            subst h
            obtain ⟨x, v, k', g1, g2, g3⟩ := (op_ok (f := f) L.view ht hg (fun s hs' => (hs s hs').view) hE).gives
            have hd := evalOp_newtok (by
                cases hq : quietOp o.op with
                | false => rfl
                | true => exact absurd (hqi hq) hiso) (by
                cases ho : o.op with
                | load g s x => exact absurd ho (n2 g s x)
                | _ => rfl) hE
            exact ⟨x, v, k', d, _, g1, g2, g3.merged L hd hn, rfl, rfl⟩
          · simp at h
        · simp at h
end
end Go.Mia
namespace Go.Mia
open Go

/-- what a call at level δ' leaves, with all that it made there forgotten, but for the right of its result -/
structure Left (P : Program) (pol : Pol) (δ' : Nat) (k k' : K) (rt : Ret) : Prop where
  low : rt.low ≤ δ'
  ext : Ext δ' rt.low k k'
  good : Good k'
  store : match rt.S' with
    | none => rt.low = δ'
    | some S' => ∀ d i b, d < δ' → k'.β d i = some b → ObjRel P pol k' d i b (S' d i)
  up : ∀ d i, δ' ≤ d → k'.β d i = none
  upt : ∀ d t, δ' ≤ d → ¬ (d = δ' ∧ t = 0) → k'.sp (.tok d t) = none

/-- the right that a result brings -/
def ResTk (k' : K) (δ' : Nat) : Value → D → Prop
  | .slice a len cap, .slice .own s _ => HeldAt k' (.tok δ' 0) a len cap s
  | _, .slice .own _ _ | _, .slice (.tok _) _ _ | _, .slice (.lent ..) _ _ => False
  | _, _ => True

/-- what was above the frame's level -/
structure Tops (k : K) (δ : Nat) : Prop where
  up : ∀ d i, δ < d → k.β d i = none
  upt : ∀ d t, δ < d → k.sp (.tok d t) = none
  upc : ∀ d i off, δ < d → k.sp (.cell d i off) = none

def adopted (k' : K) (δ' : Nat) (h : Bool) : Option (Nat × Nat) := if h then k'.sp (.tok δ' 0) else none
def afterK (k' : K) (δ n : Nat) (h : Bool) : K := ⟨k'.w, k'.β, swapSp k'.sp (some (.tok (δ + 1) 0)) (.tok δ n) (adopted k' (δ + 1) h)⟩

theorem OwnOk.moved {k k' : K} {h : Hold} {v : Value} {d : D} (hs : k'.sp h = k.sp h) (hh : ∀ a len cap s, HeldAt k h a len cap s → HeldAt k' h a len cap s) (H : OwnOk k h v d) : OwnOk k' h v d := by
  cases d with
  | slice tk s xs => cases tk <;> cases v <;> first | exact hh _ _ _ _ H | exact H.elim | exact hs.trans H
  | _ => cases v <;> exact hs.trans H

theorem ObjRel.moved {P : Program} {pol : Pol} {k k' : K} (L : Later k k') {d i b : Nat} (hb : k'.w.heap[b]? = k.w.heap[b]?) (hs : ∀ off, k'.sp (.cell d i off) = k.sp (.cell d i off)) (hh : ∀ h a len cap s, HeldAt k h a len cap s → k'.sp h = k.sp h → HeldAt k' h a len cap s) {o : Obj} (h : ObjRel P pol k d i b o) : ObjRel P pol k' d i b o := by
  cases o with
  | none => trivial
  | cells ds =>
    obtain ⟨cs, e, fr, h1, h2, h3, h4⟩ := h
    refine ⟨cs, e, fr, hb.trans h1, h2, h3, fun j x hx => ⟨(h4 j x hx).1.later L, ?_, (h4 j x hx).2.2⟩⟩
    exact (h4 j x hx).2.1.moved (hs j) fun a len cap s H => hh _ _ _ _ _ H (hs j)
  | loop r =>
    obtain ⟨l, h1, h2⟩ := h
    exact ⟨l, hb.trans h1, h2.ext L⟩

section
variable {P : Program} {pol : Pol} {k k' : K} {δ j : Nat} {B T : Nat → Prop} {st st' : St}

theorem afterK_some {n : Nat} {h : Bool} {x : Hold} {q : Nat × Nat} (hx : (afterK k' δ n h).sp x = some q) : (x = .tok δ n ∧ k'.sp (.tok (δ + 1) 0) = some q) ∨ (x ≠ .tok δ n ∧ x ≠ .tok (δ + 1) 0 ∧ k'.sp x = some q) := by
  rcases swapSp_some hx with ⟨e, hq⟩ | ⟨e1, e2, hq⟩
  · refine .inl ⟨e, ?_⟩
    unfold adopted at hq
    split at hq
    · exact hq
    · cases hq
  · exact .inr ⟨e1, fun e => e2 (by rw [e]), hq⟩

theorem afterK_later {n : Nat} {h : Bool} : Later k' (afterK k' δ n h) := by
  refine ⟨fun _ _ _ h => h, fun b off v hc => ⟨hc.cell, hc.box, fun x o hx => ?_⟩⟩
  rcases afterK_some hx with ⟨_, hq⟩ | ⟨_, _, hq⟩
  · exact hc.sp _ o hq
  · exact hc.sp _ o hq

theorem afterK_old {n : Nat} {h : Bool} {x : Hold} (h1 : x ≠ .tok δ n) (h2 : x ≠ .tok (δ + 1) 0) : (afterK k' δ n h).sp x = k'.sp x := swapSp_old h1 (by simp; exact fun e => h2 e.symm)
theorem afterK_gone {n : Nat} {h : Bool} : (afterK k' δ n h).sp (.tok (δ + 1) 0) = none := swapSp_gone (by simp)
theorem afterK_new {n : Nat} {h : Bool} : (afterK k' δ n h).sp (.tok δ n) = adopted k' (δ + 1) h := swapSp_new

theorem chg_call {rt : Ret} {iso h : Bool} (L : Loc P pol k δ j st B T) (U : Tops k δ) (F : Left P pol (δ + 1) k k' rt) (ha : afterCall st iso rt = some st') :
    Chg P pol δ j st (if h then newTok j st' else st') k (afterK k' δ (st.nt + j) h) := by
  let k'' := afterK k' δ (st.nt + j) h
  have hE := F.ext
  have hst' : (rt.S' = none ∧ st' = st) ∨ ∃ S', rt.S' = some S' ∧ st' = { st with S := S', now := st.now + 1, low := min st.low rt.low } := by
    unfold afterCall at ha
    split at ha
    · rename_i e; simp at ha; exact .inl ⟨e, ha.symm⟩
    · rename_i S' e; split at ha <;> simp at ha; exact .inr ⟨S', e, ha.symm⟩
  have fS : (if h then newTok j st' else st').S = st'.S := by cases h <;> rfl
  have fnow : (if h then newTok j st' else st').now = st'.now := by cases h <;> rfl
  have flow : (if h then newTok j st' else st').low = st'.low := by cases h <;> rfl
  have fm : (if h then newTok j st' else st').m = st.m ∧ (if h then newTok j st' else st').nt = st.nt ∧ (if h then newTok j st' else st').σ = st.σ ∧ (if h then newTok j st' else st').pend = st.pend ∧ (if h then newTok j st' else st').recd = st.recd := by
    rcases hst' with ⟨_, e⟩ | ⟨S', _, e⟩ <;> subst e <;> cases h <;> exact ⟨rfl, rfl, rfl, rfl, rfl⟩
  have fl : ∀ t, t ≠ st.nt + j → (if h then newTok j st' else st').live t = st.live t := by
    intro t ht
    rcases hst' with ⟨_, e⟩ | ⟨S', _, e⟩ <;> subst e <;> cases h <;> simp [newTok, upd, ht]
  have hlow : ∀ low, low ≤ δ → low ≤ st'.low → low ≤ rt.low := by
    intro low h1 h2
    rcases hst' with ⟨e, rfl⟩ | ⟨S', e, rfl⟩
    · have := F.store; rw [e] at this; simp only at this; omega
    · have : low ≤ min st.low rt.low := h2; omega
  have toks : ∀ t, t ≠ st.nt + j → k''.sp (.tok δ t) = k.sp (.tok δ t) := by
    intro t ht
    rw [show k''.sp (.tok δ t) = k'.sp (.tok δ t) from afterK_old (by simp; exact ht) (by simp)]
    exact hE.toks δ t (by omega)
  have cellsp : ∀ d i off, k''.sp (.cell d i off) = k'.sp (.cell d i off) := fun d i off => afterK_old (by simp) (by simp)
  have upc' : ∀ d i off, δ < d → k'.sp (.cell d i off) = none := by
    intro d i off hd
    cases hs : k'.sp (.cell d i off) with
    | none => rfl
    | some r => obtain ⟨b, hb⟩ := F.good.cb d i off r hs; rw [F.up d i (by omega)] at hb; cases hb
  have tks : ∀ d t, d ≠ δ → k''.sp (.tok d t) = k.sp (.tok d t) := by
    intro d t hd
    by_cases h0 : d = δ + 1 ∧ t = 0
    · obtain ⟨rfl, rfl⟩ := h0
      rw [show k''.sp (.tok (δ + 1) 0) = none from afterK_gone, U.upt (δ + 1) 0 (by omega)]
    · rw [show k''.sp (.tok d t) = k'.sp (.tok d t) from afterK_old (by simp; exact fun e => absurd e hd) (by simp; exact fun e1 e2 => h0 ⟨e1, e2⟩)]
      rcases Nat.lt_or_ge d (δ + 1) with h1 | h1
      · exact hE.toks d t h1
      · rw [F.upt d t h1 h0, U.upt d t (by omega)]
  have hβ : ∀ d i, k'.β d i = k.β d i := by
    intro d i
    rcases Nat.lt_or_ge d (δ + 1) with h1 | h1
    · exact hE.lv d i h1
    · rw [F.up d i h1, U.up d i (by omega)]
  refine { ext := ?_, low := ?_, good := ?_, β := fun d i _ => hβ d i, store := ?_, now := ?_, tok := ?_, dead := ?_, tokf := ?_, other := ?_, lv := ?_, tks := tks, m := fm.1, nt := fm.2.1, σ := fm.2.2.1, pend := fm.2.2.2.1, recd := fm.2.2.2.2 }
  · intro low h1 h2
    rw [flow] at h2
    have h3 := hlow low h1 h2
    exact {
      later := hE.later.trans afterK_later
      size := hE.size, os := hE.os, tape := hE.tape, output := hE.output, other := hE.other
      nobox := fun b hb h1 h2 => by
        obtain ⟨n1, n2⟩ := hE.nobox b hb h1 h2
        refine ⟨n1, fun x o hx => ?_⟩
        rcases afterK_some hx with ⟨_, hq⟩ | ⟨_, _, hq⟩
        · exact n2 _ o hq
        · exact n2 _ o hq
      boxes := fun d i b hd hb => hE.boxes d i b (by omega) hb
      cells := fun d i off hd => (cellsp d i off).trans (hE.cells d i off (by omega))
      toks := fun d t hd => tks d t (by omega)
      lv := fun d i _ => hβ d i
      shape := hE.shape }
  · rw [flow]
    rcases hst' with ⟨_, rfl⟩ | ⟨S', _, rfl⟩
    · exact Nat.le_refl _
    · exact Nat.min_le_left _ _
  · refine ⟨F.good.inj, F.good.lt, fun x b o hx => ?_, fun x x' b o o' hx hx' => ?_, fun d i b x o hb hx => ?_, fun d i off r hr => ?_⟩
    · rcases afterK_some hx with ⟨_, hq⟩ | ⟨_, _, hq⟩ <;> exact F.good.splt _ b o hq
    · rcases afterK_some hx with ⟨e1, hq⟩ | ⟨e1, e2, hq⟩ <;> rcases afterK_some hx' with ⟨e1', hq'⟩ | ⟨e1', e2', hq'⟩
      · rw [e1, e1']
      · exact absurd (F.good.spinj _ _ b o o' hq hq').symm e2'
      · exact absurd (F.good.spinj _ _ b o o' hq hq') e2
      · exact F.good.spinj _ _ b o o' hq hq'
    · rcases afterK_some hx with ⟨_, hq⟩ | ⟨_, _, hq⟩ <;> exact F.good.disj d i b _ o hb hq
    · have : k'.sp (.cell d i off) = some r := by rw [← cellsp]; exact hr
      exact F.good.cb d i off r this
  · intro d i b hb
    have hb' : k'.β d i = some b := hb
    have hd : d < δ + 1 := by
      rcases Nat.lt_or_ge d (δ + 1) with h1 | h1
      · exact h1
      · rw [F.up d i h1] at hb'; cases hb'
    have hbk : k.β d i = some b := by rw [← hβ]; exact hb'
    rw [fS]
    rcases hst' with ⟨e, rfl⟩ | ⟨S', e, rfl⟩
    · left
      have hl : rt.low = δ + 1 := by have := F.store; rw [e] at this; exact this
      exact ⟨rfl, hbk, hE.boxes d i b (by omega) hbk, fun off => (cellsp d i off).trans (hE.cells d i off (by omega))⟩
    · right
      have hs := F.store
      rw [e] at hs
      exact ObjRel.moved afterK_later rfl (cellsp d i) (fun x a len cap s hh hsp => by
        rcases hh with ⟨b, o, q1, q2⟩ | ⟨q1, q2⟩
        · exact .inl ⟨b, o, hsp.trans q1, q2⟩
        · exact .inr ⟨q1, hsp.trans q2⟩) (hs d i b hd hb')
  · rw [fnow, flow]
    rcases hst' with ⟨e, rfl⟩ | ⟨S', e, rfl⟩
    · left
      have hl : rt.low = δ + 1 := by have := F.store; rw [e] at this; exact this
      refine ⟨rfl, fun d i off _ => ?_, fun d i b hb => ?_, rfl⟩
      · rw [show (afterK k' δ (st'.nt + j) h).sp (.cell d i off) = k'.sp (.cell d i off) from cellsp d i off]
        rcases Nat.lt_or_ge d (δ + 1) with h1 | h1
        · exact hE.cells d i off (by omega)
        · rw [upc' d i off (by omega), U.upc d i off (by omega)]
      · have hd : d < δ + 1 := by
          rcases Nat.lt_or_ge d (δ + 1) with h1 | h1
          · exact h1
          · rw [U.up d i (by omega)] at hb; cases hb
        exact hE.boxes d i b (by omega) hb
    · exact .inr rfl
  · intro t ht hl
    rw [fl t ht] at hl
    exact ⟨hl, toks t ht⟩
  · intro t ht hl hor
    rw [fl t ht] at hl
    rw [show (afterK k' δ (st.nt + j) h).sp (.tok δ t) = k.sp (.tok δ t) from toks t ht]
    rcases hor with h1 | h1
    · exact h1
    · rw [hl] at h1; cases h1
  · exact fun t ht _ => toks t ht
  · intro x n1 n2
    cases x with
    | tok d t => exact tks d t (fun e => n1 t (by rw [e]))
    | cell d i off => exact absurd rfl (n2 d i off)
  · intro d i off hd
    rw [show (afterK k' δ (st.nt + j) h).sp (.cell d i off) = k'.sp (.cell d i off) from cellsp d i off, upc' d i off hd, U.upc d i off hd]
end
end Go.Mia
namespace Go.Mia
open Go

def isOwn : D → Bool
  | .slice .own _ _ => true
  | _ => false

section
variable {P : Program} {pol : Pol} {k k' : K} {δ j : Nat} {B T : Nat → Prop} {st st' : St}

theorem adopt_isOwn {d : D} {st : St} : (adopt j st d).2 = (if isOwn d then newTok j st else st) := by
  cases d with
  | slice tk s xs => cases tk <;> rfl
  | _ => rfl

theorem ResTk_plain {v : Value} {d : D} (h : ResTk k' (δ + 1) v d) (ho : isOwn d = false) : ∀ tk s xs, d = .slice tk s xs → tk = .full ∨ tk = .none := by
  intro tk s xs e
  subst e
  cases tk with
  | none => exact .inr rfl
  | full => exact .inl rfl
  | own => cases ho
  | tok t => cases v <;> exact h.elim
  | lent a b c e => cases v <;> exact h.elim

theorem afterCall_live {rt : Ret} {iso : Bool} (ha : afterCall st iso rt = some st') : st'.live = st.live ∧ st'.nt = st.nt := by
  unfold afterCall at ha
  split at ha
  · simp at ha; subst ha; exact ⟨rfl, rfl⟩
  · split at ha <;> simp at ha; subst ha; exact ⟨rfl, rfl⟩

theorem call_gives_plain {rt : Ret} {iso : Bool} {v : Value} {d : D} (L : Loc P pol k δ j st B T) (U : Tops k δ) (F : Left P pol (δ + 1) k k' rt) (ha : afterCall st iso rt = some st') (hr : Rep k' v d) :
    Gives P pol δ j k st B T v (afterK k' δ (st.nt + j) false) d.degr st' where
  chg := chg_call (h := false) L U F ha
  rep := (hr.later afterK_later).degr
  tk := .degr d
  name := .degr d
  no := fun _ => by rw [afterK_new]; rfl

theorem call_gives_own {rt : Ret} {iso : Bool} {v : Value} {d : D} (L : Loc P pol k δ j st B T) (U : Tops k δ) (F : Left P pol (δ + 1) k k' rt) (ha : afterCall st iso rt = some st') (hr : Rep k' v d) (ht : ResTk k' (δ + 1) v d) :
    Gives P pol δ j k st B T v (afterK k' δ (st.nt + j) (isOwn d)) (adopt j st' d).1 (adopt j st' d).2 := by
  obtain ⟨hl, hnt⟩ := afterCall_live ha
  have C := chg_call (h := isOwn d) L U F ha
  rw [← adopt_isOwn] at C
  have hr' := hr.later (afterK_later (k' := k') (δ := δ) (n := st.nt + j) (h := isOwn d))
  cases ho : isOwn d with
  | true =>
    cases d with
    | slice tk s xs =>
      cases tk with
      | own =>
        rw [ho] at C hr'
        obtain ⟨ad, cap, b, off, vs, rfl, _⟩ := Rep.inv_slice hr
        refine ⟨C, ?_, ?_, .inr (by rw [hnt]), fun h => ?_⟩
        · cases hr' with | slice b off vs hl hle hf he ha hc hr => exact .slice b off vs hl hle (by simp) he ha hc hr
        · intro _
          have hh : HeldAt k' (.tok (δ + 1) 0) ad xs.length cap s := ht
          show HeldAt _ (.tok δ (st'.nt + j)) _ _ _ _
          rw [hnt]
          rcases hh with ⟨b, o, q1, q2⟩ | ⟨q1, q2⟩
          · exact .inl ⟨b, o, by rw [afterK_new]; exact q1, q2⟩
          · exact .inr ⟨q1, by rw [afterK_new]; exact q2⟩
        · simp [adopt, newTok, upd, hnt] at h
      | _ => cases ho
    | _ => cases ho
  | false =>
    have hp := ResTk_plain ht ho
    have e : adopt j st' d = (d, st') := by
      cases d with
      | slice tk s xs => cases tk <;> first | rfl | cases ho
      | _ => rfl
    rw [e] at C ⊢
    rw [ho] at C hr'
    exact ⟨C, hr', .plain hp, .plain hp, fun _ => by rw [afterK_new]; rfl⟩
end

/-! ### The shape of frames -/
/-- what is left to do -/
inductive Todo (P : Program) (pol : Pol) (n : Nat) : List Go.Item → List Item → Prop
  | nil : Todo P pol n [] []
  | code {f : Nat} {c : Code} {ic : IC} {k : List Go.Item} {k' : List Item} (h : trCode P pol f n c = some ic) (t : Todo P pol n k k') : Todo P pol n (.code c :: k) (.code ic :: k')
  | inBlock {id : Nat} {k : List Go.Item} {k' : List Item} (t : Todo P pol n k k') : Todo P pol n (.inBlock id :: k) (.inBlock id :: k')
  | inLoop {f : Nat} {c : Code} {ic : IC} {k : List Go.Item} {k' : List Item} (h : trCode P pol f n c = some ic) (t : Todo P pol n k k') : Todo P pol n (.inLoop c :: k) (.inLoop ic :: k')
  | inScope {c : Code} {k : List Go.Item} {k' : List Item} (t : Todo P pol n k k') : Todo P pol n (.inScope c :: k) (.inScope :: k')
  | beginRound {k : List Go.Item} {k' : List Item} (t : Todo P pol n k k') : Todo P pol n (.beginRound :: k) (.beginRound :: k')

theorem Todo.exit {P : Program} {pol : Pol} {n id : Nat} {k : List Go.Item} {k' : List Item} (h : Todo P pol n k k') :
    (∀ l', exitTo id k' = some l' → ∃ l, Go.exitTo id k = some l ∧ Todo P pol n l l') ∧ (exitTo id k' = none → Go.exitTo id k = none) := by
  induction h with
  | nil => exact ⟨fun l' h => by simp [exitTo] at h, fun _ => rfl⟩
  | code h t ih => simpa [exitTo, Go.exitTo] using ih
  | @inBlock id' k k' t ih =>
    simp only [exitTo, Go.exitTo]
    by_cases e : id' = id
    · subst e
      simp
      exact t
    · have e' : (id' == id) = false := by simpa using e
      simpa [e, e'] using ih
  | inLoop h t ih => simpa [exitTo, Go.exitTo] using ih
  | inScope t ih => simpa [exitTo, Go.exitTo] using ih
  | beginRound t ih => simpa [exitTo, Go.exitTo] using ih
end Go.Mia
namespace Go.Mia
open Go

def actOf (fr : Frame) : Act := ⟨fr.tmps, fr.defers⟩
theorem eval_actOf (fr : Frame) : fr.eval = (actOf fr).eval := by funext x; cases x <;> rfl

section
variable {P : Program} {pol : Pol} {k : K} {δ j : Nat} {B T : Nat → Prop} {st : St} {tmps : Array Value}

theorem FrRel.loc (h : FrRel P pol k δ B T st tmps) (hB : ¬ B (st.m + j)) (hT : ¬ T (st.nt + j)) : Loc P pol k δ j st B T where
  good := h.good
  store := h.store
  fb := h.newm _ hB
  fc := fun off => h.newc _ off hB
  ft := h.dead _ (h.newt _ hT)
  fl := h.newt _ hT
  low := h.low
  has := fun d i b hb => by
    rcases Nat.lt_trichotomy d δ with h1 | h1 | h1
    · exact .inl h1
    · subst h1
      right
      refine ⟨rfl, ?_⟩
      exact Classical.byContradiction fun hn => by rw [h.newm i hn] at hb; cases hb
    · rw [h.up d i h1] at hb; cases hb
  nB := hB
  nT := hT

theorem FrRel.val (h : FrRel P pol k δ B T st tmps) (t : Nat) : Val k δ st B T (tmps.getD t undef) (st.σ t) := ⟨h.rep t, h.tk t, h.names t⟩
theorem FrRel.tops (h : FrRel P pol k δ B T st tmps) : Tops k δ := ⟨h.up, h.upt, h.upc⟩

theorem wanted_ok {ops : Array Oper} {mo : Oper} {o : IOper} {b : Bool} (hg : guardOf ops.toList mo = some o.guard) (hr : ∀ t, Rep k (tmps.getD t undef) (st.σ t)) (hw : wanted st o = some b) : Region.wanted mo (yielded ops tmps) = b := by
  unfold guardOf at hg
  unfold wanted at hw
  unfold Region.wanted
  cases hmg : mo.guard with
  | none =>
    rw [hmg] at hg
    simp only [Option.some.injEq] at hg
    rw [← hg] at hw
    simp at hw
    subst hw
    rfl
  | some p =>
    obtain ⟨g, w⟩ := p
    rw [hmg] at hg
    simp only at hg
    split at hg
    · rename_i t ht
      simp only [Option.some.injEq] at hg
      rw [← hg] at hw
      simp only at hw
      have ht' : (ops[g]?).bind (·.dst) = some t := by rw [← ht]; simp
      simp only [yielded, ht', Option.bind_some]
      have hrep := hr t
      split at hw
      · rename_i c hc
        rw [hc] at hrep
        have hv := Rep.inv_bool hrep
        simp only [Option.some.injEq] at hw
        subst hw
        have : tmps[t]? = some (.bool c) := by
          rw [Array.getD_eq_getD_getElem?] at hv
          cases h : tmps[t]? with
          | none => rw [h] at hv; cases hv
          | some x => rw [h] at hv; simpa using hv
        rw [this]
        simp
      · rename_i hc
        rw [hc] at hrep
        obtain ⟨vs, hv, hl, _⟩ := Rep.inv_tup hrep
        simp only [Option.some.injEq] at hw
        subst hw
        have hvs : vs = [] := by simpa using hl
        subst hvs
        rw [Array.getD_eq_getD_getElem?] at hv
        cases h : tmps[t]? with
        | none => simp
        | some x =>
          rw [h] at hv
          simp at hv
          rw [hv]
          simp
      · simp at hw
    · simp at hg
end
end Go.Mia
namespace Go.Mia
open Go

theorem builtin_goes {P : Program} {pol : Pol} {f : Nat} {o : Oper} {c : Call} {b : Builtin} {io : IOp} (h : trBuiltin P pol f o c b = some io) (hg : io.goes = true) : b = .recover ∧ c.args.toList = [] ∧ io = .recov := by
  unfold trBuiltin at h
  split at h
  · split at h
    · simp only [Option.map_eq_some_iff] at h; obtain ⟨_, _, rfl⟩ := h; cases hg
    · simp only [Option.map_eq_some_iff] at h; obtain ⟨_, _, rfl⟩ := h; cases hg
    · simp at h
  · split at h
    · simp only [Option.map_eq_some_iff] at h; obtain ⟨_, _, rfl⟩ := h; cases hg
    · simp at h
  · split at h
    · simp only [Option.map_eq_some_iff] at h; obtain ⟨_, _, rfl⟩ := h; cases hg
    · simp at h
  · split at h
    · split at h
      · simp only at h
        split at h
        · split at h
          · simp only [if_true, Option.some.injEq] at h; subst h; cases hg
          · simp at h
        · simp only [Option.some.injEq] at h; subst h; cases hg
        · simp at h
      · simp at h
    · simp at h
  · split at h
    · split at h
      · simp only [Option.some.injEq] at h; subst h; cases hg
      · simp at h
    · simp at h
  · rename_i ha; simp only [Option.some.injEq] at h; subst h; exact ⟨rfl, ha, rfl⟩
  · simp at h

/-- what goes, and from what it came -/
inductive GoesAs (P : Program) (pol : Pol) (f : Nat) (o : Oper) : IOp → Prop
  | recov {args : Array Operand} {ats : Array TypeId} (h : o.op = .call { callee := .builtin .recover, args, argTypes := ats }) (h0 : args.toList = []) : GoesAs P pol f o .recov
  | call {g : Operand} {args : Array Operand} {ats : Array TypeId} {g' : Opnd} {xs : List Opnd} {own : Bool} (h : o.op = .call { callee := .value g, args, argTypes := ats }) (hg : opnd P 0 g = some g') (ha : opnds P ats.toList args.toList = some xs) : GoesAs P pol f o (.call own g' xs)
  | clone {g : FuncId} {args : Array Operand} {ats : Array TypeId} {e : TypeId} {s bytes : Nat} {x : Opnd} {vec : Bool} (h : o.op = .call { callee := .value (.func g), args, argTypes := ats }) (ha : opnds P ats.toList args.toList = some [x]) (hc : pol.clones.contains g = true)
      (hs : sliceInfo P (paramT P g) = some (e, s, bytes)) : GoesAs P pol f o (.clone vec g s bytes x)
  | grow {g : FuncId} {args : Array Operand} {ats : Array TypeId} {e : TypeId} {s bytes : Nat} {x n : Opnd} {zs : List D} (h : o.op = .call { callee := .value (.func g), args, argTypes := ats }) (ha : opnds P ats.toList args.toList = some [x, n]) (hc : pol.grows.contains g = true)
      (hs : sliceInfo P (paramT P g) = some (e, s, bytes)) (hz : zeroT P e = some zs) (hl : zs.length = s) : GoesAs P pol f o (.grow g s bytes zs x n)
  | defer {g : Operand} {args : Array Operand} {ats : Array TypeId} {g' : Opnd} {xs : List Opnd} (h : o.op = .defer { callee := .value g, args, argTypes := ats }) (hg : opnd P 0 g = some g') (ha : opnds P ats.toList args.toList = some xs) : GoesAs P pol f o (.defer g' xs)
  | panic {x : Operand} {x' : Opnd} (h : o.op = .panic x) (hx : opnd P 0 x = some x') : GoesAs P pol f o (.panic x')

theorem trOp_goes {P : Program} {pol : Pol} {f : Nat} {o : Oper} {io : IOp} (ht : trOp P pol f o = some io) (hg : io.goes = true) : GoesAs P pol f o io := by
  unfold trOp at ht
  split at ht
  case h_24 b args ats ho =>
    obtain ⟨rfl, h0, rfl⟩ := builtin_goes ht hg
    exact .recov ho h0
  case h_25 g args ats ho =>
    split at ht
    · rename_i g' xs h1 h2
      split at ht
      · rename_i h
        split at ht
        · rename_i hc
          split at ht
          · rename_i e s bytes x hs
            simp only [Option.some.injEq] at ht
            subst ht
            exact .clone ho h2 hc hs
          · simp at ht
        · split at ht
          · rename_i hc
            split at ht
            · rename_i e s bytes x n hs
              split at ht
              · rename_i zs hz
                split at ht
                · rename_i hl
                  simp only [Option.some.injEq] at ht
                  subst ht
                  exact .grow ho h2 hc hs hz hl
                · simp at ht
              · simp at ht
            · simp at ht
          · simp only [Option.some.injEq] at ht
            subst ht
            exact .call ho h1 h2
      · simp only [Option.some.injEq] at ht
        subst ht
        exact .call ho h1 h2
    · simp at ht
  case h_26 g args ats ho =>
    split at ht
    · rename_i g' xs h1 h2
      simp only [Option.some.injEq] at ht
      subst ht
      exact .defer ho h1 h2
    · simp at ht
  case h_27 x ho =>
    simp only [Option.map_eq_some_iff] at ht
    obtain ⟨y, hy, rfl⟩ := ht
    exact .panic ho hy
  all_goals exfalso
  all_goals first
    | (simp at ht; done)
    | (simp only [Option.map_eq_some_iff] at ht; obtain ⟨_, _, rfl⟩ := ht; cases hg)
    | (repeat' (split at ht))
      all_goals first
        | (simp at ht; done)
        | (simp only [Option.some.injEq] at ht; subst ht; cases hg)
        | (simp only [Option.map_eq_some_iff] at ht; obtain ⟨_, _, rfl⟩ := ht; cases hg)

theorem trOp_defer {P : Program} {pol : Pol} {f : Nat} {o : Oper} {io : IOp} {c : Call} (ht : trOp P pol f o = some io) (ho : o.op = .defer c) : io.goes = true := by
  unfold trOp at ht
  rw [ho] at ht
  obtain ⟨callee, args, ats⟩ := c
  cases callee with
  | value g =>
    simp only at ht
    split at ht
    · simp only [Option.some.injEq] at ht
      subst ht; rfl
    · simp at ht
  | _ => simp at ht
end Go.Mia
namespace Go.Mia
open Go

/-- what a call's machinery enters -/
inductive Enters (P : Program) : Next → CallKind → Frame → Prop
  | enter {f : FuncId} {args : Array Value} {kd : CallKind} : Enters P (.enter f args) kd (Frame.enter P f args kd)
  | round {l : Nat} {f : FuncId} {tmps : Array Value} {as bd : Code} {kd : CallKind} : Enters P (.round l f tmps as bd) kd (Frame.round l f tmps as bd kd)

/-- the caller whose panic was recovered, or not -/
def Recd (recd : Bool) (c0 c : Frame) : Prop :=
  (recd = false ∧ c = c0) ∨ (recd = true ∧ ∃ v older, c0.mode = .panicking ({ v, recovered := false } :: older) ∧ c = { c0 with mode := .panicking ({ v, recovered := true } :: older) })

/-- how the caller looks behind a call that nobody deferred -/
def CameBack (δ' : Nat) (k' : K) (c c' : Frame) : Out → Prop
  | .ret d => ∃ v, c' = c.finish v ∧ Rep k' v d ∧ ResTk k' δ' v d
  | .pan d => ∃ v, c' = c.raise [{ v, recovered := false }] ∧ Rep k' v d ∧ d.pure = true ∧ ∃ t x, d = .iface t x

def callOf (fv : Value) (vs : Array Value) : Sem Next := do let d ← Deferred.ofValue fv vs; invoke d.target d.args

/-- A call that the reading knows is done by the machine. -/
def CallOk (P : Program) (pol : Pol) (δ : Nat) (call : CallF) : Prop :=
  ∀ (f : D) (args : List D) (S : Store) (rt : Ret), call none f args S (δ + 1) = some rt → ∀ (k : K) (fv : Value) (vs : List Value), Rep k fv f → Reps k vs args → Good k → Tops k δ → StoreRel P pol k S →
    ∃ x fr0, (callOf fv vs.toArray).run P k.w = .ok x k.w ∧ Enters P x .normal fr0 ∧
      ∀ (c : Frame) (cs : List Frame), ∃ k' c', Steps P (lone fr0 (c :: cs) k.w) (lone c' cs k'.w) ∧ Left P pol (δ + 1) k k' rt ∧ rt.recd = false ∧ CameBack (δ + 1) k' c c' rt.out

/-- slices.Clone and slices.Grow, which the reading does itself -/
def GoOk (P : Program) (pol : Pol) : Prop :=
  ∀ {δ j f : Nat} {k : K} {st st' : St} {B T : Nat → Prop} {a : Act} {o : Oper} {op : IOp} {d : D}, GoesAs P pol f o op → Loc P pol k δ j st B T → (∀ s ∈ op.slots, Val k δ st B T (a.tmps.getD s undef) (st.σ s)) → evalOp δ j op st = some (d, st') →
    ∃ x fr0 v k', (execOp a.eval o).run P k.w = .ok x k.w ∧ Enters P x .normal fr0 ∧ (∀ (c : Frame) (cs : List Frame), Steps P (lone fr0 (c :: cs) k.w) (lone (c.finish v) cs k'.w)) ∧ Gives P pol δ j k st B T v k' d st'

/-- the deferred calls -/
inductive Defs (P : Program) (n0 : Nat) (k : K) : List Deferred → List IDefer → Prop
  | nil : Defs P n0 k [] []
  | mark {b : Nat} {ds : List Deferred} {df : List IDefer} (h0 : n0 ≤ b) (hb : k.w.heap[b]? = some (.deferred (some []))) (h1 : ∀ d i, k.β d i ≠ some b) (h2 : ∀ h o, k.sp h ≠ some (b, o))
      (hne : ∀ d ∈ ds, ∀ b', d.target = .collected b' → b' ≠ b) (t : Defs P n0 k ds df) : Defs P n0 k ({ target := .collected b, args := #[] } :: ds) (.mark :: df)
  | call {d : Deferred} {ds : List Deferred} {df : List IDefer} {f : D} {args : List D} {fv : Value} {vs : List Value} (hr : Rep k fv f) (ha : Reps k vs args) (ho : ∀ w, (Deferred.ofValue fv vs.toArray).run P w = .ok d w) (t : Defs P n0 k ds df) :
      Defs P n0 k (d :: ds) (.call f args :: df)

/-- what the frame is -/
def Rnd (P : Program) (k : K) (cx : Cx) (fr : Frame) : Prop :=
  (P.funcs[fr.fn]?).isSome = true ∧ match cx.round with
    | none => fr.roundOf = none ∧ ∃ fn, P.funcs[fr.fn]? = some fn ∧ trRess P fn.results.toList = some cx.results
    | some (d, i) => d < cx.δ ∧ fr.kind = .normal ∧ ∃ b, fr.roundOf = some b ∧ k.β d i = some b

/-- what recover finds -/
def Pend (k : K) (pend : Option D) (recd : Bool) (kind : CallKind) (c0 c : Frame) : Prop :=
  (pend = none ∧ Recd recd c0 c ∧ ((kind = .normal ∧ recd = false) ∨ kind = .deferred) ∧ ∀ fr : Frame, fr.kind = kind → ∀ cs, tryRecover fr (c :: cs) = none) ∨
  (∃ t x v older, pend = some (.iface t x) ∧ recd = false ∧ c = c0 ∧ kind = .deferred ∧ c0.mode = .panicking ({ v, recovered := false } :: older) ∧ Rep k v (.iface t x))

/-- What holds in a frame while it runs. -/
structure Base (P : Program) (pol : Pol) (k0 k : K) (cx : Cx) (B T : Nat → Prop) (st : St) (df : List IDefer) (fr c0 c : Frame) : Prop where
  rel : FrRel P pol k cx.δ B T st fr.tmps
  defs : Defs P k0.w.heap.size k fr.defers df
  rnd : Rnd P k cx fr
  pend : Pend k st.pend st.recd fr.kind c0 c
  ext : Ext cx.δ st.low k0 k

theorem Defs.ext {P : Program} {n0 δ low : Nat} {k k' : K} (E : Ext δ low k k') {ds : List Deferred} {df : List IDefer} (h : Defs P n0 k ds df) : Defs P n0 k' ds df := by
  induction h with
  | nil => exact .nil
  | mark h0 hb h1 h2 hne t ih =>
    have hlt := (Array.getElem?_eq_some_iff.1 hb).1
    obtain ⟨n1, n2⟩ := E.nobox _ hlt h1 h2
    exact .mark h0 ((E.other _ hlt h1 h2).trans hb) n1 n2 hne ih
  | call hr ha ho t ih => exact .call (hr.later E.later) (ha.later E.later) ho ih

theorem Rnd.ext {P : Program} {δ low : Nat} {k k' : K} (E : Ext δ low k k') {cx : Cx} {fr fr' : Frame} (h : Rnd P k cx fr) (h1 : fr'.fn = fr.fn) (h2 : fr'.roundOf = fr.roundOf) (h3 : fr'.kind = fr.kind) : Rnd P k' cx fr' := by
  unfold Rnd at *
  rw [h1, h2, h3]
  refine ⟨h.1, ?_⟩
  have h := h.2
  split
  · rename_i e; rw [e] at h; exact h
  · rename_i d i e
    rw [e] at h
    obtain ⟨q1, q2, b, q3, q4⟩ := h
    exact ⟨q1, q2, b, q3, E.later.β _ _ _ q4⟩

theorem Pend.ext {δ low : Nat} {k k' : K} (E : Ext δ low k k') {p : Option D} {r : Bool} {kd : CallKind} {c0 c : Frame} (h : Pend k p r kd c0 c) : Pend k' p r kd c0 c := by
  rcases h with h | ⟨t, x, v, older, h1, h2, h3, h4, h5, h6⟩
  · exact .inl h
  · exact .inr ⟨t, x, v, older, h1, h2, h3, h4, h5, h6.later E.later⟩

theorem FrRel.same {P : Program} {pol : Pol} {k : K} {δ : Nat} {B T : Nat → Prop} {st st' : St} {tmps : Array Value} (h : FrRel P pol k δ B T st tmps) (h1 : st'.σ = st.σ) (h2 : st'.S = st.S) (h3 : st'.live = st.live) (h4 : st'.now = st.now) (h5 : st'.low = st.low) :
    FrRel P pol k δ B T st' tmps where
  rep := by rw [h1]; exact h.rep
  tk := by rw [h1, h3, h4]; exact h.tk
  names := by rw [h1]; exact h.names
  dead := by rw [h3]; exact h.dead
  newt := by rw [h3]; exact h.newt
  newm := h.newm
  newc := h.newc
  up := h.up
  upt := h.upt
  upc := h.upc
  good := h.good
  store := by rw [h2]; exact h.store
  low := by rw [h5]; exact h.low

section
variable {P : Program} {pol : Pol} {k0 k k' : K} {cx : Cx} {B T : Nat → Prop} {st st' : St} {df : List IDefer} {fr fr' c0 c : Frame} {j : Nat}

/-- an operation is done -/
theorem Base.gives (h : Base P pol k0 k cx B T st df fr c0 c) (nB : ¬ B (st.m + j)) (nT : ¬ T (st.nt + j)) {v : Value} {d : D} {dst : Option Nat} (G : Gives P pol cx.δ j k st B T v k' d st') (hd : ∀ x, dst = some x → x < fr.tmps.size)
    (e1 : fr'.tmps = putT fr.tmps dst v) (e2 : fr'.defers = fr.defers) (e3 : fr'.fn = fr.fn) (e4 : fr'.roundOf = fr.roundOf) (e5 : fr'.kind = fr.kind) :
    Base P pol k0 k' cx (More B (st.m + j)) (More T (st.nt + j)) (putD st' dst d) df fr' c0 c := by
  have hl : st'.low ≤ cx.δ := Nat.le_trans G.chg.low h.rel.low
  have E := G.chg.ext st'.low hl (Nat.le_refl _)
  have p1 : (putD st' dst d).pend = st.pend := by cases dst <;> exact G.chg.pend
  have p2 : (putD st' dst d).recd = st.recd := by cases dst <;> exact G.chg.recd
  have p3 : (putD st' dst d).low = st'.low := by cases dst <;> rfl
  refine ⟨?_, ?_, h.rnd.ext E e3 e4 e5, ?_, ?_⟩
  · rw [e1]
    exact h.rel.chg nB nT G.chg G.rep G.tk G.name G.no hd
  · rw [e2]; exact h.defs.ext E
  · rw [p1, p2, e5]; exact h.pend.ext E
  · rw [p3]; exact (h.ext.mono G.chg.low).trans E hl

theorem Gives.refl {v : Value} {d : D} (L : Loc P pol k cx.δ j st B T) (hr : Rep k v d) (hp : ∀ tk s xs, d = .slice tk s xs → tk = .full ∨ tk = .none) : Gives P pol cx.δ j k st B T v k d st :=
  ⟨.refl L.good, hr, .plain hp, .plain hp, fun _ => L.ft⟩

theorem goes_ok {a : Act} {f : Nat} {o : IOper} {mo : Oper} {r r' : RSt} (GO : GoOk P pol) (hgo : GoesAs P pol f mo o.op) (hqi : quietOp o.op = false) (L : Loc P pol k cx.δ j r.st B T) (hs : ∀ s ∈ o.op.slots, Val k cx.δ r.st B T (a.tmps.getD s undef) (r.st.σ s))
    (h : stepPlain cx.δ j o r = some r') : ∃ x fr0 v k' d st', (execOp a.eval mo).run P k.w = .ok x k.w ∧ Enters P x .normal fr0 ∧ (∀ (c : Frame) (cs : List Frame), Steps P (lone fr0 (c :: cs) k.w) (lone (c.finish v) cs k'.w)) ∧
      Gives P pol cx.δ j k r.st B T v k' d st' ∧ r'.st = putD st' o.dst d ∧ r'.df = r.df := by
  unfold stepPlain at h
  by_cases hiso : o.iso = true
  · rw [if_pos hiso] at h
    simp only [Option.map_eq_some_iff] at h
    obtain ⟨⟨d, s'⟩, h1, rfl⟩ := h
    obtain ⟨x, fr0, v, k', g1, g2, g3, g4⟩ := GO hgo L hs h1
    exact ⟨x, fr0, v, k', d, s', g1, g2, g3, g4, rfl, rfl⟩
  · rw [if_neg hiso] at h
    split at h
    · rename_i s x y ho; rw [ho] at hgo; cases hgo
    · rename_i g s x ho; rw [ho] at hgo; cases hgo
    · rename_i n1 n2
      split at h
      · simp at h
      · split at h
        · rename_i d s' hE
          split at h
          · rename_i hn
            simp only [Option.some.injEq] at h
            subst h
            obtain ⟨x, fr0, v, k', g1, g2, g3, g4⟩ := GO hgo L.view (fun s hs' => (hs s hs').view) hE
            have hd := evalOp_newtok hqi (by
                cases ho : o.op with
                | load g s x => exact absurd ho (n2 g s x)
                | _ => rfl) hE
            exact ⟨x, fr0, v, k', d, _, g1, g2, g3, g4.merged L hd hn, rfl, rfl⟩
          · simp at h
        · simp at h

/-- the frames below, if the caller is so -/
def Callers (cl : Frame → List Frame) (kind : CallKind) : Prop := kind = .normal ∨ ∃ cs, cl = fun c => c :: cs

/-- what an operation leaves of the frame -/
structure OpEnd (P : Program) (pol : Pol) (k0 k : K) (cx : Cx) (B T : Nat → Prop) (j : Nat) (st : St) (r' : RSt) (ops : Array Oper) (rest : List Nat) (kk : List Go.Item) (fr c0 c : Frame) (cl : Frame → List Frame) (k' : K) (fr' c' : Frame) : Prop where
  steps : Steps P (lone fr (cl c) k.w) (lone fr' (cl c') k'.w)
  mode : fr'.mode = .run
  todo : fr'.todo = .inRegion ops rest :: kk
  size : fr'.tmps.size = fr.tmps.size
  base : Base P pol k0 k' cx (More B (st.m + j)) (More T (st.nt + j)) r'.st r'.df fr' c0 c'
  m : r'.st.m = st.m
  nt : r'.st.nt = st.nt
  kind : fr'.kind = fr.kind ∧ fr'.fn = fr.fn

theorem putD_mnt {st : St} {dst : Option Nat} {d : D} : (putD st dst d).m = st.m ∧ (putD st dst d).nt = st.nt := by cases dst <;> exact ⟨rfl, rfl⟩

theorem finish_in {ops : Array Oper} {i : Nat} {rest : List Nat} {kk : List Go.Item} {mo : Oper} (ht : fr.todo = .inRegion ops (i :: rest) :: kk) (ho : ops[i]? = some mo) (v : Value) : fr.finish v = { fr with tmps := putT fr.tmps mo.dst v, todo := .inRegion ops rest :: kk } := by
  unfold Frame.finish
  rw [ht]
  simp only [ho, Option.bind_some]
  unfold putT
  rfl

variable {cl : Frame → List Frame} {ops : Array Oper} {rest : List Nat} {kk : List Go.Item} {mo : Oper} {o : IOper} {call : CallF} {r r' : RSt} {f i : Nat}

/-- with a value that an operation gave -/
theorem OpEnd.of (h : Base P pol k0 k cx B T r.st r.df fr c0 c) (nB : ¬ B (r.st.m + j)) (nT : ¬ T (r.st.nt + j)) (hm : fr.mode = .run) (ht : fr.todo = .inRegion ops (i :: rest) :: kk) (ho : ops[i]? = some mo) {v : Value} {d : D}
    (G : Gives P pol cx.δ j k r.st B T v k' d st') (hd : ∀ x, mo.dst = some x → x < fr.tmps.size) (hst : r'.st = putD st' mo.dst d) (hdf : r'.df = r.df) (S : Steps P (lone fr (cl c) k.w) (lone (fr.finish v) (cl c) k'.w)) :
    OpEnd P pol k0 k cx B T j r.st r' ops rest kk fr c0 c cl k' (fr.finish v) c := by
  have hf := finish_in ht ho v
  refine ⟨S, ?_, ?_, ?_, ?_, ?_, ?_, ?_⟩
  · rw [hf]; exact hm
  · rw [hf]
  · rw [hf]; exact putT_size ..
  · rw [hst, hdf]
    refine h.gives nB nT G hd ?_ ?_ ?_ ?_ ?_ <;> rw [hf]
  · rw [hst, putD_mnt.1]; exact G.chg.m
  · rw [hst, putD_mnt.2]; exact G.chg.nt
  · rw [hf]; exact ⟨rfl, rfl⟩
end
end Go.Mia
namespace Go.Mia
open Go

section
variable {P : Program} {pol : Pol} {k0 k k' : K} {cx : Cx} {B T : Nat → Prop} {st st' : St} {df : List IDefer} {fr fr' c0 c : Frame} {j : Nat} {cs : List Frame} {ops : Array Oper} {rest : List Nat} {kk : List Go.Item} {mo : Oper} {o : IOper} {call : CallF} {r r' : RSt} {f i : Nat}

/-- what is known of an operation of a region -/
structure OpIs (P : Program) (pol : Pol) (f n : Nat) (ops : Array Oper) (i : Nat) (o : IOper) (mo : Oper) : Prop where
  at_ : ops[i]? = some mo
  dst : mo.dst = o.dst
  lt : ∀ x, mo.dst = some x → x < n
  tr : trOp P pol f mo = some o.op
  guard : guardOf ops.toList mo = some o.guard
  quiet : quietOp o.op = true → o.iso = true

theorem st_enters {x : Next} {fr0 : Frame} {w w' : World} (hm : fr.mode = .run) (ht : fr.todo = .inRegion ops (i :: rest) :: kk) (ho : ops[i]? = some mo) (hw : Region.wanted mo (yielded ops fr.tmps) = true)
    (hr : fr.roundOf = none ∨ ∀ c, mo.op ≠ .defer c) (hx : (execOp fr.eval mo).run P w = .ok x w') (he : Enters P x .normal fr0) :
    step P (lone fr cs w) = .next (lone fr0 (fr :: cs) w') := by
  cases he with
  | enter => exact st_enter hm ht ho hw hr hx
  | round => exact st_round hm ht ho hw hr hx

theorem exec_call {a : Act} {g : Operand} {args : Array Operand} {ats : Array TypeId} (ho : mo.op = .call { callee := .value g, args, argTypes := ats }) :
    execOp a.eval mo = callOf (a.eval g) (args.map a.eval) := by
  unfold execOp callOf; rw [ho]; rfl

theorem map_arr {g : Operand → Value} {xs : Array Operand} : xs.map g = (xs.toList.map g).toArray := by apply Array.ext'; simp

theorem putD_with {st : St} {dst : Option Nat} {d : D} {p : Option D} {q : Bool} : putD { st with pend := p, recd := q } dst d = { putD st dst d with pend := p, recd := q } := by cases dst <;> rfl

theorem FrRel.noB (h : FrRel P pol k cx.δ B T st fr.tmps) (t : Nat) : Val k cx.δ st B T (fr.tmps.getD t undef) (st.σ t) := h.val t

/-- One operation that ends in no panic. -/
theorem op_step {cl : Frame → List Frame} (HC : Callers cl fr.kind) (GO : GoOk P pol) (CO : CallOk P pol cx.δ call) (h : Base P pol k0 k cx B T r.st r.df fr c0 c) (nB : ¬ B (r.st.m + j)) (nT : ¬ T (r.st.nt + j)) (hm : fr.mode = .run) (ht : fr.todo = .inRegion ops (i :: rest) :: kk)
    (oi : OpIs P pol f fr.tmps.size ops i o mo) (hs : stepO call cx j o r = some (.inl r')) : ∃ k' fr' c', OpEnd P pol k0 k cx B T j r.st r' ops rest kk fr c0 c cl k' fr' c' := by
  have L := h.rel.loc nB nT
  have hv : ∀ t, Val k cx.δ r.st B T ((actOf fr).tmps.getD t undef) (r.st.σ t) := fun t => h.rel.val t
  have ho := oi.at_
  unfold stepO at hs
  cases hw : wanted r.st o with
  | none => rw [hw] at hs; cases hs
  | some b =>
    have hwm := wanted_ok (tmps := fr.tmps) oi.guard (fun t => h.rel.rep t) hw
    rw [hw] at hs
    cases b with
    | false =>
      simp only [Option.some.injEq, Sum.inl.injEq] at hs
      subst hs
      refine ⟨k, fr.finish undef, c, OpEnd.of h nB nT hm ht ho (Gives.refl L (v := undef) (d := .tup []) ?_ (by simp)) oi.lt (by rw [oi.dst]) rfl (.one (st_op_skip hm ht (by rw [ho]; simpa using hwm)))⟩
      exact Rep.tup (k := k) [] rfl (by simp)
    | true =>
      simp only at hs
      unfold stepW at hs
      split at hs
      · -- a call
        rename_i own g args hop
        have tr := oi.tr
        rw [hop] at tr
        cases trOp_goes tr rfl with
        | @call g0 args0 ats _ _ _ hmo hg ha =>
        have hnd : fr.roundOf = none ∨ ∀ c, mo.op ≠ .defer c := .inr fun c e => by rw [hmo] at e; cases e
        have vg := opnd_val (a := actOf fr) hg fun s _ => hv s
        have vas := (opnds_reps (a := actOf fr) ha fun s _ => hv s).degr
        split at hs
        · simp at hs
        · rename_i rt hcall
          obtain ⟨x, fr0, hx, he, hrun⟩ := CO _ _ _ _ hcall k _ _ vg.rep vas h.rel.good h.rel.tops (by
            split
            · exact h.rel.store
            · exact h.rel.store.view)
          obtain ⟨k', c', hsteps, hleft, hrec, hback⟩ := hrun fr (cl c)
          have hst0 : step P (lone fr (cl c) k.w) = .next (lone fr0 (fr :: cl c) k.w) := by
            refine st_enters hm ht ho hwm hnd ?_ he
            rw [eval_actOf, exec_call hmo, map_arr]; exact hx
          unfold stepCall at hs
          split at hs
          · simp at hs
          · rename_i st1 hac
            split at hs
            · rename_i d hout
              rw [hout] at hback
              obtain ⟨v, rfl, hr, hrt⟩ := hback
              have S := Steps.head hst0 hsteps
              split at hs
              · simp only [Option.some.injEq, Sum.inl.injEq] at hs
                subst hs
                have G := call_gives_own L h.rel.tops hleft hac hr hrt
                exact ⟨_, _, c, OpEnd.of h nB nT hm ht ho G oi.lt (by rw [oi.dst]) rfl S⟩
              · simp only [Option.some.injEq, Sum.inl.injEq] at hs
                subst hs
                have G := call_gives_plain L h.rel.tops hleft hac hr
                exact ⟨_, _, c, OpEnd.of h nB nT hm ht ho G oi.lt (by rw [oi.dst]) rfl S⟩
            · split at hs <;> simp at hs
      · -- a panic
        split at hs
        · split at hs <;> simp at hs
        · simp at hs
      · -- recover
        rename_i hop
        split at hs
        rotate_left
        · simp at hs
        rename_i hci
        rw [Bool.and_eq_true] at hci
        have tr := oi.tr
        rw [hop] at tr
        cases trOp_goes tr rfl with
        | @recov args ats hmo h0 =>
        have hround : fr.roundOf = none := by
          have := h.rnd.2
          rw [Option.isNone_iff_eq_none.1 hci.1] at this
          exact this.1
        have hx : (execOp fr.eval mo).run P k.w = .ok .recover k.w := by
          unfold execOp
          rw [hmo]
          rfl
        have hst := st_recover (cs := cl c) hm ht ho hwm hround hx
        rcases h.pend with ⟨p1, p2, p3, p4⟩ | ⟨t, x, v, older, p1, p2, p3, p4, p5, p6⟩
        · have htr : tryRecover fr (cl c) = none := by
            rcases HC with hk | ⟨cs, rfl⟩
            · unfold tryRecover; rw [hk]
            · exact p4 fr rfl cs
          rw [htr] at hst
          simp only [p1, Option.some.injEq, Sum.inl.injEq] at hs
          subst hs
          exact ⟨k, _, c, OpEnd.of h nB nT hm ht ho (Gives.refl L (v := .nilIface) (d := .nili) .nili (by simp)) oi.lt (by rw [oi.dst]) rfl (.one hst)⟩
        · simp only [p1, Option.some.injEq, Sum.inl.injEq] at hs
          subst hs
          subst p3
          have htr : tryRecover fr (cl c) = some (v, cl { c with mode := .panicking ({ v, recovered := true } :: older) }) := by
            obtain ⟨cs, rfl⟩ : ∃ cs, cl = fun c => c :: cs := by
              rcases HC with hk | hk
              · rw [hk] at p4; cases p4
              · exact hk
            unfold tryRecover
            rw [p4]
            simp [p5]
          rw [htr] at hst
          simp only at hst
          have hf := finish_in ht ho v
          have hlow : ∀ (dst : Option Nat) (d : D), (putD r.st dst d).low = r.st.low := fun dst d => by cases dst <;> rfl
          refine ⟨k, fr.finish v, _, .one hst, by rw [hf]; exact hm, by rw [hf], by rw [hf]; exact putT_size .., ?_, putD_mnt.1, putD_mnt.2, by rw [hf]; exact ⟨rfl, rfl⟩⟩
          have hb := h.gives nB nT (dst := mo.dst) (fr' := fr.finish v) (Gives.refl L p6 (by simp)) oi.lt (by rw [hf]) (by rw [hf]) (by rw [hf]) (by rw [hf]) (by rw [hf])
          simp only [oi.dst] at hb
          rw [putD_with]
          refine ⟨hb.rel.same rfl rfl rfl rfl rfl, hb.defs, hb.rnd, ?_, ?_⟩
          · refine .inl ⟨rfl, .inr ⟨rfl, v, older, p5, rfl⟩, ?_, fun fr1 hk cs1 => ?_⟩
            · right; rw [hf]; exact p4
            · rw [hf] at hk
              unfold tryRecover
              rw [hk, show (({ fr with tmps := putT fr.tmps mo.dst v, todo := .inRegion ops rest :: kk } : Frame).kind) = .deferred from p4]
          · exact hb.ext
      · -- defer
        rename_i g args hop
        split at hs
        rotate_left
        · simp at hs
        rename_i hci
        rw [Bool.and_eq_true, Bool.and_eq_true] at hci
        have tr := oi.tr
        rw [hop] at tr
        cases trOp_goes tr rfl with
        | @defer g0 args0 ats _ _ hmo hg ha =>
        have hround : fr.roundOf = none := by
          have := h.rnd.2
          rw [Option.isNone_iff_eq_none.1 hci.1.1] at this
          exact this.1
        have vg := opnd_val (a := actOf fr) hg fun s _ => hv s
        have vas := (opnds_reps (a := actOf fr) ha fun s _ => hv s).degr
        obtain ⟨ff, as, bs, hff⟩ : ∃ ff as bs, ev r.st.σ g = .fn ff as bs := by
          have := hci.2
          cases hev : ev r.st.σ g <;> rw [hev] at this <;> first | exact ⟨_, _, _, rfl⟩ | cases this
        have hrep := vg.rep
        have hgv : (actOf fr).eval g0 = fr.eval g0 := by rw [eval_actOf]
        rw [hff] at hrep hs
        rw [hgv] at hrep
        obtain ⟨vs, us, hfv⟩ : ∃ vs us, fr.eval g0 = .func (.func ff) vs us := by
          generalize fr.eval g0 = fv at hrep
          cases hrep with
          | fn vs us => exact ⟨_, _, rfl⟩
        have hofv : ∀ w, (Deferred.ofValue (fr.eval g0) (args0.toList.map (actOf fr).eval).toArray).run P w = .ok { target := .fn (.func ff) us, args := vs ++ (args0.toList.map (actOf fr).eval).toArray } w := by
          intro w; rw [hfv]; simp [Deferred.ofValue]
        have hx : (execOp fr.eval mo).run P k.w = .ok (.defer { target := .fn (.func ff) us, args := vs ++ (args0.toList.map (actOf fr).eval).toArray }) k.w := by
          unfold execOp
          rw [hmo]
          have e1 : resolve fr.eval { callee := .value g0, args := args0, argTypes := ats } mo.type = Deferred.ofValue (fr.eval g0) (args0.toList.map (actOf fr).eval).toArray := by
            unfold resolve
            simp only
            rw [map_arr, ← eval_actOf]
          simp only [e1]
          simp [hofv]
        have hst := st_defer (cs := cl c) hm ht ho hwm hround hx
        simp only [Option.some.injEq, Sum.inl.injEq] at hs
        subst hs
        have hf := finish_in ht ho undef
        have hf2 : ({ fr with defers := { target := .fn (.func ff) us, args := vs ++ (args0.toList.map (actOf fr).eval).toArray } :: fr.defers } : Frame).finish undef = { fr with tmps := putT fr.tmps mo.dst undef, todo := .inRegion ops rest :: kk, defers := { target := .fn (.func ff) us, args := vs ++ (args0.toList.map (actOf fr).eval).toArray } :: fr.defers } := by
          unfold Frame.finish
          simp only [ht, ho, Option.bind_some]
          unfold putT
          rfl
        have hb := h.gives nB nT (dst := mo.dst) (fr' := fr.finish undef) (Gives.refl L (v := undef) (d := .undef) (.undef _) (by simp)) oi.lt (by rw [hf]) (by rw [hf]) (by rw [hf]) (by rw [hf]) (by rw [hf])
        rw [oi.dst] at hb
        refine ⟨k, _, c, .one hst, by rw [hf2]; exact hm, by rw [hf2], by rw [hf2]; exact putT_size .., ?_, putD_mnt.1, putD_mnt.2, by rw [hf2]; exact ⟨rfl, rfl⟩⟩
        rw [hf2]
        rw [hf] at hb
        refine ⟨by have := hb.rel; rw [oi.dst]; rw [oi.dst] at this; exact this, ?_, hb.rnd, hb.pend, hb.ext⟩
        exact .call hrep.degr vas hofv h.defs
      · -- what is plain
        rename_i n1 n2 n3 n4
        simp only [Option.map_eq_some_iff, Sum.inl.injEq, exists_eq_right] at hs
        by_cases hgo : o.op.goes = true
        · have hga := trOp_goes oi.tr hgo
          have hq : quietOp o.op = false := by
            revert hga; generalize o.op = io; intro hga; cases hga <;> rfl
          obtain ⟨x, fr0, v, k', d, st', g1, g2, g3, G, g5, g6⟩ := goes_ok (a := actOf fr) GO hga hq L (fun s _ => hv s) hs
          have hnd : fr.roundOf = none ∨ ∀ c, mo.op ≠ .defer c := .inr fun c e => by
            generalize hio : o.op = io at hga
            cases hga with
            | defer h => exact n4 _ _ hio
            | recov h _ => rw [h] at e; cases e
            | call h => rw [h] at e; cases e
            | clone h => rw [h] at e; cases e
            | grow h => rw [h] at e; cases e
            | panic h => rw [h] at e; cases e
          have hst0 : step P (lone fr (cl c) k.w) = .next (lone fr0 (fr :: cl c) k.w) := by
            refine st_enters hm ht ho hwm hnd ?_ g2
            rw [eval_actOf]; exact g1
          exact ⟨_, _, c, OpEnd.of h nB nT hm ht ho G oi.lt (by rw [oi.dst]; exact g5) g6 (.head hst0 (g3 fr (cl c)))⟩
        · have hgo' : o.op.goes = false := by simpa using hgo
          obtain ⟨x, v, k', d, st', g1, g2, G, g5, g6⟩ := plain_ok (a := actOf fr) (f := f) oi.quiet oi.tr hgo' L (fun s _ => hv s) hs
          have hnd : fr.roundOf = none ∨ ∀ c, mo.op ≠ .defer c := .inr fun c e => by
            have := trOp_defer oi.tr e
            exact hgo this
          exact ⟨_, _, c, OpEnd.of h nB nT hm ht ho G oi.lt (by rw [oi.dst]; exact g5) g6 (.one (st_value hm ht ho hwm hnd (by rw [eval_actOf]; exact g1) g2))⟩
end
end Go.Mia
namespace Go.Mia
open Go

section
variable {P : Program} {pol : Pol} {k0 k k' : K} {cx : Cx} {B T : Nat → Prop} {st st' : St} {df : List IDefer} {fr fr' c0 c : Frame} {j : Nat} {cs : List Frame} {ops : Array Oper} {rest : List Nat} {kk : List Go.Item} {mo : Oper} {o : IOper} {call : CallF} {r r' : RSt} {f i : Nat}

/-- a frame in which a panic was raised -/
structure Raised (P : Program) (pol : Pol) (k0 k : K) (cx : Cx) (B T : Nat → Prop) (r' : RSt) (fr c0 c : Frame) (cl : Frame → List Frame) (k' : K) (v : D) (fr' : Frame) : Prop where
  steps : Steps P (lone fr (cl c) k.w) (lone fr' (cl c) k'.w)
  mode : ∃ v', fr'.mode = .panicking [{ v := v', recovered := false }] ∧ Rep k' v' v ∧ ∃ t x, v = .iface t x
  kind : fr'.kind = fr.kind ∧ fr'.fn = fr.fn
  base : Base P pol k0 k' cx B T r'.st r'.df fr' c0 c

theorem raise_run {vs : List PanicEntry} (hm : fr.mode = .run) : fr.raise vs = { fr with mode := .panicking vs } := by
  unfold Frame.raise; rw [hm]

/-- One operation that panics. -/
theorem op_panic {cl : Frame → List Frame} (CO : CallOk P pol cx.δ call) (h : Base P pol k0 k cx B T r.st r.df fr c0 c) (nB : ¬ B (r.st.m + j)) (nT : ¬ T (r.st.nt + j)) (hm : fr.mode = .run) (ht : fr.todo = .inRegion ops (i :: rest) :: kk)
    (oi : OpIs P pol f fr.tmps.size ops i o mo) {v : D} (hs : stepO call cx j o r = some (.inr (v, r'))) : ∃ k' fr', Raised P pol k0 k cx (More B (r.st.m + j)) (More T (r.st.nt + j)) r' fr c0 c cl k' v fr' := by
  have L := h.rel.loc nB nT
  have hv : ∀ t, Val k cx.δ r.st B T ((actOf fr).tmps.getD t undef) (r.st.σ t) := fun t => h.rel.val t
  have ho := oi.at_
  unfold stepO at hs
  cases hw : wanted r.st o with
  | none => rw [hw] at hs; cases hs
  | some b =>
    have hwm := wanted_ok (tmps := fr.tmps) oi.guard (fun t => h.rel.rep t) hw
    rw [hw] at hs
    cases b with
    | false => simp at hs
    | true =>
      simp only at hs
      unfold stepW at hs
      split at hs
      · -- a call
        rename_i own g args hop
        have tr := oi.tr
        rw [hop] at tr
        cases trOp_goes tr rfl with
        | @call g0 args0 ats _ _ _ hmo hg ha =>
        have hnd : fr.roundOf = none ∨ ∀ c, mo.op ≠ .defer c := .inr fun c e => by rw [hmo] at e; cases e
        have vg := opnd_val (a := actOf fr) hg fun s _ => hv s
        have vas := (opnds_reps (a := actOf fr) ha fun s _ => hv s).degr
        split at hs
        · simp at hs
        · rename_i rt hcall
          obtain ⟨x, fr0, hx, he, hrun⟩ := CO _ _ _ _ hcall k _ _ vg.rep vas h.rel.good h.rel.tops (by
            split
            · exact h.rel.store
            · exact h.rel.store.view)
          obtain ⟨k', c', hsteps, hleft, hrec, hback⟩ := hrun fr (cl c)
          have hst0 : step P (lone fr (cl c) k.w) = .next (lone fr0 (fr :: cl c) k.w) := by
            refine st_enters hm ht ho hwm hnd ?_ he
            rw [eval_actOf, exec_call hmo, map_arr]; exact hx
          unfold stepCall at hs
          split at hs
          · simp at hs
          · rename_i st1 hac
            split at hs
            · split at hs <;> simp at hs
            · rename_i d hout
              rw [hout] at hback
              obtain ⟨v', rfl, hr, hp, t, y, rfl⟩ := hback
              have S := Steps.head hst0 hsteps
              split at hs
              rotate_left
              · simp at hs
              simp only [Option.some.injEq, Sum.inr.injEq, Prod.mk.injEq] at hs
              obtain ⟨rfl, rfl⟩ := hs
              have G := call_gives_plain L h.rel.tops hleft hac (v := undef) (d := .undef) (.undef _)
              have hb := h.gives nB nT (dst := none) (fr' := fr.raise [{ v := v', recovered := false }]) G (by simp) (by rw [raise_run hm]; rfl) (by rw [raise_run hm]) (by rw [raise_run hm]) (by rw [raise_run hm]) (by rw [raise_run hm])
              exact ⟨afterK k' cx.δ (r.st.nt + j) false, _, S, ⟨v', by rw [raise_run hm], hr.later afterK_later, t, y, rfl⟩, by rw [raise_run hm]; exact ⟨rfl, rfl⟩, hb⟩
      · -- a panic
        rename_i x hop
        split at hs
        rotate_left
        · simp at hs
        rename_i t y hev
        split at hs
        rotate_left
        · simp at hs
        simp only [Option.some.injEq, Sum.inr.injEq, Prod.mk.injEq] at hs
        obtain ⟨rfl, rfl⟩ := hs
        have tr := oi.tr
        rw [hop] at tr
        cases trOp_goes tr rfl with
        | @panic x0 _ hmo hx0 =>
        have hnd : fr.roundOf = none ∨ ∀ c, mo.op ≠ .defer c := .inr fun c e => by rw [hmo] at e; cases e
        have vx := (opnd_val (a := actOf fr) hx0 fun s _ => hv s).rep
        rw [hev, ← eval_actOf] at vx
        obtain ⟨w, hw', hr⟩ : ∃ w, fr.eval x0 = .iface t w ∧ Rep k (.iface t w) (.iface t y) := by
          generalize fr.eval x0 = v at vx
          cases vx with | @iface _ w _ h => exact ⟨w, rfl, .iface h⟩
        have hx : (execOp fr.eval mo).run P k.w = .halt (.panic (.iface t w)) k.w := by
          unfold execOp
          rw [hmo]
          simp [Instr.panic, hw', goPanic]
        have S := st_panic (cs := cl c) hm ht ho hwm hnd hx
        have hb := h.gives nB nT (dst := none) (fr' := fr.raise [{ v := .iface t w, recovered := false }]) (Gives.refl L (v := undef) (d := .undef) (.undef _) (by simp)) (by simp) (by rw [raise_run hm]; rfl) (by rw [raise_run hm]) (by rw [raise_run hm]) (by rw [raise_run hm]) (by rw [raise_run hm])
        exact ⟨k, _, .one S, ⟨_, by rw [raise_run hm], hr, t, y, rfl⟩, by rw [raise_run hm]; exact ⟨rfl, rfl⟩, hb⟩
      · split at hs
        · split at hs <;> simp at hs
        · simp at hs
      · split at hs <;> simp at hs
      · simp at hs
end
end Go.Mia
namespace Go.Mia
open Go

/-- the world has changed where neither boxes nor cells are -/
structure Aside (k k' : K) : Prop where
  β : k'.β = k.β
  sp : k'.sp = k.sp
  size : k.w.heap.size ≤ k'.w.heap.size
  cells : ∀ (b : Nat) (cs : Array Value) (e : TypeId) (fr : Nat × Nat), k.w.heap[b]? = some (Go.Obj.cells cs e fr) → k'.w.heap[b]? = k.w.heap[b]?
  box : ∀ d i b, k.β d i = some b → k'.w.heap[b]? = k.w.heap[b]?
  os : k'.w.os = k.w.os
  tape : k'.w.tape = k.w.tape
  output : k'.w.output = k.w.output

section
variable {P : Program} {pol : Pol} {k0 k k' : K} {cx : Cx} {B T : Nat → Prop} {st st' : St} {df : List IDefer} {fr fr' c0 c : Frame} {j : Nat}

theorem Aside.later (A : Aside k k') : Later k k' := by
  refine ⟨fun d i b h => by rw [A.β]; exact h, fun b off v h => ⟨?_, by rw [A.β]; exact h.box, by rw [A.sp]; exact h.sp⟩⟩
  have hc := h.cell
  unfold World.cell? at hc ⊢
  simp only at hc ⊢
  cases hb : k.w.heap[b]? with
  | none => rw [hb] at hc; cases hc
  | some o =>
    cases o with
    | cells cs e f => rw [A.cells b cs e f hb]; exact hc
    | _ => rw [hb] at hc; cases hc

theorem Aside.region (A : Aside k k') {b o : Nat} {a : Option Addr} {len cap s : Nat} (h : Region k b o a len cap s) : Region k' b o a len cap s := by
  obtain ⟨f, ha, ho, cs, e, hb, hc⟩ := h
  exact ⟨f, ha, ho, cs, e, (A.cells _ _ _ _ hb).trans hb, hc⟩
theorem Aside.held (A : Aside k k') {h : Hold} {a : Option Addr} {len cap s : Nat} (H : HeldAt k h a len cap s) : HeldAt k' h a len cap s := by
  rcases H with ⟨b, o, h1, h2⟩ | ⟨h1, h2⟩
  · exact .inl ⟨b, o, by rw [A.sp]; exact h1, A.region h2⟩
  · exact .inr ⟨h1, by rw [A.sp]; exact h2⟩
theorem Aside.obj (A : Aside k k') {d i b : Nat} (hb : k.β d i = some b) {o : Obj} (h : ObjRel P pol k d i b o) : ObjRel P pol k' d i b o :=
  h.moved A.later (A.box d i b hb) (fun off => by rw [A.sp]) fun h a len cap s H _ => A.held H
theorem Aside.tk (A : Aside k k') {δ now : Nat} {live : Nat → Bool} {v : Value} {d : D} (h : CellTk k δ now live v d) : CellTk k' δ now live v d := by
  unfold CellTk at *
  split <;> simp only at h
  · exact fun hl => A.held (h hl)
  · exact ⟨h.1, fun e => A.held (h.2 e)⟩
  · trivial

theorem Aside.good (A : Aside k k') (h : Good k) : Good k' where
  inj := by rw [A.β]; exact h.inj
  lt := by rw [A.β]; exact fun d i b hb => Nat.lt_of_lt_of_le (h.lt d i b hb) A.size
  splt := by rw [A.sp]; exact fun x b o hb => Nat.lt_of_lt_of_le (h.splt x b o hb) A.size
  spinj := by rw [A.sp]; exact h.spinj
  disj := by rw [A.sp, A.β]; exact h.disj
  cb := by rw [A.sp, A.β]; exact h.cb

theorem Aside.store (A : Aside k k') {S : Store} (h : StoreRel P pol k S) : StoreRel P pol k' S := by
  intro d i b hb
  rw [A.β] at hb
  exact A.obj hb (h d i b hb)

theorem Aside.rel (A : Aside k k') {δ : Nat} {tmps : Array Value} (h : FrRel P pol k δ B T st tmps) : FrRel P pol k' δ B T st tmps where
  rep := fun t => (h.rep t).later A.later
  tk := fun t => A.tk (h.tk t)
  names := h.names
  dead := by rw [A.sp]; exact h.dead
  newt := h.newt
  newm := by rw [A.β]; exact h.newm
  newc := by rw [A.sp]; exact h.newc
  up := by rw [A.β]; exact h.up
  upt := by rw [A.sp]; exact h.upt
  upc := by rw [A.sp]; exact h.upc
  good := A.good h.good
  store := A.store h.store
  low := h.low

theorem Aside.ext (A : Aside k k') {δ low : Nat} (h : Ext δ low k0 k) (ho : ∀ b, b < k0.w.heap.size → k'.w.heap[b]? = k.w.heap[b]?) : Ext δ low k0 k' where
  later := h.later.trans A.later
  size := Nat.le_trans h.size A.size
  os := A.os.trans h.os
  tape := A.tape.trans h.tape
  output := A.output.trans h.output
  other := fun b hb h1 h2 => (ho b hb).trans (h.other b hb h1 h2)
  nobox := fun b hb h1 h2 => by rw [A.β, A.sp]; exact h.nobox b hb h1 h2
  boxes := fun d i b hd hb => (A.box d i b (h.later.β _ _ _ hb)).trans (h.boxes d i b hd hb)
  cells := by rw [A.sp]; exact h.cells
  toks := by rw [A.sp]; exact h.toks
  lv := by rw [A.β]; exact h.lv
  shape := fun b cs e hb => by
    obtain ⟨cs', h1, h2⟩ := h.shape b cs e hb
    exact ⟨cs', (A.cells _ _ _ _ h1).trans h1, h2⟩

theorem Aside.defs (A : Aside k k') {n0 : Nat} {ds : List Deferred} {df : List IDefer} (h : Defs P n0 k ds df) (hm : ∀ d ∈ ds, ∀ b, d.target = .collected b → k'.w.heap[b]? = k.w.heap[b]?) : Defs P n0 k' ds df := by
  induction h with
  | nil => exact .nil
  | @mark b ds df h0 hb h1 h2 hne t ih =>
    exact .mark h0 ((hm { target := .collected b, args := #[] } (by simp) b rfl).trans hb) (by rw [A.β]; exact h1) (by rw [A.sp]; exact h2) hne (ih fun d hd => hm d (by simp [hd]))
  | call hr ha ho t ih => exact .call (hr.later A.later) (ha.later A.later) ho (ih fun d hd => hm d (by simp [hd]))

theorem Defs.lt {n0 : Nat} {ds : List Deferred} {df : List IDefer} (h : Defs P n0 k ds df) : ∀ d ∈ ds, ∀ b, d.target = .collected b → b < k.w.heap.size := by
  induction h with
  | nil => intro d hd; simp at hd
  | @mark b ds df h0 hb h1 h2 hne t ih =>
    intro d hd b' hb'
    rcases List.mem_cons.1 hd with rfl | hd
    · simp only [Target.collected.injEq] at hb'
      subst hb'
      exact (Array.getElem?_eq_some_iff.1 hb).1
    · exact ih d hd b' hb'
  | @call d0 ds df f args fv vs hr ha ho t ih =>
    intro d hd b' hb'
    rcases List.mem_cons.1 hd with rfl | hd
    · have := ho k.w
      unfold Deferred.ofValue at this
      split at this
      · simp only [Sem.run_pure, Result.ok.injEq, and_true] at this
        subst this
        cases hb'
      · simp only [Sem.run_pure, Result.ok.injEq, and_true] at this
        subst this
        cases hb'
      · simp at this
    · exact ih d hd b' hb'

theorem Aside.drawn {k : K} {n : Nat} : Aside k { k with w := { k.w with drawn := n } } := ⟨rfl, rfl, Nat.le_refl _, fun _ _ _ _ _ => rfl, fun _ _ _ _ => rfl, rfl, rfl, rfl⟩

theorem Aside.base (A : Aside k k') (h : Base P pol k0 k cx B T st df fr c0 c) (hh : ∀ b : Nat, b < k.w.heap.size → k'.w.heap[b]? = k.w.heap[b]?) : Base P pol k0 k' cx B T st df fr c0 c := by
  refine ⟨A.rel h.rel, A.defs h.defs fun d hd b hb => hh b (h.defs.lt d hd b hb), ?_, ?_, A.ext h.ext fun b hb => hh b (Nat.lt_of_lt_of_le hb h.ext.size)⟩
  · have := h.rnd
    unfold Rnd at *
    rw [A.β]; exact this
  · rcases h.pend with h | ⟨t, x, v, older, h1, h2, h3, h4, h5, h6⟩
    · exact .inl h
    · exact .inr ⟨t, x, v, older, h1, h2, h3, h4, h5, h6.later A.later⟩

/-- more names -/
theorem FrRel.wider {δ : Nat} {B' T' : Nat → Prop} {tmps : Array Value} (h : FrRel P pol k δ B T st tmps) (hB : ∀ i, B i → B' i) (hT : ∀ i, T i → T' i) : FrRel P pol k δ B' T' st tmps :=
  { h with
    names := fun t => (h.names t).mono hB hT
    newt := fun t ht => h.newt t fun e => ht (hT t e)
    newm := fun i hi => h.newm i fun e => hi (hB i e)
    newc := fun i off hi => h.newc i off fun e => hi (hB i e) }
theorem Base.wider {B' T' : Nat → Prop} (h : Base P pol k0 k cx B T st df fr c0 c) (hB : ∀ i, B i → B' i) (hT : ∀ i, T i → T' i) : Base P pol k0 k cx B' T' st df fr c0 c :=
  { h with rel := h.rel.wider hB hT }
/-- the same frame, a little further in its text -/
theorem Base.frame (h : Base P pol k0 k cx B T st df fr c0 c) (e1 : fr'.tmps = fr.tmps) (e2 : fr'.defers = fr.defers) (e3 : fr'.fn = fr.fn) (e4 : fr'.roundOf = fr.roundOf) (e5 : fr'.kind = fr.kind) : Base P pol k0 k cx B T st df fr' c0 c := by
  refine ⟨by rw [e1]; exact h.rel, by rw [e2]; exact h.defs, ?_, by rw [e5]; exact h.pend, h.ext⟩
  have := h.rnd
  unfold Rnd at *
  rw [e3, e4, e5]; exact this
theorem Base.same (h : Base P pol k0 k cx B T st df fr c0 c) (h1 : st'.σ = st.σ) (h2 : st'.S = st.S) (h3 : st'.live = st.live) (h4 : st'.now = st.now) (h5 : st'.low = st.low) (h6 : st'.pend = st.pend) (h7 : st'.recd = st.recd) :
    Base P pol k0 k cx B T st' df fr c0 c :=
  ⟨h.rel.same h1 h2 h3 h4 h5, h.defs, h.rnd, by rw [h6, h7]; exact h.pend, by rw [h5]; exact h.ext⟩
end

/-! ### A region -/
/-- boxes (rights) of a frame within a region: those from before, and those of the operations that are done -/
def Done (m : Nat) (done : Nat → Prop) : Nat → Prop := fun i => i < m ∨ ∃ p, done p ∧ i = m + p

theorem Done.more (m i : Nat) (done : Nat → Prop) : More (Done m done) (m + i) = Done m fun p => done p ∨ p = i := by
  funext x
  apply propext
  constructor
  · rintro ((h | ⟨p, h, e⟩) | e)
    · exact .inl h
    · exact .inr ⟨p, .inl h, e⟩
    · exact .inr ⟨i, .inr rfl, e⟩
  · rintro (h | ⟨p, (h | h), e⟩)
    · exact .inl (.inl h)
    · exact .inl (.inr ⟨p, h, e⟩)
    · exact .inr (by omega)
theorem Done.not {m i : Nat} {done : Nat → Prop} (h : ¬ done i) : ¬ Done m done (m + i) := by
  rintro (h' | ⟨p, h', e⟩)
  · omega
  · have : p = i := by omega
    exact h (this ▸ h')
theorem Done.zero (m : Nat) : Done m (fun _ => False) = Below' m := by
  funext x
  apply propext
  constructor
  · rintro (h | ⟨p, h, _⟩)
    · exact h
    · exact h.elim
  · exact fun h => .inl h

theorem trOps_get {P : Program} {pol : Pol} {f : Nat} : ∀ {os : List Oper} {ios : List IOp}, trOps P pol f os = some ios → ∀ (i : Nat) (o : Oper) (io : IOp), os[i]? = some o → ios[i]? = some io → trOp P pol f o = some io
  | [], ios, h, i, o, io, ho, hi => by simp at ho
  | o' :: os, ios, h, i, o, io, ho, hi => by
    simp only [trOps] at h
    split at h
    · rename_i a b h1 h2
      simp only [Option.some.injEq] at h
      subst h
      cases i with
      | zero => simp at ho hi; subst ho; subst hi; exact h1
      | succ i => exact trOps_get h2 i o io (by simpa using ho) (by simpa using hi)
    · simp at h

/-- what is known of a region's operations -/
theorem region_facts {P : Program} {pol : Pol} {f n : Nat} {ops : Array Oper} {draw : Bool} {os : List IOper} (h : trRegion P pol f n ops draw = some os) :
    os.length = ops.size ∧ (∀ (i : Nat) (o : IOper), os[i]? = some o → ∃ mo, OpIs P pol f n ops i o mo) ∧
    (draw = true → schedOk ops = true ∧ ∀ (i j : Nat) (x y : IOper), os[i]? = some x → os[j]? = some y → i ≠ j → cmp (anc ops.toList) i j = false → Free i x j y) := by
  unfold trRegion at h
  split at h
  rotate_left
  · simp at h
  rename_i hd
  split at h
  · simp at h
  · rename_i ios hios
    split at h
    · simp at h
    · rename_i os' hmk
      split at h
      rotate_left
      · simp at h
      rename_i hok
      simp only [Option.some.injEq] at h
      subst h
      obtain ⟨hl, hl2, hg⟩ := mkOpers_get hmk
      refine ⟨by simpa using hl, fun i o hi => ?_, fun hdr => ?_⟩
      · obtain ⟨mo, io, g, q1, q2, q3, q4⟩ := hg i o hi
        have hmem : mo ∈ ops.toList := List.mem_of_getElem? q1
        have hdst : ∀ x, mo.dst = some x → x < n := by
          intro x hx
          unfold dstsOk at hd
          have := List.all_eq_true.1 hd mo hmem
          rw [hx] at this
          simpa using this
        have htr := trOps_get hios i mo io q1 q2
        refine ⟨mo, by simpa using q1, ?_, hdst, ?_, ?_, ?_⟩
        · rw [q4]; split <;> rfl
        · rw [q4]; split <;> exact htr
        · rw [q4]; split <;> exact q3
        · intro hq
          rw [q4] at hq ⊢
          split
          · rename_i hdr
            rw [if_pos hdr] at hq
            simp only at hq ⊢
            unfold isoOf
            have : opAt ios (0 + i) = io := by
              unfold opAt
              rw [List.getD_eq_getElem?_getD, Nat.zero_add, q2]; rfl
            rw [this, hq]; rfl
          · rfl
      · subst hdr
        simp only [if_true, Bool.not_true, Bool.false_or, Bool.and_eq_true] at hmk hok
        exact ⟨hok.2, fun i j x y hx hy hne hc => free_of hmk hok.1 hx hy hne hc⟩
end Go.Mia
namespace Go.Mia
open Go

/-- a schedule in which what comes next is free of all that is before it in the text -/
inductive SchedF : List (Nat × IOper) → List Nat → Prop
  | nil : SchedF [] []
  | cons {L1 L2 : List (Nat × IOper)} {i : Nat} {o : IOper} {l : List Nat} (h : ∀ x ∈ L1, Free x.1 x.2 i o) (t : SchedF (L1 ++ L2) l) : SchedF (L1 ++ (i, o) :: L2) (i :: l)

theorem schedF_text : ∀ (os : List IOper) (n : Nat), SchedF (number n os) (List.range' n os.length)
  | [], n => .nil
  | o :: os, n => by
    have := SchedF.cons (L1 := []) (L2 := number (n + 1) os) (i := n) (o := o) (l := List.range' (n + 1) os.length) (by simp) (by simpa using schedF_text os (n + 1))
    simpa [number, List.range'_succ] using this
theorem schedF_of {b : List Nat} {os : List IOper} (hfree : ∀ (i j : Nat) (x y : IOper), os[i]? = some x → os[j]? = some y → i ≠ j → cmp b i j = false → Free i x j y) {rem : List (Nat × IOper)} {l : List Nat} (h : Sched b rem l) : (∀ x ∈ rem, os[x.1]? = some x.2) → SchedF rem l := by
  induction h with
  | nil => exact fun _ => .nil
  | @cons L1 L2 i o l h t ih =>
    intro hm
    refine .cons (fun x hx => hfree x.1 i x.2 o (hm x (by simp [hx])) (hm (i, o) (by simp)) (h x hx).1 (h x hx).2) (ih fun x hx => hm x ?_)
    rcases List.mem_append.1 hx with h | h
    · simp [h]
    · simp [h]

section
variable {P : Program} {pol : Pol} {k0 : K} {cx : Cx} {call : CallF} {ops : Array Oper} {os : List IOper} {f n m0 t0 : Nat} {kk : List Go.Item} {c0 : Frame} {cl : Frame → List Frame}

/-- how a region ends -/
def RegEnd (P : Program) (pol : Pol) (k0 : K) (cx : Cx) (c0 : Frame) (cl : Frame → List Frame) (kk : List Go.Item) (B T : Nat → Prop) (k : K) (fr c : Frame) (m0 t0 : Nat) : Stop → Prop
  | .run r' => ∃ k' fr' c', Steps P (lone fr (cl c) k.w) (lone fr' (cl c') k'.w) ∧ fr'.mode = .run ∧ fr'.todo = kk ∧ fr'.tmps.size = fr.tmps.size ∧ (fr'.kind = fr.kind ∧ fr'.fn = fr.fn) ∧ Base P pol k0 k' cx B T r'.st r'.df fr' c0 c' ∧ r'.st.m = m0 ∧ r'.st.nt = t0
  | .pan v r' => ∃ k' fr' c' v', Steps P (lone fr (cl c) k.w) (lone fr' (cl c') k'.w) ∧ fr'.mode = .panicking [{ v := v', recovered := false }] ∧ Rep k' v' v ∧ (∃ t x, v = .iface t x) ∧ (fr'.kind = fr.kind ∧ fr'.fn = fr.fn) ∧
      Base P pol k0 k' cx B T r'.st r'.df fr' c0 c'

theorem region_run {kd : CallKind} (HC : Callers cl kd) (GO : GoOk P pol) (CO : CallOk P pol cx.δ call) (hop : ∀ (i : Nat) (o : IOper), os[i]? = some o → ∃ mo, OpIs P pol f n ops i o mo) {N : Nat} (hN : os.length ≤ N) :
    ∀ {rem : List (Nat × IOper)} {l : List Nat}, SchedF rem l → ∀ {r : RSt} {fr c : Frame} {k : K} {stop : Stop} (done : Nat → Prop), (∀ x ∈ rem, os[x.1]? = some x.2) → (rem.map (·.1)).Nodup → (∀ x ∈ rem, r.lg x.1 = none) → (∀ x ∈ rem, ¬ done x.1) → (∀ i, done i → i < N) →
      r.st.m = m0 → r.st.nt = t0 → fr.mode = .run → fr.kind = kd → fr.todo = .inRegion ops l :: kk → fr.tmps.size = n → Base P pol k0 k cx (Done m0 done) (Done t0 done) r.st r.df fr c0 c → runL call cx rem r = some stop →
      RegEnd P pol k0 cx c0 cl kk (Below' (m0 + N)) (Below' (t0 + N)) k fr c m0 t0 stop := by
  intro rem l hs
  have hw : ∀ (a : Nat) (done : Nat → Prop), (∀ i, done i → i < N) → ∀ i, Done a done i → Below' (a + N) i := by
    intro a done hd i h
    rcases h with h | ⟨p, h, e⟩
    · show i < a + N; omega
    · have := hd p h; show i < a + N; omega
  induction hs with
  | nil =>
    intro r fr c k stop done h1 h2 h3 h4 h5 e1 e2 hm hkd ht hsz hb hrun
    simp only [runL, Option.some.injEq] at hrun
    subst hrun
    refine ⟨k, { fr with todo := kk }, c, .one (st_region_end hm ht), hm, rfl, rfl, ⟨rfl, rfl⟩, ?_, e1, e2⟩
    exact (hb.wider (hw _ _ h5) (hw _ _ h5)).frame rfl rfl rfl rfl rfl
  | @cons L1 L2 i o l h t ih =>
    intro r fr c k stop done h1 h2 h3 h4 h5 e1 e2 hm hkd ht hsz hb hrun
    have hio : os[i]? = some o := h1 (i, o) (by simp)
    obtain ⟨mo, oi⟩ := hop i o hio
    have hnd : ¬ done i := h4 (i, o) (by simp)
    have hiN : i < N := by have := (List.getElem?_eq_some_iff.1 hio).1; omega
    have hnod : (L1.map (·.1)).Nodup ∧ i ∉ L1.map (·.1) ∧ i ∉ L2.map (·.1) ∧ ((L1 ++ L2).map (·.1)).Nodup := by
      rw [List.map_append, List.map_cons] at h2
      have h3' := List.nodup_append.1 h2
      have h4' := List.nodup_cons.1 h3'.2.1
      refine ⟨h3'.1, fun e => h3'.2.2 i e i (by simp) rfl, h4'.1, ?_⟩
      rw [List.map_append]
      exact List.nodup_append.2 ⟨h3'.1, h4'.2, fun x hx y hy => h3'.2.2 x hx y (by simp [hy])⟩
    have hp := pull (call := call) (cx := cx) (i := i) (o := o) (L1 := L1) (L2 := L2) (r := r) (stop := stop) h hnod.1 (h3 (i, o) (by simp)) (fun x hx => h3 x (by simp [hx])) hrun
    have nB : ¬ Done m0 done (r.st.m + i) := by rw [e1]; exact Done.not hnd
    have nT : ¬ Done t0 done (r.st.nt + i) := by rw [e2]; exact Done.not hnd
    rw [← hsz] at oi
    rcases hp with ⟨r', g1, g2⟩ | ⟨rfl, v, r', g1, rfl⟩
    · obtain ⟨k', fr', c', E⟩ := op_step (cl := cl) (by rw [hkd]; exact HC) GO CO hb nB nT hm ht oi g1
      have hbase := E.base
      rw [e1, e2, Done.more, Done.more] at hbase
      have hlg := stepO_lg g1
      have hin : ∀ x ∈ L1 ++ L2, x ∈ L1 ++ (i, o) :: L2 := fun x hx => by
        rcases List.mem_append.1 hx with h | h
        · simp [h]
        · simp [h]
      have hne : ∀ x ∈ L1 ++ L2, x.1 ≠ i := fun x hx e => by
        rcases List.mem_append.1 hx with h | h
        · exact hnod.2.1 (e ▸ List.mem_map_of_mem h)
        · exact hnod.2.2.1 (e ▸ List.mem_map_of_mem h)
      have := ih (r := r') (fr := fr') (c := c') (k := k') (stop := stop) (fun p => done p ∨ p = i) (fun x hx => h1 x (hin x hx)) hnod.2.2.2
        (fun x hx => by rw [hlg x.1 (hne x hx)]; exact h3 x (hin x hx)) (fun x hx hd => hd.elim (h4 x (hin x hx)) (hne x hx)) (fun p hp => hp.elim (h5 p) (fun e => e ▸ hiN))
        (E.m.trans e1) (E.nt.trans e2) E.mode (E.kind.1.trans hkd) E.todo (E.size.trans hsz) hbase g2
      cases stop with
      | run r'' =>
        obtain ⟨k2, fr2, c2, q1, q2, q3, q4, q5, q6⟩ := this
        exact ⟨k2, fr2, c2, E.steps.trans q1, q2, q3, q4.trans E.size, ⟨q5.1.trans E.kind.1, q5.2.trans E.kind.2⟩, q6⟩
      | pan v r'' =>
        obtain ⟨k2, fr2, c2, v', q1, q2, q3, q4, q5, q6⟩ := this
        exact ⟨k2, fr2, c2, v', E.steps.trans q1, q2, q3, q4, ⟨q5.1.trans E.kind.1, q5.2.trans E.kind.2⟩, q6⟩
    · obtain ⟨k', fr', E⟩ := op_panic (cl := cl) CO hb nB nT hm ht oi g1
      have hbase := E.base
      rw [e1, e2, Done.more, Done.more] at hbase
      obtain ⟨v', q1, q2, q3⟩ := E.mode
      have hd : ∀ p, (done p ∨ p = i) → p < N := fun p hp => hp.elim (h5 p) (fun e => e ▸ hiN)
      exact ⟨k', fr', c, v', E.steps, q1, q2, q3, E.kind, hbase.wider (hw _ _ hd) (hw _ _ hd)⟩

/-- A region. -/
theorem region_ok (GO : GoOk P pol) (CO : CallOk P pol cx.δ call) {fr c : Frame} (HC : Callers cl fr.kind) {k : K} {id : Nat} {draw : Bool} {st : St} {df : List IDefer} {stop : Stop} (htr : trRegion P pol f fr.tmps.size ops draw = some os)
    (hb : Base P pol k0 k cx (Below' st.m) (Below' st.nt) st df fr c0 c) (hm : fr.mode = .run) (ht : fr.todo = .code (.region id ops draw) :: kk) (hrun : runL call cx (number 0 os) ⟨st, df, fun _ => none⟩ = some stop) :
    RegEnd P pol k0 cx c0 cl kk (Below' (st.m + os.length)) (Below' (st.nt + os.length)) k fr c st.m st.nt stop := by
  obtain ⟨hlen, hop, hdr⟩ := region_facts htr
  have hnum : ∀ x ∈ number 0 os, os[x.1]? = some x.2 := by
    intro x hx
    obtain ⟨i, hi⟩ := List.getElem?_of_mem hx
    have := number_get.1 hi
    rw [show x.1 = i by omega]; exact this.1
  have hnd : ((number 0 os).map (·.1)).Nodup := by
    have := (number_sorted os 0).1
    rw [List.Nodup, List.pairwise_map]
    exact this.imp fun h => by omega
  rw [← Done.zero st.m, ← Done.zero st.nt] at hb
  cases draw with
  | false =>
    have hst := st_region (P := P) (cs := cl c) (w := k.w) hm ht
    have hS := schedF_text os 0
    have hr : List.range ops.size = List.range' 0 os.length := by rw [hlen, List.range_eq_range']
    have := region_run (P := P) (pol := pol) (k0 := k0) (cx := cx) (call := call) (ops := ops) (os := os) (f := f) (n := fr.tmps.size) (kk := kk) (c0 := c0) (cl := cl) (m0 := st.m) (t0 := st.nt) HC GO CO hop (Nat.le_refl _) hS (fun _ => False) hnum hnd (fun _ _ => rfl) (fun _ _ h => h.elim) (fun _ h => h.elim) rfl rfl (fr := { fr with todo := .inRegion ops (List.range ops.size) :: kk }) (c := c) (k := k) hm rfl (by rw [hr]) rfl (by exact Base.frame (fr := fr) hb rfl rfl rfl rfl rfl) hrun
    cases stop with
    | run r'' =>
      obtain ⟨k2, fr2, c2, q1, q2⟩ := this
      exact ⟨k2, fr2, c2, .head hst q1, q2⟩
    | pan v r'' =>
      obtain ⟨k2, fr2, c2, v', q1, q2⟩ := this
      exact ⟨k2, fr2, c2, v', .head hst q1, q2⟩
  | true =>
    obtain ⟨hso, hfree⟩ := hdr rfl
    have hst := st_region_draw (P := P) (cs := cl c) (w := k.w) hm ht
    have hS := schedF_of hfree (sched_any (P := P) (os := os) hso hlen (k.w.tape k.w.drawn (.order fr.fn id))) hnum
    have hb' := (Aside.drawn (n := k.w.drawn + 1)).base hb fun b _ => rfl
    have := region_run (P := P) (pol := pol) (k0 := k0) (cx := cx) (call := call) (ops := ops) (os := os) (f := f) (n := fr.tmps.size) (kk := kk) (c0 := c0) (cl := cl) (m0 := st.m) (t0 := st.nt) HC GO CO hop (Nat.le_refl _) hS (fun _ => False) hnum hnd (fun _ _ => rfl) (fun _ _ h => h.elim) (fun _ h => h.elim) rfl rfl
      (fr := { fr with todo := .inRegion ops (Region.schedule (P.follows .mixedOrders) ops (k.w.tape k.w.drawn (.order fr.fn id))) :: kk }) (c := c) (k := { k with w := { k.w with drawn := k.w.drawn + 1 } }) hm rfl rfl rfl (by exact Base.frame (fr := fr) hb' rfl rfl rfl rfl rfl) hrun
    cases stop with
    | run r'' =>
      obtain ⟨k2, fr2, c2, q1, q2⟩ := this
      exact ⟨k2, fr2, c2, .head hst q1, q2⟩
    | pan v r'' =>
      obtain ⟨k2, fr2, c2, v', q1, q2⟩ := this
      exact ⟨k2, fr2, c2, v', .head hst q1, q2⟩
end
end Go.Mia
