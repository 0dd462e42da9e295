import Derived.Orders
import Derived.Test.YteehkgkgpogffaaGreatDoorMiaA
set_option linter.unusedSimpArgs false
set_option linter.unusedVariables false
set_option linter.unusedSectionVars false
namespace Go.Mia

theorem ev_upd {σ : Nat → D} {t : Nat} {d : D} {x : Opnd} (h : t ∉ x.slots) : ev (upd σ t d) x = ev σ x := by
  cases x with
  | tmp s => simp [Opnd.slots] at h; simp [ev, upd]; intro e; exact absurd e.symm h
  | const d => rfl
theorem evs_upd {σ : Nat → D} {t : Nat} {d : D} : ∀ {xs : List Opnd}, t ∉ xs.flatMap Opnd.slots → evs (upd σ t d) xs = evs σ xs
  | [], _ => rfl
  | x :: xs, h => by
    simp only [List.flatMap_cons, List.mem_append, not_or] at h
    simp [evs, ev_upd h.1, evs_upd h.2]
theorem optNat_upd {σ : Nat → D} {t : Nat} {d : D} {n : Nat} {x : Option Opnd} (h : t ∉ optSlots x) : optNat (upd σ t d) n x = optNat σ n x := by
  cases x with
  | none => rfl
  | some x => simp [optNat, ev_upd (show t ∉ x.slots from h)]
theorem optNat'_upd {σ : Nat → D} {t : Nat} {d : D} {x : Option Opnd} (h : t ∉ optSlots x) : optNat' (upd σ t d) x = optNat' σ x := by
  cases x with
  | none => rfl
  | some x => simp [optNat', ev_upd (show t ∉ x.slots from h)]
theorem parts_upd {σ : Nat → D} {t : Nat} {d : D} : ∀ {ps : List (Nat × Nat × Opnd)}, t ∉ ps.flatMap (fun p => p.2.2.slots) → (ps.map fun p => (p.1, p.2.1, ev (upd σ t d) p.2.2)) = ps.map fun p => (p.1, p.2.1, ev σ p.2.2)
  | [], _ => rfl
  | p :: ps, h => by
    simp only [List.flatMap_cons, List.mem_append, not_or] at h
    simp only [List.map_cons, ev_upd h.1, parts_upd h.2]

/-- with one slot more -/
def St.at (st : St) (t : Nat) (d : D) : St := { st with σ := upd st.σ t d }

theorem takeRight_at {t : Nat} {d : D} {st : St} {tk : Tk} : takeRight (st.at t d) tk = (takeRight st tk).map (·.at t d) := by
  cases tk with
  | tok t' => simp only [takeRight, St.at]; by_cases h : st.live t' = true <;> simp [h]
  | lent d' i off stamp =>
    simp only [takeRight, St.at]
    by_cases h1 : stamp = st.now
    · simp only [h1, if_true]
      cases st.S d' i with
      | cells cs =>
        simp only
        cases cs[off]? with
        | none => rfl
        | some c =>
          cases c with
          | slice tk2 s2 xs2 => cases tk2 <;> rfl
          | _ => rfl
      | _ => rfl
    · simp [h1]
  | _ => rfl

theorem append_at {δ j s bytes t : Nat} {vec str : Bool} {a b d : D} {st : St} : appendOp δ j vec str s bytes a b (st.at t d) = (appendOp δ j vec str s bytes a b st).map fun p => (p.1, p.2.at t d) := by
  unfold appendOp
  cases a with
  | slice tk s0 xs =>
    simp only [takeRight_at]
    rw [show (st.at t d).S = st.S from rfl]
    cases srcOf st.S str b with
    | none => rfl
    | some q =>
      obtain ⟨s1, ys⟩ := q
      simp only
      split
      · split
        · split <;> rfl
        · split
          · rfl
          · cases takeRight st tk <;> rfl
      · rfl
  | vsl d' i off len s0 c =>
    simp only [St.at]
    cases srcOf st.S str b with
    | none => rfl
    | some q =>
      obtain ⟨s1, ys⟩ := q
      cases st.S d' i with
      | cells cs => simp only; split <;> rfl
      | _ => rfl
  | _ => rfl

theorem evalOp_at {δ j t : Nat} {d : D} {op : IOp} {st : St} (h : t ∉ op.slots) : evalOp δ j op (st.at t d) = (evalOp δ j op st).map fun p => (p.1, p.2.at t d) := by
  have e : ∀ {x : Opnd}, t ∉ x.slots → ev (st.at t d).σ x = ev st.σ x := fun h => ev_upd h
  cases op with
  | mv x => simp [evalOp, e h]
  | pick a b c => simp only [IOp.slots, List.mem_append, not_or] at h; simp [evalOp, e h.1.1, e h.1.2, e h.2, Function.comp_def]
  | alloc zs => rfl
  | box x =>
    simp only [evalOp, e h]
    split <;> rfl
  | build zs ps => simp only [evalOp]; rw [show (st.at t d).σ = upd st.σ t d from rfl, parts_upd h]; simp [Function.comp_def]
  | buildSl s es => simp only [evalOp]; rw [show (st.at t d).σ = upd st.σ t d from rfl, evs_upd h]; split <;> rfl
  | load g s x => simp only [evalOp, e h]; cases hx : ev st.σ x <;> simp [loadOp, St.at, Function.comp_def]
  | store s a x =>
    simp only [IOp.slots, List.mem_append, not_or] at h
    simp only [evalOp, e h.1, e h.2]
    cases hx : ev st.σ a with
    | ptr d' i off =>
      simp only [storeOp, St.at]
      cases st.S d' i with
      | cells cs => simp only; split <;> rfl
      | _ => rfl
    | _ => rfl
  | nilck x => simp [evalOp, e h, Function.comp_def]
  | bin op x y => simp only [IOp.slots, List.mem_append, not_or] at h; simp [evalOp, e h.1, e h.2, Function.comp_def]
  | eq neg k x y => simp only [IOp.slots, List.mem_append, not_or] at h; simp [evalOp, e h.1, e h.2, Function.comp_def]
  | un op x => simp [evalOp, e h, Function.comp_def]
  | toInt k x => simp only [evalOp, e h]; cases ev st.σ x <;> rfl
  | same x => simp only [evalOp, e h]; cases ev st.σ x <;> rfl
  | strBytes x => simp only [evalOp, e h]; cases ev st.σ x <;> first | rfl | (simp only; split <;> rfl)
  | bytesStr x =>
    simp only [evalOp, e h]
    rw [show (st.at t d).S = st.S from rfl]
    cases srcOf st.S false (ev st.σ x) with
    | none => rfl
    | some q => simp [Function.comp_def]
  | mkI u x => simp only [evalOp, e h]; split <;> rfl
  | mkF f a b =>
    simp only [IOp.slots, List.mem_append, not_or] at h
    simp only [evalOp]
    rw [show (st.at t d).σ = upd st.σ t d from rfl, evs_upd h.1, evs_upd h.2]
    rfl
  | mkSl s bytes zs n => simp only [evalOp, e h]; cases asNat (ev st.σ n) with | none => rfl | some n => simp only; split <;> rfl
  | mkCap s bytes n => simp only [evalOp, e h]; cases asNat (ev st.σ n) with | none => rfl | some n => simp only; split <;> rfl
  | slice s x lo hi mx =>
    simp only [IOp.slots, List.mem_append, not_or] at h
    simp only [evalOp, e h.1.1.1]
    rw [show (st.at t d).σ = upd st.σ t d from rfl, optNat_upd h.1.1.2, optNat'_upd h.1.2, optNat'_upd h.2]
    cases optNat st.σ 0 lo <;> cases optNat' st.σ hi <;> cases optNat' st.σ mx <;> simp [Function.comp_def]
  | fld off x => simp [evalOp, e h, Function.comp_def]
  | fldv g off s x => simp [evalOp, e h, Function.comp_def]
  | idx arr s x i => simp only [IOp.slots, List.mem_append, not_or] at h; simp only [evalOp, e h.1, e h.2]; cases asNat (ev st.σ i) <;> simp [Function.comp_def]
  | idxs x i => simp only [IOp.slots, List.mem_append, not_or] at h; simp only [evalOp, e h.1, e h.2]; cases asNat (ev st.σ i) <;> simp [Function.comp_def]
  | idxa g n s x i => simp only [IOp.slots, List.mem_append, not_or] at h; simp only [evalOp, e h.1, e h.2]; cases asNat (ev st.σ i) with | none => rfl | some m => simp only; split <;> simp [Function.comp_def]
  | ext x i => simp [evalOp, e h, Function.comp_def]
  | tas u z ok x => simp [evalOp, e h, Function.comp_def]
  | len k x => simp [evalOp, e h, Function.comp_def]
  | minmax b xs =>
    simp only [evalOp]
    rw [show (st.at t d).σ = upd st.σ t d from rfl, evs_upd h]
    split <;> simp [Function.comp_def]
  | append vec str s bytes a b => simp only [IOp.slots, List.mem_append, not_or] at h; simp only [evalOp, e h.1, e h.2]; exact append_at
  | clone vec f s bytes x => simp only [evalOp, e h]; exact append_at
  | grow f s bytes zs x n =>
    simp only [IOp.slots, List.mem_append, not_or] at h
    simp only [evalOp, e h.1, e h.2, growOp]
    cases ev st.σ x with
    | slice tk s0 xs => cases tk <;> cases xs <;> cases ev st.σ n <;> first | rfl | (rename_i kd z; cases kd <;> first | rfl | (simp only; split <;> rfl))
    | _ => rfl
  | clear zs x =>
    simp only [evalOp, e h]
    cases ev st.σ x with
    | vsl d' i off len s c =>
      simp only [clearOp, St.at]
      cases st.S d' i with
      | cells cs => simp only; split <;> rfl
      | _ => rfl
    | _ => rfl
  | _ => rfl
end Go.Mia
namespace Go.Mia

/-- what an operation cannot change -/
structure Keeps (st st' : St) : Prop where
  σ : st'.σ = st.σ
  m : st'.m = st.m
  nt : st'.nt = st.nt
  pend : st'.pend = st.pend
  recd : st'.recd = st.recd
theorem Keeps.refl (st : St) : Keeps st st := ⟨rfl, rfl, rfl, rfl, rfl⟩

theorem takeRight_keeps {st st' : St} {tk : Tk} (h : takeRight st tk = some st') : Keeps st st' := by
  cases tk with
  | tok t => simp only [takeRight] at h; split at h <;> simp at h; subst h; exact ⟨rfl, rfl, rfl, rfl, rfl⟩
  | full => simp [takeRight] at h; subst h; exact .refl _
  | lent d i off stamp =>
    simp only [takeRight] at h
    split at h
    · split at h
      · split at h
        · simp at h; subst h; exact ⟨rfl, rfl, rfl, rfl, rfl⟩
        · simp at h
      · simp at h
    · simp at h
  | _ => simp [takeRight] at h

theorem append_keeps {δ j s bytes : Nat} {vec str : Bool} {a b d : D} {st st' : St} (h : appendOp δ j vec str s bytes a b st = some (d, st')) : Keeps st st' := by
  unfold appendOp at h
  split at h
  · split at h
    · split at h
      · split at h
        · split at h
          · simp at h; obtain ⟨_, rfl⟩ := h; exact ⟨rfl, rfl, rfl, rfl, rfl⟩
          · simp at h
        · split at h
          · simp at h; obtain ⟨_, rfl⟩ := h; exact .refl _
          · split at h
            · rename_i st1 h1
              simp at h; obtain ⟨_, rfl⟩ := h
              have hk := takeRight_keeps h1
              exact ⟨hk.σ, hk.m, hk.nt, hk.pend, hk.recd⟩
            · simp at h
      · simp at h
    · simp at h
  · split at h
    · split at h
      · simp at h; obtain ⟨_, rfl⟩ := h; exact ⟨rfl, rfl, rfl, rfl, rfl⟩
      · simp at h
    · simp at h
  · simp at h

theorem evalOp_keeps {δ j : Nat} {op : IOp} {st st' : St} {d : D} (h : evalOp δ j op st = some (d, st')) : Keeps st st' := by
  have quiet : ∀ {α : Type} {x : Option α} {g : α → D}, (x.map fun y => (g y, st)) = some (d, st') → Keeps st st' := by
    intro α x g h
    simp only [Option.map_eq_some_iff, Prod.mk.injEq] at h
    obtain ⟨_, _, _, rfl⟩ := h
    exact .refl _
  cases op with
  | append vec str s bytes a b => exact append_keeps h
  | clone vec f s bytes x => simp only [evalOp] at h; exact append_keeps h
  | mv x => simp [evalOp] at h; obtain ⟨_, rfl⟩ := h; exact .refl _
  | alloc zs => simp [evalOp, allocSt] at h; obtain ⟨_, rfl⟩ := h; exact ⟨rfl, rfl, rfl, rfl, rfl⟩
  | box x => simp only [evalOp, allocSt] at h; split at h <;> simp at h; obtain ⟨_, rfl⟩ := h; exact ⟨rfl, rfl, rfl, rfl, rfl⟩
  | buildSl s es => simp only [evalOp] at h; split at h <;> simp at h; obtain ⟨_, rfl⟩ := h; exact .refl _
  | store s a x =>
    simp only [evalOp, Option.map_eq_some_iff, Prod.mk.injEq] at h
    obtain ⟨s1, h1, _, rfl⟩ := h
    unfold storeOp at h1
    split at h1
    · split at h1
      · split at h1 <;> simp at h1; subst h1; exact ⟨rfl, rfl, rfl, rfl, rfl⟩
      · simp at h1
    · simp at h1
  | toInt k x => simp only [evalOp] at h; split at h <;> simp at h; obtain ⟨_, rfl⟩ := h; exact .refl _
  | same x => simp only [evalOp] at h; split at h <;> simp at h; obtain ⟨_, rfl⟩ := h; exact .refl _
  | strBytes x =>
    simp only [evalOp] at h; split at h
    · split at h <;> simp at h; obtain ⟨_, rfl⟩ := h; exact ⟨rfl, rfl, rfl, rfl, rfl⟩
    · simp at h
  | bytesStr x =>
    simp only [evalOp] at h; split at h
    · exact quiet h
    · simp at h
  | mkI u x => simp only [evalOp] at h; split at h <;> simp at h; obtain ⟨_, rfl⟩ := h; exact .refl _
  | mkF f a b => simp [evalOp] at h; obtain ⟨_, rfl⟩ := h; exact .refl _
  | mkSl s bytes zs n =>
    simp only [evalOp] at h; split at h
    · split at h <;> simp at h; obtain ⟨_, rfl⟩ := h; exact ⟨rfl, rfl, rfl, rfl, rfl⟩
    · simp at h
  | mkCap s bytes n =>
    simp only [evalOp] at h; split at h
    · split at h <;> simp at h; obtain ⟨_, rfl⟩ := h; exact ⟨rfl, rfl, rfl, rfl, rfl⟩
    · simp at h
  | slice s x lo hi mx => simp only [evalOp] at h; split at h; exact quiet (g := id) h; simp at h
  | idx arr s x i => simp only [evalOp] at h; split at h; exact quiet (g := id) h; simp at h
  | idxs x i => simp only [evalOp] at h; split at h; exact quiet (g := id) h; simp at h
  | idxa g n s x i =>
    simp only [evalOp] at h; split at h
    · split at h
      · exact quiet (g := id) h
      · simp at h
    · simp at h
  | minmax b xs => simp only [evalOp] at h; split at h; exact quiet (g := id) h; simp at h
  | grow f s bytes zs x n =>
    simp only [evalOp, growOp] at h; split at h
    · split at h <;> simp at h; obtain ⟨_, rfl⟩ := h; exact ⟨rfl, rfl, rfl, rfl, rfl⟩
    · simp at h
  | clear zs x =>
    simp only [evalOp, clearOp] at h; split at h
    · split at h
      · split at h <;> simp at h; obtain ⟨_, rfl⟩ := h; exact ⟨rfl, rfl, rfl, rfl, rfl⟩
      · simp at h
    · simp at h
  | recov => simp [evalOp] at h
  | call own f args => simp [evalOp] at h
  | defer f args => simp [evalOp] at h
  | panic x => simp [evalOp] at h
  | pick a b c => exact quiet (g := id) h
  | build zs ps => exact quiet (g := fun y => D.agg y) h
  | load g s x => exact quiet (g := id) h
  | nilck x => exact quiet (g := id) h
  | bin op x y => exact quiet (g := id) h
  | eq neg k x y => exact quiet (g := fun b => D.bool (neg != b)) h
  | un op x => exact quiet (g := id) h
  | fld off x => exact quiet (g := id) h
  | fldv g off s x => exact quiet (g := id) h
  | ext x i => exact quiet (g := id) h
  | tas u z ok x => exact quiet (g := id) h
  | len k x => exact quiet (g := fun n : Nat => D.int .i64 (n : Int)) h

/-- a quiet operation's value -/
def qval (op : IOp) (σ : Nat → D) : Option D :=
  (evalOp 0 0 op { σ, S := fun _ _ => .none, m := 0, live := fun _ => false, nt := 0, now := 0, low := 0, pend := none, recd := false }).map (·.1)

theorem quiet_eval {δ j : Nat} {op : IOp} {st : St} (h : quietOp op = true) : evalOp δ j op st = (qval op st.σ).map (·, st) := by
  have key : ∀ {α : Type} {x : Option α} {g : α → D} {z : St}, (x.map fun y => (g y, st)) = (((x.map fun y => (g y, z)).map (·.1)).map fun d => (d, st)) := by
    intro α x g z; cases x <;> rfl
  cases op with
  | mv x => rfl
  | toInt k x => simp only [evalOp, qval]; cases ev st.σ x <;> rfl
  | same x => simp only [evalOp, qval]; cases ev st.σ x <;> rfl
  | mkI u x => simp only [evalOp, qval]; split <;> rfl
  | mkF f a b => rfl
  | slice s x lo hi mx => simp only [evalOp, qval]; cases optNat st.σ 0 lo <;> cases optNat' st.σ hi <;> cases optNat' st.σ mx <;> first | rfl | exact key (g := id)
  | idx arr s x i => simp only [evalOp, qval]; cases asNat (ev st.σ i) <;> first | rfl | exact key (g := id)
  | idxs x i => simp only [evalOp, qval]; cases asNat (ev st.σ i) <;> first | rfl | exact key (g := id)
  | idxa g n s x i => simp only [evalOp, qval]; cases asNat (ev st.σ i) with | none => rfl | some m => simp only; split; exact key (g := id); rfl
  | minmax b xs => simp only [evalOp, qval]; split <;> first | rfl | exact key (g := id)
  | pick a b c => exact key (g := id)
  | build zs ps => exact key (g := fun y => D.agg y)
  | nilck x => exact key (g := id)
  | bin op x y => exact key (g := id)
  | eq neg k x y => exact key (g := fun b => D.bool (neg != b))
  | un op x => exact key (g := id)
  | fld off x => exact key (g := id)
  | fldv g off s x => exact key (g := id)
  | ext x i => exact key (g := id)
  | tas u z ok x => exact key (g := id)
  | len k x => exact key (g := fun n : Nat => D.int .i64 (n : Int))
  | _ => simp [quietOp] at h

theorem qval_upd {op : IOp} {σ : Nat → D} {t : Nat} {d : D} (h : t ∉ op.slots) : qval op (upd σ t d) = qval op σ := by
  unfold qval
  have := evalOp_at (δ := 0) (j := 0) (d := d) (st := { σ, S := fun _ _ => .none, m := 0, live := fun _ => false, nt := 0, now := 0, low := 0, pend := none, recd := false }) h
  unfold St.at at this
  rw [this]
  simp [Function.comp_def]

/-! ### Operations that write nothing -/
/-- with other rights -/
def St.withLive (st : St) (l : Nat → Bool) : St := { st with live := l }

/-- what an operation that writes nothing may have done: a box more, rights -/
structure Small (δ j : Nat) (st st' : St) : Prop where
  keeps : Keeps st st'
  S : ∀ d i, ¬ (d = δ ∧ i = st.m + j) → st'.S d i = st.S d i
  now : st'.now = st.now
  low : st'.low = st.low
  live : ∀ t, t ≠ st.nt + j → st'.live t = true → st.live t = true

theorem Small.refl (δ j : Nat) (st : St) : Small δ j st st := ⟨.refl _, fun _ _ _ => rfl, rfl, rfl, fun _ _ h => h⟩

theorem takeRight_small {δ j : Nat} {st st' : St} {tk : Tk} (h : takeRight st tk = some st') (hn : st'.now = st.now) : Small δ j st st' := by
  cases tk with
  | tok t =>
    simp only [takeRight] at h; split at h <;> simp at h; subst h
    refine ⟨⟨rfl, rfl, rfl, rfl, rfl⟩, fun _ _ _ => rfl, rfl, rfl, fun t' _ hl => ?_⟩
    simp only [upd] at hl; split at hl
    · simp at hl
    · exact hl
  | full => simp [takeRight] at h; subst h; exact .refl ..
  | lent d i off stamp =>
    simp only [takeRight] at h
    split at h
    · split at h
      · split at h
        · simp at h; subst h; simp at hn
        · simp at h
      · simp at h
    · simp at h
  | _ => simp [takeRight] at h

theorem append_small {δ j s bytes : Nat} {vec str : Bool} {a b d : D} {st st' : St} (h : appendOp δ j vec str s bytes a b st = some (d, st')) (hn : st'.now = st.now) : Small δ j st st' := by
  unfold appendOp at h
  split at h
  · split at h
    · split at h
      · split at h
        · split at h
          · simp at h; obtain ⟨_, rfl⟩ := h; exact ⟨⟨rfl, rfl, rfl, rfl, rfl⟩, fun d' i hne => by simp [upd2, hne], rfl, rfl, fun _ _ h => h⟩
          · simp at h
        · split at h
          · simp at h; obtain ⟨_, rfl⟩ := h; exact .refl ..
          · split at h
            · rename_i st1 h1
              simp at h; obtain ⟨_, rfl⟩ := h
              have := takeRight_small (δ := δ) (j := j) h1 hn
              have hk := this.keeps
              refine ⟨⟨hk.σ, hk.m, hk.nt, hk.pend, hk.recd⟩, this.S, this.now, this.low, fun t hne hl => this.live t hne ?_⟩
              have h2 : upd st1.live (st1.nt + j) true t = true := hl
              rw [this.keeps.nt] at h2
              simpa [upd, hne] using h2
            · simp at h
      · simp at h
    · simp at h
  · split at h
    · split at h
      · simp at h; obtain ⟨_, rfl⟩ := h; simp at hn
      · simp at h
    · simp at h
  · simp at h

theorem evalOp_small {δ j : Nat} {op : IOp} {st st' : St} {d : D} (h : evalOp δ j op st = some (d, st')) (hn : st'.now = st.now) : Small δ j st st' := by
  by_cases hq : quietOp op = true
  · rw [quiet_eval hq] at h
    simp only [Option.map_eq_some_iff, Prod.mk.injEq] at h
    obtain ⟨_, _, _, rfl⟩ := h
    exact .refl ..
  cases op with
  | append vec str s bytes a b => exact append_small h hn
  | clone vec f s bytes x => simp only [evalOp] at h; exact append_small h hn
  | alloc zs => simp [evalOp, allocSt] at h; obtain ⟨_, rfl⟩ := h; exact ⟨⟨rfl, rfl, rfl, rfl, rfl⟩, fun d' i hne => by simp [upd2, hne], rfl, rfl, fun _ _ h => h⟩
  | box x =>
    simp only [evalOp, allocSt] at h; split at h <;> simp at h; obtain ⟨_, rfl⟩ := h
    refine ⟨⟨rfl, rfl, rfl, rfl, rfl⟩, fun d' i hne => by simp [upd2, hne], rfl, rfl, fun t _ hl => ?_⟩
    have hl' : (settle st.live (ev st.σ x)).2 t = true := hl
    cases hx : ev st.σ x with
    | slice tk s xs =>
      cases tk with
      | tok t' =>
        rw [hx] at hl'
        simp only [settle] at hl'
        split at hl'
        · simp only [upd] at hl'
          split at hl'
          · simp at hl'
          · exact hl'
        · exact hl'
      | _ => rw [hx] at hl'; exact hl'
    | _ => rw [hx] at hl'; exact hl'
  | buildSl s es => simp only [evalOp] at h; split at h <;> simp at h; obtain ⟨_, rfl⟩ := h; exact .refl ..
  | load g s x =>
    simp only [evalOp, Option.map_eq_some_iff, Prod.mk.injEq] at h
    obtain ⟨_, _, _, rfl⟩ := h
    exact .refl ..
  | store s a x =>
    simp only [evalOp, Option.map_eq_some_iff, Prod.mk.injEq] at h
    obtain ⟨s1, h1, _, rfl⟩ := h
    unfold storeOp at h1
    split at h1
    · split at h1
      · split at h1 <;> simp at h1; subst h1; simp at hn
      · simp at h1
    · simp at h1
  | strBytes x =>
    simp only [evalOp] at h; split at h
    · split at h <;> simp at h; obtain ⟨_, rfl⟩ := h; exact ⟨⟨rfl, rfl, rfl, rfl, rfl⟩, fun d' i hne => by simp [upd2, hne], rfl, rfl, fun _ _ h => h⟩
    · simp at h
  | bytesStr x =>
    simp only [evalOp] at h; split at h
    · simp only [Option.map_eq_some_iff, Prod.mk.injEq] at h
      obtain ⟨_, _, _, rfl⟩ := h
      exact .refl ..
    · simp at h
  | mkSl s bytes zs n =>
    simp only [evalOp] at h; split at h
    · split at h <;> simp at h; obtain ⟨_, rfl⟩ := h; exact ⟨⟨rfl, rfl, rfl, rfl, rfl⟩, fun d' i hne => by simp [upd2, hne], rfl, rfl, fun _ _ h => h⟩
    · simp at h
  | mkCap s bytes n =>
    simp only [evalOp] at h; split at h
    · split at h <;> simp at h; obtain ⟨_, rfl⟩ := h
      exact ⟨⟨rfl, rfl, rfl, rfl, rfl⟩, fun _ _ _ => rfl, rfl, rfl, fun t hne hl => by simpa [newTok, upd, hne] using hl⟩
    · simp at h
  | grow f s bytes zs x n =>
    simp only [evalOp, growOp] at h; split at h
    · split at h <;> simp at h; obtain ⟨_, rfl⟩ := h; exact ⟨⟨rfl, rfl, rfl, rfl, rfl⟩, fun d' i hne => by simp [upd2, hne], rfl, rfl, fun _ _ h => h⟩
    · simp at h
  | clear zs x =>
    simp only [evalOp, clearOp] at h; split at h
    · split at h
      · split at h <;> simp at h; obtain ⟨_, rfl⟩ := h; simp at hn
      · simp at h
    · simp at h
  | recov => simp [evalOp] at h
  | call own f args => simp [evalOp] at h
  | defer f args => simp [evalOp] at h
  | panic x => simp [evalOp] at h
  | _ => exact absurd rfl hq

/-- what takes no right asks nothing of rights -/
theorem evalOp_live {δ j : Nat} {op : IOp} {st st' : St} {d : D} (ht : takesOp op = false) (h : evalOp δ j op st = some (d, st')) (l : Nat → Bool) :
    ∃ l', evalOp δ j op (st.withLive l) = some (d, st'.withLive l') ∧ (∀ t, t ≠ st.nt + j → l' t = l t) ∧ (∀ t, t ≠ st.nt + j → st'.live t = st.live t) ∧ (l (st.nt + j) = st.live (st.nt + j) → l' (st.nt + j) = st'.live (st.nt + j)) := by
  have same : ∀ st1 : St, evalOp δ j op (st.withLive l) = some (d, st1.withLive l) → st' = st1 → st1.live = st.live → ∃ l', evalOp δ j op (st.withLive l) = some (d, st'.withLive l') ∧ (∀ t, t ≠ st.nt + j → l' t = l t) ∧ (∀ t, t ≠ st.nt + j → st'.live t = st.live t) ∧ (l (st.nt + j) = st.live (st.nt + j) → l' (st.nt + j) = st'.live (st.nt + j)) := by
    intro st1 h1 e1 e2
    subst e1
    exact ⟨l, h1, fun _ _ => rfl, fun t _ => by rw [e2], fun h => by rw [e2]; exact h⟩
  by_cases hq : quietOp op = true
  · have h2 := h
    rw [quiet_eval hq] at h2
    simp only [Option.map_eq_some_iff, Prod.mk.injEq] at h2
    obtain ⟨d', hd, rfl, rfl⟩ := h2
    refine same st ?_ rfl rfl
    rw [quiet_eval hq, show (st.withLive l).σ = st.σ from rfl, hd]; rfl
  cases op with
  | alloc zs => simp [evalOp, allocSt] at h; obtain ⟨rfl, rfl⟩ := h; exact same _ rfl rfl rfl
  | buildSl s es =>
    simp only [evalOp] at h; split at h <;> simp at h
    rename_i hc
    obtain ⟨rfl, rfl⟩ := h
    refine same _ ?_ rfl rfl
    simp only [evalOp]
    rw [show (st.withLive l).σ = st.σ from rfl, if_pos hc]
  | load g s x =>
    simp only [evalOp, Option.map_eq_some_iff, Prod.mk.injEq] at h
    obtain ⟨d', hd, rfl, rfl⟩ := h
    refine same _ ?_ rfl rfl
    simp only [evalOp]
    rw [show loadOp g s (ev (st.withLive l).σ x) (st.withLive l) = loadOp g s (ev st.σ x) st from rfl, hd]; rfl
  | strBytes x =>
    simp only [evalOp] at h
    split at h
    · rename_i e
      split at h <;> simp at h
      rename_i hc
      obtain ⟨rfl, rfl⟩ := h
      refine same _ ?_ rfl rfl
      simp only [evalOp]
      rw [show (st.withLive l).σ = st.σ from rfl, e]
      simp only
      rw [if_pos hc]; rfl
    · simp at h
  | bytesStr x =>
    simp only [evalOp] at h
    split at h
    · rename_i e
      simp only [Option.map_eq_some_iff, Prod.mk.injEq] at h
      obtain ⟨d', hd, rfl, rfl⟩ := h
      refine same _ ?_ rfl rfl
      simp only [evalOp]
      rw [show srcOf (st.withLive l).S false (ev (st.withLive l).σ x) = srcOf st.S false (ev st.σ x) from rfl, e]
      simp only
      rw [hd]; rfl
    · simp at h
  | mkSl s bytes zs n =>
    simp only [evalOp] at h
    split at h
    · rename_i e
      split at h <;> simp at h
      rename_i hc
      obtain ⟨rfl, rfl⟩ := h
      refine same _ ?_ rfl rfl
      simp only [evalOp]
      rw [show (st.withLive l).σ = st.σ from rfl, e]
      simp only
      rw [if_pos hc]; rfl
    · simp at h
  | mkCap s bytes n =>
    simp only [evalOp] at h
    split at h
    · rename_i e
      split at h <;> simp at h
      rename_i hc
      obtain ⟨rfl, rfl⟩ := h
      refine ⟨upd l (st.nt + j) true, ?_, fun t hne => by simp [upd, hne], fun t hne => by simp [newTok, upd, hne], fun _ => by simp [newTok, upd]⟩
      simp only [evalOp]
      rw [show (st.withLive l).σ = st.σ from rfl, e]
      simp only
      rw [if_pos hc]; rfl
    · simp at h
  | grow f s bytes zs x n =>
    simp only [evalOp, growOp] at h
    split at h
    · rename_i e1 e2
      split at h <;> simp at h
      rename_i hc
      obtain ⟨rfl, rfl⟩ := h
      refine same _ ?_ rfl rfl
      simp only [evalOp, growOp]
      rw [show (st.withLive l).σ = st.σ from rfl, e1, e2]
      simp only
      rw [if_pos hc]; rfl
    · simp at h
  | clear zs x =>
    simp only [evalOp, clearOp] at h
    split at h
    · rename_i e1
      split at h
      · rename_i e2
        split at h <;> simp at h
        rename_i hc
        obtain ⟨rfl, rfl⟩ := h
        refine same _ ?_ rfl rfl
        simp only [evalOp, clearOp]
        rw [show (st.withLive l).σ = st.σ from rfl, e1]
        simp only
        rw [show (st.withLive l).S = st.S from rfl, e2]
        simp only
        rw [if_pos hc]; rfl
      · simp at h
    · simp at h
  | recov => simp [evalOp] at h
  | call own f args => simp [evalOp] at h
  | defer f args => simp [evalOp] at h
  | panic x => simp [evalOp] at h
  | box x => simp [takesOp] at ht
  | append vec str s bytes a b => simp [takesOp] at ht
  | clone vec f s bytes x => simp [takesOp] at ht
  | store s a x => simp [takesOp] at ht
  | _ => exact absurd rfl hq
end Go.Mia
namespace Go.Mia

theorem upd_comm {α : Type} {σ : Nat → α} {a b : Nat} {x y : α} (h : a ≠ b) : upd (upd σ a x) b y = upd (upd σ b y) a x := by
  funext i; unfold upd
  by_cases h1 : i = b
  · subst h1; simp; intro e; exact absurd e.symm h
  · simp [h1]
theorem upd2_comm {S : Store} {d i i' : Nat} {x y : Obj} (h : i ≠ i') : upd2 (upd2 S d i x) d i' y = upd2 (upd2 S d i' y) d i x := by
  funext a b; unfold upd2
  by_cases h1 : a = d ∧ b = i'
  · obtain ⟨rfl, rfl⟩ := h1; simp; intro e; exact absurd e.symm h
  · simp [h1]

def RSt.at (r : RSt) (t : Nat) (d : D) : RSt := { r with st := r.st.at t d }
def atS (t : Nat) (d : D) : RSt ⊕ (D × RSt) → RSt ⊕ (D × RSt)
  | .inl r => .inl (r.at t d)
  | .inr (v, r) => .inr (v, r.at t d)

theorem putD_at {st : St} {t : Nat} {d v : D} {dst : Option Nat} (h : ∀ x, dst = some x → x ≠ t) : putD (st.at t d) dst v = (putD st dst v).at t d := by
  cases dst with
  | none => rfl
  | some x => simp only [putD, St.at]; rw [upd_comm (h x rfl).symm]
theorem loadOp_at {g : Bool} {s t : Nat} {x d : D} {st : St} : loadOp g s x (st.at t d) = loadOp g s x st := by cases x <;> rfl
theorem storeOp_at {s t : Nat} {a x d : D} {st : St} : storeOp s a x (st.at t d) = (storeOp s a x st).map (·.at t d) := by
  cases a with
  | ptr d' i off =>
    simp only [storeOp, St.at]
    cases st.S d' i with
    | cells cs => simp only; split <;> rfl
    | _ => rfl
  | _ => rfl

theorem IOper.names_slots {o : IOper} {t : Nat} (h : t ∉ o.names) : t ∉ o.op.slots := by
  intro h'; apply h; unfold IOper.names; simp [h']
theorem IOper.names_dst {o : IOper} {t : Nat} (h : t ∉ o.names) : ∀ x, o.dst = some x → x ≠ t := by
  intro x hx e; subst e; apply h; unfold IOper.names; simp [hx]
theorem IOper.names_guard {o : IOper} {t : Nat} (h : t ∉ o.names) : ∀ g b, o.guard = some (g, b) → g ≠ t := by
  intro g b hg e; subst e; apply h; unfold IOper.names; simp [hg]

theorem wanted_at {st : St} {o : IOper} {t : Nat} {d : D} (h : t ∉ o.names) : wanted (st.at t d) o = wanted st o := by
  unfold wanted
  cases hg : o.guard with
  | none => rfl
  | some p => obtain ⟨g, b⟩ := p; have := IOper.names_guard h g b hg; simp [St.at, upd, this]

theorem stepPlain_at {δ j t : Nat} {o : IOper} {d : D} {r : RSt} (h : t ∉ o.names) : stepPlain δ j o (r.at t d) = (stepPlain δ j o r).map (·.at t d) := by
  have hs := IOper.names_slots h
  have hd := IOper.names_dst h
  unfold stepPlain
  split
  · simp only [RSt.at, evalOp_at hs, Option.map_map]
    congr 1
    funext p
    simp only [Function.comp_def, RSt.at, putD_at hd]
  · have e : ∀ {x : Opnd}, t ∉ x.slots → ev (r.at t d).st.σ x = ev r.st.σ x := fun h => ev_upd h
    split
    · rename_i s a x ho
      rw [ho] at hs
      simp only [IOp.slots, List.mem_append, not_or] at hs
      rw [e hs.1, e hs.2]
      show (if o.un && noTok (ev r.st.σ x) && nearOk o.near r.lg (boxOf (ev r.st.σ a)) then _ else none) = _
      split
      · rw [show (r.at t d).st = r.st.at t d from rfl, storeOp_at, Option.map_map, Option.map_map]
        congr 1
        funext s'
        simp only [Function.comp_def, RSt.at, putD_at hd]
      · rfl
    · rename_i g s x ho
      rw [ho] at hs
      rw [e hs]
      show (if nearOk o.near r.lg (boxOf (ev r.st.σ x)) then _ else none) = _
      split
      · rw [show loadOp g s (ev r.st.σ x) (view δ o.past (r.at t d).st) = loadOp g s (ev r.st.σ x) (view δ o.past r.st) from (by
          rw [show view δ o.past (r.at t d).st = (view δ o.past r.st).at t d from rfl, loadOp_at]), Option.map_map]
        congr 1
        funext s'
        simp only [Function.comp_def, RSt.at, putD_at hd]
      · rfl
    · split
      · rfl
      · rw [show view δ o.past (r.at t d).st = (view δ o.past r.st).at t d from rfl, evalOp_at hs]
        cases evalOp δ j o.op (view δ o.past r.st) with
        | none => rfl
        | some p =>
          obtain ⟨d', s'⟩ := p
          simp only [Option.map_some]
          show (if s'.now = r.st.now then _ else none) = Option.map _ (if s'.now = r.st.now then _ else none)
          split
          · simp only [Option.map_some, RSt.at]
            congr 2
            rw [show merge δ j (r.st.at t d) ((view δ o.past r.st).at t d) (s'.at t d) = (merge δ j r.st (view δ o.past r.st) s').at t d from rfl, putD_at hd]
          · rfl

theorem adopt_at {j t : Nat} {st : St} {d v : D} : adopt j (st.at t d) v = ((adopt j st v).1, (adopt j st v).2.at t d) := by
  cases v with
  | slice tk s xs => cases tk <;> rfl
  | _ => rfl

theorem stepCall_at {cx : Cx} {j t : Nat} {o : IOper} {own : Bool} {d : D} {r : RSt} {rt : Ret} (h : t ∉ o.names) : stepCall cx j o own (r.at t d) rt = (stepCall cx j o own r rt).map (atS t d) := by
  have hd := IOper.names_dst h
  have ha : afterCall (r.at t d).st o.iso rt = (afterCall r.st o.iso rt).map (·.at t d) := by
    unfold afterCall
    cases rt.S' with
    | none => rfl
    | some S' => simp only; split <;> rfl
  unfold stepCall
  rw [ha]
  cases afterCall r.st o.iso rt with
  | none => rfl
  | some st' =>
    simp only [Option.map_some]
    cases rt.out with
    | ret v =>
      simp only
      split
      · simp only [Option.map_some, atS, RSt.at, adopt_at, putD_at hd]
      · simp only [Option.map_some, atS, RSt.at, putD_at hd]
    | pan v => simp only; split <;> rfl

theorem stepW_at {call : CallF} {cx : Cx} {j t : Nat} {o : IOper} {d : D} {r : RSt} (h : t ∉ o.names) : stepW call cx j o (r.at t d) = (stepW call cx j o r).map (atS t d) := by
  have hs := IOper.names_slots h
  have hd := IOper.names_dst h
  have e : ∀ {x : Opnd}, t ∉ x.slots → ev (r.at t d).st.σ x = ev r.st.σ x := fun h => ev_upd h
  unfold stepW
  · split
    · rename_i own f args ho
      rw [ho] at hs
      simp only [IOp.slots, List.mem_append, not_or] at hs
      rw [e hs.1, show evs (r.at t d).st.σ args = evs r.st.σ args from evs_upd hs.2]
      rw [show (if o.iso = true then (r.at t d).st.S else (view cx.δ o.past (r.at t d).st).S) = (if o.iso = true then r.st.S else (view cx.δ o.past r.st).S) from rfl]
      cases call none (ev r.st.σ f) ((evs r.st.σ args).map D.degr) (if o.iso = true then r.st.S else (view cx.δ o.past r.st).S) (cx.δ + 1) with
      | none => rfl
      | some rt => exact stepCall_at h
    · rename_i x ho
      rw [ho] at hs
      rw [e hs]
      cases ev r.st.σ x with
      | iface u v => simp only; split <;> rfl
      | _ => rfl
    · split
      · rw [show (r.at t d).st.pend = r.st.pend from rfl]
        cases r.st.pend with
        | none => simp only [Option.map_some, atS, RSt.at, putD_at hd]
        | some v =>
          simp only [Option.map_some, atS, RSt.at]
          rw [show ({ r.st.at t d with pend := none, recd := true } : St) = St.at { r.st with pend := none, recd := true } t d from rfl, putD_at hd]
      · rfl
    · rename_i f args ho
      rw [ho] at hs
      simp only [IOp.slots, List.mem_append, not_or] at hs
      rw [e hs.1, show evs (r.at t d).st.σ args = evs r.st.σ args from evs_upd hs.2]
      split
      · simp only [Option.map_some, atS, RSt.at, putD_at hd]
      · rfl
    · rw [stepPlain_at h]
      cases stepPlain cx.δ j o r <;> rfl

theorem stepO_at {call : CallF} {cx : Cx} {j t : Nat} {o : IOper} {d : D} {r : RSt} (h : t ∉ o.names) : stepO call cx j o (r.at t d) = (stepO call cx j o r).map (atS t d) := by
  have hd := IOper.names_dst h
  unfold stepO
  rw [show wanted (r.at t d).st o = wanted r.st o from wanted_at h]
  cases wanted r.st o with
  | none => rfl
  | some b => cases b with
    | true => exact stepW_at h
    | false => simp only [Option.map_some, atS, RSt.at, putD_at hd]
end Go.Mia
namespace Go.Mia

/-- an operation's value that only looks at slots, or that is not wanted -/
def gval (o : IOper) (st : St) : Option D :=
  match wanted st o with
  | none => none
  | some true => qval o.op st.σ
  | some false => some (.tup [])
def RSt.atO (r : RSt) (dst : Option Nat) (d : D) : RSt := { r with st := putD r.st dst d }
def still (o : IOper) (r : RSt) : Prop := (quietOp o.op = true ∧ o.iso = true) ∨ wanted r.st o = some false

theorem atO_some {r : RSt} {t : Nat} {d : D} : r.atO (some t) d = r.at t d := rfl
theorem atO_none {r : RSt} {d : D} : r.atO none d = r := rfl

theorem stepW_quiet {call : CallF} {cx : Cx} {j : Nat} {o : IOper} {r : RSt} (hq : quietOp o.op = true) (hi : o.iso = true) : stepW call cx j o r = (qval o.op r.st.σ).map fun d => .inl (r.atO o.dst d) := by
  have hp : (stepPlain cx.δ j o r).map Sum.inl = (qval o.op r.st.σ).map fun d => (Sum.inl (r.atO o.dst d) : RSt ⊕ (D × RSt)) := by
    unfold stepPlain
    rw [if_pos hi, quiet_eval hq]
    cases qval o.op r.st.σ <;> rfl
  rw [← hp]
  unfold stepW
  split <;> first | rfl | (rename_i e; rw [e] at hq; simp [quietOp] at hq)

theorem stepO_still {call : CallF} {cx : Cx} {j : Nat} {o : IOper} {r : RSt} (h : still o r) : stepO call cx j o r = (gval o r.st).map fun d => .inl (r.atO o.dst d) := by
  unfold stepO gval
  rcases h with ⟨hq, hi⟩ | h
  · cases wanted r.st o with
    | none => rfl
    | some b => cases b with
      | true => exact stepW_quiet hq hi
      | false => rfl
  · rw [h]; rfl

theorem wanted_σ {st st' : St} {o : IOper} (h : st'.σ = st.σ) : wanted st' o = wanted st o := by unfold wanted; rw [h]
theorem gval_σ {st st' : St} {o : IOper} (h : st'.σ = st.σ) : gval o st' = gval o st := by unfold gval; rw [wanted_σ h, h]

/-- σ changes at the destination alone -/
def σOnly (dst : Option Nat) (σ σ' : Nat → D) : Prop := (σ' = σ) ∨ ∃ t d, dst = some t ∧ σ' = upd σ t d

theorem σOnly.put {st : St} {dst : Option Nat} {d : D} {σ : Nat → D} (h : st.σ = σ) : σOnly dst σ (putD st dst d).σ := by
  cases dst with
  | none => exact .inl h
  | some t => exact .inr ⟨t, d, rfl, by simp [putD, h]⟩

theorem wanted_only {st st' : St} {o : IOper} {dst : Option Nat} (h : σOnly dst st.σ st'.σ) (hd : ∀ t, dst = some t → t ∉ o.names) : wanted st' o = wanted st o := by
  rcases h with h | ⟨t, d, e, h⟩
  · exact wanted_σ h
  · rw [show wanted st' o = wanted (st.at t d) o from wanted_σ h, wanted_at (hd t e)]
theorem qval_only {σ σ' : Nat → D} {o : IOper} {dst : Option Nat} (h : σOnly dst σ σ') (hd : ∀ t, dst = some t → t ∉ o.names) : qval o.op σ' = qval o.op σ := by
  rcases h with h | ⟨t, d, e, h⟩
  · rw [h]
  · rw [h, qval_upd (IOper.names_slots (hd t e))]
theorem gval_only {st st' : St} {o : IOper} {dst : Option Nat} (h : σOnly dst st.σ st'.σ) (hd : ∀ t, dst = some t → t ∉ o.names) : gval o st' = gval o st := by
  unfold gval
  rw [wanted_only h hd, qval_only h hd]

theorem stepPlain_σ {δ j : Nat} {o : IOper} {r r' : RSt} (h : stepPlain δ j o r = some r') : σOnly o.dst r.st.σ r'.st.σ := by
  unfold stepPlain at h
  split at h
  · simp only [Option.map_eq_some_iff] at h
    obtain ⟨⟨d, s'⟩, h1, rfl⟩ := h
    exact .put (evalOp_keeps h1).σ
  · split at h
    · split at h
      · simp only [Option.map_eq_some_iff] at h
        obtain ⟨s', h1, rfl⟩ := h
        refine .put ?_
        unfold storeOp at h1
        split at h1
        · split at h1
          · split at h1 <;> simp at h1; subst h1; rfl
          · simp at h1
        · simp at h1
      · simp at h
    · split at h
      · simp only [Option.map_eq_some_iff] at h
        obtain ⟨d, h1, rfl⟩ := h
        exact .put rfl
      · simp at h
    · split at h
      · simp at h
      · split at h
        · split at h
          · simp at h; subst h; exact .put rfl
          · simp at h
        · simp at h

theorem adopt_σ {j : Nat} {st : St} {d : D} : (adopt j st d).2.σ = st.σ := by
  cases d with
  | slice tk s xs => cases tk <;> rfl
  | _ => rfl

theorem afterCall_σ {st st' : St} {iso : Bool} {rt : Ret} (h : afterCall st iso rt = some st') : st'.σ = st.σ := by
  unfold afterCall at h
  split at h
  · simp at h; subst h; rfl
  · split at h <;> simp at h; subst h; rfl

theorem stepW_σ {call : CallF} {cx : Cx} {j : Nat} {o : IOper} {r r' : RSt} (h : stepW call cx j o r = some (.inl r')) : σOnly o.dst r.st.σ r'.st.σ := by
  unfold stepW at h
  split at h
  · split at h
    · simp at h
    · rename_i rt _
      unfold stepCall at h
      split at h
      · simp at h
      · rename_i st' ha
        split at h
        · split at h
          · simp at h; subst h; exact .put (adopt_σ.trans (afterCall_σ ha))
          · simp at h; subst h; exact .put (afterCall_σ ha)
        · split at h <;> simp at h
  · split at h
    · split at h <;> simp at h
    · simp at h
  · split at h
    · split at h <;> (simp at h; subst h; exact .put rfl)
    · simp at h
  · split at h
    · simp at h; subst h; exact .put rfl
    · simp at h
  · simp only [Option.map_eq_some_iff, Sum.inl.injEq] at h
    obtain ⟨r1, h1, rfl⟩ := h
    exact stepPlain_σ h1
theorem stepO_σ {call : CallF} {cx : Cx} {j : Nat} {o : IOper} {r r' : RSt} (h : stepO call cx j o r = some (.inl r')) : σOnly o.dst r.st.σ r'.st.σ := by
  unfold stepO at h
  split at h
  · simp at h
  · exact stepW_σ h
  · simp at h; subst h; exact .put rfl

/-- two operations that may come in either order -/
structure Free (ja : Nat) (a : IOper) (jb : Nat) (b : IOper) : Prop where
  ne : ja ≠ jb
  dstA : ∀ t, a.dst = some t → t ∉ b.names
  dstB : ∀ t, b.dst = some t → t ∉ a.names
  qA : quietOp a.op = true → a.iso = true
  qB : quietOp b.op = true → b.iso = true
  isoA : a.iso = true → quietOp a.op = true ∨ quietOp b.op = true
  isoB : b.iso = true → quietOp b.op = true ∨ quietOp a.op = true
  pokA : a.pok = false
  pokB : b.pok = false
  tA : a.tiso = true → takesOp b.op = false
  tB : b.tiso = true → takesOp a.op = false
  unA : a.un = true → quietOp b.op = true ∨ isLoad b.op = true
  unB : b.un = true → quietOp a.op = true ∨ isLoad a.op = true
  pastA : a.past.testBit jb = false
  pastB : b.past.testBit ja = false
  selfA : a.past.testBit ja = false
  selfB : b.past.testBit jb = false
  nearA : (isLoad a.op = true ∧ isStore b.op = true) ∨ (isStore a.op = true ∧ isLoad b.op = true) → jb ∈ a.near
  nearB : (isLoad b.op = true ∧ isStore a.op = true) ∨ (isStore b.op = true ∧ isLoad a.op = true) → ja ∈ b.near
  nearA' : isLoad a.op = true → jb ∈ a.near → isStore b.op = true
  nearB' : isLoad b.op = true → ja ∈ b.near → isStore a.op = true

theorem Free.symm {ja jb : Nat} {a b : IOper} (h : Free ja a jb b) : Free jb b ja a :=
  ⟨h.ne.symm, h.dstB, h.dstA, h.qB, h.qA, h.isoB, h.isoA, h.pokB, h.pokA, h.tB, h.tA, h.unB, h.unA, h.pastB, h.pastA, h.selfB, h.selfA, h.nearB, h.nearA, h.nearB', h.nearA'⟩

theorem still_only {o : IOper} {r r' : RSt} {dst : Option Nat} (hs : still o r) (h : σOnly dst r.st.σ r'.st.σ) (hd : ∀ t, dst = some t → t ∉ o.names) : still o r' :=
  hs.imp id fun e => by rw [wanted_only h hd]; exact e
theorem still_only' {o : IOper} {r r' : RSt} {dst : Option Nat} (hs : still o r') (h : σOnly dst r.st.σ r'.st.σ) (hd : ∀ t, dst = some t → t ∉ o.names) : still o r :=
  hs.imp id fun e => by rw [← wanted_only h hd]; exact e

theorem stepO_atO {call : CallF} {cx : Cx} {j : Nat} {o : IOper} {dst : Option Nat} {d : D} {r : RSt} (h : ∀ t, dst = some t → t ∉ o.names) {r' : RSt} : stepO call cx j o (r.atO dst d) = some (.inl r') ↔ ∃ r0, stepO call cx j o r = some (.inl r0) ∧ r' = r0.atO dst d := by
  cases dst with
  | none => simp [atO_none]
  | some t =>
    rw [atO_some, stepO_at (h t rfl)]
    simp only [atO_some]
    constructor
    · intro e
      simp only [Option.map_eq_some_iff] at e
      obtain ⟨x, h1, h2⟩ := e
      cases x with
      | inl r0 => simp only [atS, Sum.inl.injEq] at h2; exact ⟨r0, h1, h2.symm⟩
      | inr p => simp [atS] at h2
    · rintro ⟨r0, h1, rfl⟩
      rw [h1]; rfl

theorem swap_still {call : CallF} {cx : Cx} {ja jb : Nat} {a b : IOper} (hf : Free ja a jb b) {r r1 r2 : RSt} (h1 : stepO call cx ja a r = some (.inl r1)) (h2 : stepO call cx jb b r1 = some (.inl r2)) (hs : still a r ∨ still b r1) :
    ∃ r1', stepO call cx jb b r = some (.inl r1') ∧ stepO call cx ja a r1' = some (.inl r2) := by
  rcases hs with hs | hs
  · rw [stepO_still hs] at h1
    simp only [Option.map_eq_some_iff, Sum.inl.injEq] at h1
    obtain ⟨d, hd, rfl⟩ := h1
    obtain ⟨r0, h3, rfl⟩ := (stepO_atO hf.dstA).1 h2
    have ho := stepO_σ h3
    refine ⟨r0, h3, ?_⟩
    rw [stepO_still (still_only hs ho hf.dstB), gval_only ho hf.dstB, hd]; rfl
  · rw [stepO_still hs] at h2
    simp only [Option.map_eq_some_iff, Sum.inl.injEq] at h2
    obtain ⟨d, hd, rfl⟩ := h2
    have ho := stepO_σ h1
    refine ⟨r.atO b.dst d, ?_, ?_⟩
    · rw [stepO_still (still_only' hs ho hf.dstA), ← gval_only ho hf.dstA, hd]; rfl
    · exact (stepO_atO hf.dstB).2 ⟨r1, h1, rfl⟩
end Go.Mia
namespace Go.Mia

structure Eff where
  d : D
  ob : Option Obj
  nw : Option Bool
  kill : Nat → Bool

def IOp.plainN : IOp → Bool
  | .call .. | .store .. | .load .. | .panic _ | .recov | .defer .. => false
  | _ => true

/-- what an operation that comes in any order does, by its view -/
def effN (call : CallF) (cx : Cx) (j : Nat) (o : IOper) (sv : St) : Option Eff :=
  match o.op with
  | .call own f args => match call none (ev sv.σ f) ((evs sv.σ args).map D.degr) sv.S (cx.δ + 1) with
    | none => none
    | some rt => match rt.S', rt.out with
      | none, .ret d => if own then some ⟨(adopt j sv d).1, none, (match d with | .slice .own _ _ => some true | _ => none), fun _ => false⟩ else some ⟨d.degr, none, none, fun _ => false⟩
      | _, _ => none
  | .load g s x => (loadOp g s (ev sv.σ x) sv).map fun d => ⟨if o.near.isEmpty then d else d.degr, none, none, fun _ => false⟩
  | .store .. | .panic _ | .recov | .defer .. => none
  | op => if takesOp op && !o.tiso then none else
    match evalOp cx.δ j op sv with
    | some (d, s') => if s'.now = sv.now then some ⟨d, some (s'.S cx.δ (sv.m + j)), some (s'.live (sv.nt + j)), fun t => decide (t ≠ sv.nt + j) && (sv.live t && !s'.live t)⟩ else none
    | none => none

def applyN (δ j : Nat) (st : St) (e : Eff) : St :=
  { st with S := (match e.ob with | some x => upd2 st.S δ (st.m + j) x | none => st.S), live := fun t => if t = st.nt + j then e.nw.getD (st.live t) else st.live t && !e.kill t }

/-- the boxes that a load tells of -/
def logN (j : Nat) (o : IOper) (r : RSt) : Nat → Option (Nat × Nat) :=
  match o.op with
  | .load _ _ x => upd r.lg j (boxOf (ev r.st.σ x))
  | _ => r.lg
def logOk (o : IOper) (r : RSt) : Bool :=
  match o.op with
  | .load _ _ x => nearOk o.near r.lg (boxOf (ev r.st.σ x))
  | _ => true

theorem live_same {st : St} {j : Nat} : (fun t => if t = st.nt + j then (none : Option Bool).getD (st.live t) else st.live t && !(fun _ => false) t) = st.live := by
  funext t; simp

theorem stepN {call : CallF} {cx : Cx} {j : Nat} {o : IOper} {r r' : RSt} (hw : wanted r.st o = some true) (hi : o.iso = false) (hp : o.pok = false) (hs : isStore o.op = false) :
    stepO call cx j o r = some (.inl r') ↔ logOk o r = true ∧ ∃ e, effN call cx j o (view cx.δ o.past r.st) = some e ∧ r' = { st := putD (applyN cx.δ j r.st e) o.dst e.d, df := r.df, lg := logN j o r } := by
  unfold stepO
  rw [hw]
  simp only
  unfold stepW
  have plain : o.op.plainN = true → ((stepPlain cx.δ j o r).map Sum.inl = some (Sum.inl r' : RSt ⊕ (D × RSt)) ↔ logOk o r = true ∧ ∃ e, effN call cx j o (view cx.δ o.past r.st) = some e ∧ r' = { st := putD (applyN cx.δ j r.st e) o.dst e.d, df := r.df, lg := logN j o r }) := by
    intro hpl
    have h1 : logOk o r = true := by unfold logOk; split <;> first | rfl | (rename_i e; rw [e] at hpl; simp [IOp.plainN] at hpl)
    have h2 : logN j o r = r.lg := by unfold logN; split <;> first | rfl | (rename_i e; rw [e] at hpl; simp [IOp.plainN] at hpl)
    have h3 : effN call cx j o (view cx.δ o.past r.st) = if takesOp o.op && !o.tiso then none else
        match evalOp cx.δ j o.op (view cx.δ o.past r.st) with
        | some (d, s') => if s'.now = (view cx.δ o.past r.st).now then some ⟨d, some (s'.S cx.δ ((view cx.δ o.past r.st).m + j)), some (s'.live ((view cx.δ o.past r.st).nt + j)), fun t => decide (t ≠ (view cx.δ o.past r.st).nt + j) && ((view cx.δ o.past r.st).live t && !s'.live t)⟩ else none
        | none => none := by
      unfold effN; split <;> first | rfl | (rename_i e; rw [e] at hpl; simp [IOp.plainN] at hpl)
    have h4 : stepPlain cx.δ j o r = if takesOp o.op && !o.tiso then none else
        match evalOp cx.δ j o.op (view cx.δ o.past r.st) with
        | some (d, s') => if s'.now = r.st.now then some { r with st := putD (merge cx.δ j r.st (view cx.δ o.past r.st) s') o.dst d } else none
        | none => none := by
      unfold stepPlain; rw [hi]; simp only [Bool.false_eq_true, if_false]
      split <;> first | rfl | (rename_i e; rw [e] at hpl; simp [IOp.plainN] at hpl)
    rw [h1, h2, h3, h4]
    split
    · simp
    · cases hE : evalOp cx.δ j o.op (view cx.δ o.past r.st) with
      | none => simp
      | some p =>
        obtain ⟨d, s'⟩ := p
        simp only
        rw [show (view cx.δ o.past r.st).now = r.st.now from rfl]
        split
        · simp only [Option.map_some, Option.some.injEq, Sum.inl.injEq, true_and, exists_eq_left']
          have : merge cx.δ j r.st (view cx.δ o.past r.st) s' = applyN cx.δ j r.st ⟨d, some (s'.S cx.δ ((view cx.δ o.past r.st).m + j)), some (s'.live ((view cx.δ o.past r.st).nt + j)), fun t => decide (t ≠ (view cx.δ o.past r.st).nt + j) && ((view cx.δ o.past r.st).live t && !s'.live t)⟩ := by
            unfold merge applyN
            congr 1
            funext t
            rw [show (view cx.δ o.past r.st).nt = r.st.nt from rfl]
            by_cases ht : t = r.st.nt + j
            · simp [ht]
            · simp [ht]
          rw [this]
          exact ⟨fun h => h.symm, fun h => h.symm⟩
        · simp
  split
  · -- a call
    rename_i own f args ho
    have h1 : logOk o r = true := by unfold logOk; rw [ho]
    have h2 : logN j o r = r.lg := by unfold logN; rw [ho]
    rw [h1, h2]
    rw [show (if o.iso = true then r.st.S else (view cx.δ o.past r.st).S) = (view cx.δ o.past r.st).S by rw [hi]; rfl]
    have h3 : effN call cx j o (view cx.δ o.past r.st) = match call none (ev r.st.σ f) ((evs r.st.σ args).map D.degr) (view cx.δ o.past r.st).S (cx.δ + 1) with
        | none => none
        | some rt => match rt.S', rt.out with
          | none, .ret d => if own then some ⟨(adopt j (view cx.δ o.past r.st) d).1, none, (match d with | .slice .own _ _ => some true | _ => none), fun _ => false⟩ else some ⟨d.degr, none, none, fun _ => false⟩
          | _, _ => none := by
      unfold effN; rw [ho]; rfl
    rw [h3]
    cases call none (ev r.st.σ f) ((evs r.st.σ args).map D.degr) (view cx.δ o.past r.st).S (cx.δ + 1) with
    | none => simp
    | some rt =>
      simp only
      unfold stepCall afterCall
      cases hS : rt.S' with
      | some S' => simp [hi]
      | none =>
        simp only
        cases hO : rt.out with
        | pan v => simp [hp]
        | ret d =>
          simp only
          cases own with
          | false =>
            simp only [Bool.false_eq_true, if_false, Option.some.injEq, Sum.inl.injEq, true_and, exists_eq_left']
            have : applyN cx.δ j r.st ⟨d.degr, none, none, fun _ => false⟩ = r.st := by unfold applyN; simp only [live_same]
            rw [this]
            exact ⟨fun h => h.symm, fun h => h.symm⟩
          | true =>
            simp only [if_true, Option.some.injEq, Sum.inl.injEq, true_and, exists_eq_left']
            have : ∀ (d : D), applyN cx.δ j r.st ⟨(adopt j (view cx.δ o.past r.st) d).1, none, (match d with | .slice .own _ _ => some true | _ => none), fun _ => false⟩ = (adopt j r.st d).2 ∧ (adopt j (view cx.δ o.past r.st) d).1 = (adopt j r.st d).1 := by
              intro d
              have same : applyN cx.δ j r.st ⟨d, none, none, fun _ => false⟩ = r.st := by unfold applyN; simp only [live_same]
              cases d with
              | slice tk s xs =>
                cases tk with
                | own =>
                  refine ⟨?_, rfl⟩
                  unfold applyN adopt newTok
                  simp only
                  congr 1
                  funext t
                  by_cases ht : t = r.st.nt + j
                  · simp [ht, upd]
                  · simp [ht, upd]
                | _ => exact ⟨same, rfl⟩
              | _ => exact ⟨same, rfl⟩
            rw [(this d).1, (this d).2]
            exact ⟨fun h => h.symm, fun h => h.symm⟩
  · -- a panic
    rename_i x ho
    have h3 : effN call cx j o (view cx.δ o.past r.st) = none := by unfold effN; rw [ho]
    rw [h3]
    cases ev r.st.σ x <;> simp [hp]
  · rename_i ho
    have h3 : effN call cx j o (view cx.δ o.past r.st) = none := by unfold effN; rw [ho]
    rw [h3]
    simp [hi]
  · rename_i f args ho
    have h3 : effN call cx j o (view cx.δ o.past r.st) = none := by unfold effN; rw [ho]
    rw [h3]
    simp [hi]
  · rename_i n1 n2 n3 n4
    by_cases hl : isLoad o.op = true
    · cases hop : o.op with
      | load g s x =>
        have h3 : effN call cx j o (view cx.δ o.past r.st) = (loadOp g s (ev r.st.σ x) (view cx.δ o.past r.st)).map fun d => ⟨if o.near.isEmpty then d else d.degr, none, none, fun _ => false⟩ := by unfold effN; rw [hop]; rfl
        have h1 : logOk o r = nearOk o.near r.lg (boxOf (ev r.st.σ x)) := by unfold logOk; rw [hop]
        have h2 : logN j o r = upd r.lg j (boxOf (ev r.st.σ x)) := by unfold logN; rw [hop]
        have h4 : stepPlain cx.δ j o r = if nearOk o.near r.lg (boxOf (ev r.st.σ x)) then (loadOp g s (ev r.st.σ x) (view cx.δ o.past r.st)).map fun d => { r with st := putD r.st o.dst (if o.near.isEmpty then d else d.degr), lg := upd r.lg j (boxOf (ev r.st.σ x)) } else none := by
          unfold stepPlain; rw [hi, hop]; rfl
        rw [h1, h2, h3, h4]
        by_cases hn : nearOk o.near r.lg (boxOf (ev r.st.σ x)) = true
        · rw [if_pos hn]
          cases loadOp g s (ev r.st.σ x) (view cx.δ o.past r.st) with
          | none => simp
          | some d =>
            simp only [Option.map_some, Option.some.injEq, Sum.inl.injEq, hn, true_and, exists_eq_left']
            have : applyN cx.δ j r.st ⟨if o.near.isEmpty then d else d.degr, none, none, fun _ => false⟩ = r.st := by unfold applyN; simp only [live_same]
            rw [this]
            exact ⟨fun h => h.symm, fun h => h.symm⟩
        · rw [if_neg hn]; simp [hn]
      | _ => rw [hop] at hl; simp [isLoad] at hl
    · refine plain ?_
      cases hop : o.op with
      | call own f args => exact absurd hop (n1 own f args)
      | panic x => exact absurd hop (n2 x)
      | recov => exact absurd hop n3
      | defer f args => exact absurd hop (n4 f args)
      | load g s x => rw [hop] at hl; simp [isLoad] at hl
      | store s a x => rw [hop] at hs; simp [isStore] at hs
      | _ => rfl
end Go.Mia
namespace Go.Mia

def putDst (sv : St) (dst : Option Nat) (d : D) : St := putD sv dst d

theorem effN_at {call : CallF} {cx : Cx} {j t : Nat} {o : IOper} {d : D} {sv : St} (h : t ∉ o.names) : effN call cx j o (sv.at t d) = effN call cx j o sv := by
  have hs := IOper.names_slots h
  have hE := evalOp_at (δ := cx.δ) (j := j) (d := d) (st := sv) hs
  unfold effN
  split
  · rename_i own f args ho
    rw [ho] at hs
    simp only [IOp.slots, List.mem_append, not_or] at hs
    rw [show ev (sv.at t d).σ f = ev sv.σ f from ev_upd hs.1, show evs (sv.at t d).σ args = evs sv.σ args from evs_upd hs.2]
    have hS : (sv.at t d).S = sv.S := rfl
    rw [hS]
    cases call none (ev sv.σ f) ((evs sv.σ args).map D.degr) sv.S (cx.δ + 1) with
    | none => rfl
    | some rt =>
      simp only
      split
      · rename_i d' _ _
        rw [adopt_at]
      · rfl
  · rename_i g s x ho
    rw [ho] at hs
    rw [show ev (sv.at t d).σ x = ev sv.σ x from ev_upd hs, loadOp_at]
  · rfl
  · rfl
  · rfl
  · rfl
  · split
    · rfl
    · rw [hE]
      cases evalOp cx.δ j o.op sv with
      | none => rfl
      | some p => rfl

theorem effN_atO {call : CallF} {cx : Cx} {j : Nat} {o : IOper} {d : D} {sv : St} {dst : Option Nat} (h : ∀ t, dst = some t → t ∉ o.names) : effN call cx j o (putD sv dst d) = effN call cx j o sv := by
  cases dst with
  | none => rfl
  | some t => exact effN_at (h t rfl)

theorem loadOp_live {g : Bool} {s : Nat} {x : D} {st : St} {l : Nat → Bool} : loadOp g s x (st.withLive l) = loadOp g s x st := by cases x <;> rfl

theorem effN_live {call : CallF} {cx : Cx} {j : Nat} {o : IOper} {sv : St} {l : Nat → Bool} (ht : takesOp o.op = false) (hl : l (sv.nt + j) = sv.live (sv.nt + j)) {e : Eff} (he : effN call cx j o sv = some e) :
    effN call cx j o (sv.withLive l) = some e ∧ e.kill = fun _ => false := by
  have key : ∀ {d : D} {s' : St}, evalOp cx.δ j o.op sv = some (d, s') → s'.now = sv.now →
      (match evalOp cx.δ j o.op (sv.withLive l) with
        | some (d, s') => if s'.now = (sv.withLive l).now then some (⟨d, some (s'.S cx.δ ((sv.withLive l).m + j)), some (s'.live ((sv.withLive l).nt + j)), fun t => decide (t ≠ (sv.withLive l).nt + j) && ((sv.withLive l).live t && !s'.live t)⟩ : Eff) else none
        | none => none) = some ⟨d, some (s'.S cx.δ (sv.m + j)), some (s'.live (sv.nt + j)), fun t => decide (t ≠ sv.nt + j) && (sv.live t && !s'.live t)⟩ ∧
      (fun t => decide (t ≠ sv.nt + j) && (sv.live t && !s'.live t)) = fun _ => false := by
    intro d s' hE hn
    obtain ⟨l', h1, h2, h3, h4⟩ := evalOp_live ht hE l
    rw [h1]
    simp only
    have hk : (fun t => decide (t ≠ sv.nt + j) && (sv.live t && !s'.live t)) = fun _ => false := by
      funext t
      by_cases q : t = sv.nt + j
      · simp [q]
      · simp [q, h3 t q]
    refine ⟨?_, hk⟩
    rw [show (s'.withLive l').now = s'.now from rfl, show (sv.withLive l).now = sv.now from rfl, if_pos hn, hk]
    simp only [Option.some.injEq, Eff.mk.injEq, true_and]
    refine ⟨rfl, ?_, ?_⟩
    · show l' (sv.nt + j) = _; exact h4 hl
    · funext t
      show (decide (t ≠ sv.nt + j) && (l t && !l' t)) = false
      by_cases q : t = sv.nt + j
      · simp [q]
      · simp [q, h2 t q]
  unfold effN at he ⊢
  split at he
  · rename_i own f args ho
    rw [show (sv.withLive l).σ = sv.σ from rfl, show (sv.withLive l).S = sv.S from rfl]
    split at he
    · simp at he
    · rename_i rt hc
      split at he
      · rename_i d h1 h2
        have ha : (adopt j (sv.withLive l) d).1 = (adopt j sv d).1 := by
          cases d with
          | slice tk s xs => cases tk <;> rfl
          | _ => rfl
        rw [ha]
        split at he <;> (simp only [Option.some.injEq] at he; subst he; rename_i q; simp [q])
      · simp at he
  · rename_i g s x ho
    rw [show (sv.withLive l).σ = sv.σ from rfl, loadOp_live]
    simp only [Option.map_eq_some_iff] at he ⊢
    obtain ⟨d, h1, rfl⟩ := he
    exact ⟨⟨d, h1, rfl⟩, rfl⟩
  · simp at he
  · simp at he
  · simp at he
  · simp at he
  · rename_i n1 n2 n3 n4 n5 n6
    split at he
    · simp at he
    · rename_i hT
      split at he
      · rename_i d s' hE
        split at he
        · rename_i hn
          simp only [Option.some.injEq] at he
          obtain ⟨k1, k2⟩ := key hE hn
          subst he
          refine ⟨?_, k2⟩
          rw [if_neg hT]
          exact k1
        · simp at he
      · simp at he

theorem effN_kill {call : CallF} {cx : Cx} {j : Nat} {o : IOper} {sv : St} {e : Eff} (he : effN call cx j o sv = some e) (t : Nat) (hk : e.kill t = true) : sv.live t = true := by
  unfold effN at he
  split at he
  · split at he
    · simp at he
    · split at he
      · split at he <;> (simp only [Option.some.injEq] at he; subst he; simp at hk)
      · simp at he
  · simp only [Option.map_eq_some_iff] at he
    obtain ⟨d, h1, rfl⟩ := he
    simp at hk
  · simp at he
  · simp at he
  · simp at he
  · simp at he
  · split at he
    · simp at he
    · split at he
      · split at he
        · simp only [Option.some.injEq] at he; subst he
          simp only [Bool.and_eq_true] at hk
          exact hk.2.1
        · simp at he
      · simp at he

theorem effN_tiso {call : CallF} {cx : Cx} {j : Nat} {o : IOper} {sv : St} {e : Eff} (he : effN call cx j o sv = some e) (ht : takesOp o.op = true) : o.tiso = true := by
  unfold effN at he
  split at he
  · rename_i ho; rw [ho] at ht; simp [takesOp] at ht
  · rename_i ho; rw [ho] at ht; simp [takesOp] at ht
  · simp at he
  · simp at he
  · simp at he
  · simp at he
  · split at he
    · simp at he
    · rename_i hc
      simpa [ht] using hc

theorem view_putD {δ p : Nat} {st : St} {dst : Option Nat} {d : D} : view δ p (putD st dst d) = putD (view δ p st) dst d := by cases dst <;> rfl
theorem putD_live {st : St} {dst : Option Nat} {d : D} {l : Nat → Bool} : putD (st.withLive l) dst d = (putD st dst d).withLive l := by cases dst <;> rfl

theorem view_apply {δ j p : Nat} {st : St} {e : Eff} (hp : p.testBit j = false) : view δ p (applyN δ j st e) = (view δ p st).withLive fun t => (view δ p st).live t && !e.kill t := by
  unfold view applyN St.withLive
  congr 1
  · funext d i
    simp only
    by_cases h : d = δ ∧ i = st.m + j
    · obtain ⟨rfl, rfl⟩ := h
      simp [hp]
    · cases e.ob with
      | none => rfl
      | some x => simp only [upd2, h, if_false]
  · funext t
    simp only
    by_cases h : t = st.nt + j
    · subst h
      have : ¬ st.nt + j < st.nt := by omega
      simp [hp, this]
    · simp only [h, if_false]
      cases st.live t <;> cases e.kill t <;> simp

theorem view_own {δ j p : Nat} {st : St} (hp : p.testBit j = false) : (view δ p st).live (st.nt + j) = false := by
  simp [view, hp]

/-- the effects of two operations go together in either order -/
theorem apply_comm {δ ja jb : Nat} {st : St} {ea eb : Eff} (hne : ja ≠ jb) (ha : ea.kill (st.nt + jb) = false) (hb : eb.kill (st.nt + ja) = false) :
    applyN δ jb (applyN δ ja st ea) eb = applyN δ ja (applyN δ jb st eb) ea := by
  unfold applyN
  simp only
  congr 1
  · cases ea.ob <;> cases eb.ob <;> first | rfl | (simp only; exact upd2_comm (by omega))
  · funext t
    by_cases h1 : t = st.nt + ja
    · subst h1
      have : ¬ (st.nt + ja = st.nt + jb) := by omega
      simp [this, hb, hne]
    · by_cases h2 : t = st.nt + jb
      · subst h2; simp [h1, ha, hne, hne.symm]
      · simp only [h1, h2, if_false]
        cases st.live t <;> cases ea.kill t <;> cases eb.kill t <;> rfl

theorem apply_putD {δ j : Nat} {st : St} {e : Eff} {dst : Option Nat} {d : D} : applyN δ j (putD st dst d) e = putD (applyN δ j st e) dst d := by cases dst <;> rfl
theorem putD_comm {st : St} {da db : Option Nat} {x y : D} (h : ∀ t, da = some t → db ≠ some t) : putD (putD st da x) db y = putD (putD st db y) da x := by
  cases da with
  | none => rfl
  | some a =>
    cases db with
    | none => rfl
    | some b =>
      have : a ≠ b := fun e => h a rfl (by rw [e])
      simp only [putD]; rw [upd_comm this]

theorem Free.dsts {ja jb : Nat} {a b : IOper} (hf : Free ja a jb b) : ∀ t, a.dst = some t → b.dst ≠ some t := by
  intro t ha hb
  exact hf.dstA t ha (by unfold IOper.names; simp [hb])

theorem ev_only {σ σ' : Nat → D} {x : Opnd} {dst : Option Nat} (h : σOnly dst σ σ') (hd : ∀ t, dst = some t → t ∉ x.slots) : ev σ' x = ev σ x := by
  rcases h with h | ⟨t, d, e, h⟩
  · rw [h]
  · rw [h, ev_upd (hd t e)]

theorem nearOk_upd {lg : Nat → Option (Nat × Nat)} {j : Nat} {x b : Option (Nat × Nat)} : ∀ {near : List Nat}, j ∉ near → nearOk near (upd lg j x) b = nearOk near lg b
  | [], _ => rfl
  | p :: near, h => by
    simp only [List.mem_cons, not_or] at h
    have ih := nearOk_upd (lg := lg) (x := x) (b := b) h.2
    unfold nearOk at ih ⊢
    simp only [List.all_cons, ih]
    congr 1
    rw [show upd lg j x p = lg p by unfold upd; rw [if_neg (fun e => h.1 e.symm)]]
end Go.Mia
namespace Go.Mia

theorem logOk_only {o a : IOper} {ja jb : Nat} {r : RSt} {st' : St} (hf : Free ja a jb o) (hσ : σOnly a.dst r.st.σ st'.σ) (hns : isStore a.op = false) : logOk o { st := st', df := r.df, lg := logN ja a r } = logOk o r := by
  unfold logOk
  split
  · rename_i g s x ho
    have hx : ev st'.σ x = ev r.st.σ x := ev_only hσ fun t ht => by
      have := IOper.names_slots (hf.dstA t ht); rw [ho] at this; exact this
    rw [show ({ st := st', df := r.df, lg := logN ja a r } : RSt).st.σ = st'.σ from rfl, hx]
    show nearOk o.near (logN ja a r) _ = _
    unfold logN
    split
    · rename_i g' s' x' ho'
      refine nearOk_upd fun hm => ?_
      have := hf.nearB' (by rw [ho]; rfl) hm
      rw [ho'] at this; simp [isStore] at this
    · rfl
  · rfl

theorem log_comm {a b : IOper} {ja jb : Nat} {r : RSt} {sa sb : St} (hf : Free ja a jb b) (ha : σOnly a.dst r.st.σ sa.σ) (hb : σOnly b.dst r.st.σ sb.σ) :
    logN jb b { st := sa, df := r.df, lg := logN ja a r } = logN ja a { st := sb, df := r.df, lg := logN jb b r } := by
  unfold logN
  cases hoa : a.op with
  | load g s x =>
    have hx : ev sb.σ x = ev r.st.σ x := ev_only hb fun t ht => by
      have := IOper.names_slots (hf.dstB t ht); rw [hoa] at this; exact this
    cases hob : b.op with
    | load g' s' x' =>
      have hx' : ev sa.σ x' = ev r.st.σ x' := ev_only ha fun t ht => by
        have := IOper.names_slots (hf.dstA t ht); rw [hob] at this; exact this
      simp only [hx, hx']
      rw [upd_comm hf.ne]
    | _ => simp only [hx]
  | _ =>
    cases hob : b.op with
    | load g' s' x' =>
      have hx' : ev sa.σ x' = ev r.st.σ x' := ev_only ha fun t ht => by
        have := IOper.names_slots (hf.dstA t ht); rw [hob] at this; exact this
      simp only [hx']
    | _ => rfl

theorem applyN_σ {δ j : Nat} {st : St} {e : Eff} : (applyN δ j st e).σ = st.σ := rfl

theorem withLive_self {st : St} {l : Nat → Bool} (h : l = st.live) : st.withLive l = st := by subst h; rfl

theorem swap_NN {call : CallF} {cx : Cx} {ja jb : Nat} {a b : IOper} (hf : Free ja a jb b) {r r1 r2 : RSt} (hwa : wanted r.st a = some true) (hwb : wanted r.st b = some true) (hia : a.iso = false) (hib : b.iso = false) (hsa : isStore a.op = false) (hsb : isStore b.op = false)
    (h1 : stepO call cx ja a r = some (.inl r1)) (h2 : stepO call cx jb b r1 = some (.inl r2)) :
    ∃ r1', stepO call cx jb b r = some (.inl r1') ∧ stepO call cx ja a r1' = some (.inl r2) := by
  obtain ⟨la, ea, he1, rfl⟩ := (stepN hwa hia hf.pokA hsa).1 h1
  have hσa : σOnly a.dst r.st.σ (putD (applyN cx.δ ja r.st ea) a.dst ea.d).σ := .put applyN_σ
  have hwb1 : wanted (putD (applyN cx.δ ja r.st ea) a.dst ea.d) b = some true := by rw [wanted_only hσa hf.dstA]; exact hwb
  obtain ⟨lb, eb, he2, rfl⟩ := (stepN hwb1 hib hf.pokB hsb).1 h2
  rw [logOk_only hf hσa hsa] at lb
  -- what b sees
  have hv : effN call cx jb b (view cx.δ b.past (putD (applyN cx.δ ja r.st ea) a.dst ea.d)) = effN call cx jb b ((view cx.δ b.past r.st).withLive fun t => (view cx.δ b.past r.st).live t && !ea.kill t) := by
    rw [view_putD, effN_atO hf.dstA, view_apply hf.pastB]
  have he2' : effN call cx jb b ((view cx.δ b.past r.st).withLive fun t => (view cx.δ b.past r.st).live t && !ea.kill t) = some eb := by rw [← hv]; exact he2
  have hka : ea.kill (r.st.nt + jb) = false := by
    cases hk : ea.kill (r.st.nt + jb) with
    | false => rfl
    | true => have := effN_kill he1 _ hk; rw [view_own (st := r.st) hf.pastA] at this; cases this
  have hkb : eb.kill (r.st.nt + ja) = false := by
    cases hk : eb.kill (r.st.nt + ja) with
    | false => rfl
    | true =>
      have h := effN_kill he2' _ hk
      have : (view cx.δ b.past r.st).live (r.st.nt + ja) = true := by
        have h' : ((view cx.δ b.past r.st).live (r.st.nt + ja) && !ea.kill (r.st.nt + ja)) = true := h
        simp only [Bool.and_eq_true] at h'; exact h'.1
      rw [view_own (st := r.st) hf.pastB] at this; cases this
  -- b first
  have hb0 : effN call cx jb b (view cx.δ b.past r.st) = some eb := by
    cases hta : takesOp a.op with
    | false =>
      have := (effN_live (l := (view cx.δ a.past r.st).live) hta rfl he1).2
      rw [← he2', this]
      congr 1
      exact (withLive_self (by funext t; simp)).symm
    | true =>
      have htb := hf.tA (effN_tiso he1 hta)
      have := (effN_live (l := (view cx.δ b.past r.st).live) htb (by
        show _ = ((view cx.δ b.past r.st).live (r.st.nt + jb) && !ea.kill (r.st.nt + jb))
        rw [hka]; simp; rfl) he2').1
      exact this
  have hkb' : takesOp b.op = false → eb.kill = fun _ => false := fun h => (effN_live (l := (view cx.δ b.past r.st).live) h rfl hb0).2
  -- then a
  have ha0 : effN call cx ja a ((view cx.δ a.past r.st).withLive fun t => (view cx.δ a.past r.st).live t && !eb.kill t) = some ea := by
    cases htb : takesOp b.op with
    | false =>
      rw [hkb' htb, ← he1]
      congr 1
      exact withLive_self (by funext t; simp)
    | true =>
      have hta := hf.tB (effN_tiso hb0 htb)
      refine (effN_live hta ?_ he1).1
      show ((view cx.δ a.past r.st).live (r.st.nt + ja) && !eb.kill (r.st.nt + ja)) = _
      rw [hkb]; simp; rfl
  have hσb : σOnly b.dst r.st.σ (putD (applyN cx.δ jb r.st eb) b.dst eb.d).σ := .put applyN_σ
  refine ⟨{ st := putD (applyN cx.δ jb r.st eb) b.dst eb.d, df := r.df, lg := logN jb b r }, (stepN hwb hib hf.pokB hsb).2 ⟨lb, eb, hb0, rfl⟩, ?_⟩
  have hwa1 : wanted (putD (applyN cx.δ jb r.st eb) b.dst eb.d) a = some true := by rw [wanted_only hσb hf.dstB]; exact hwa
  refine (stepN (r := { st := putD (applyN cx.δ jb r.st eb) b.dst eb.d, df := r.df, lg := logN jb b r }) hwa1 hia hf.pokA hsa).2 ⟨?_, ea, ?_, ?_⟩
  · rw [logOk_only hf.symm hσb hsb]; exact la
  · show effN call cx ja a (view cx.δ a.past (putD (applyN cx.δ jb r.st eb) b.dst eb.d)) = some ea
    rw [view_putD, effN_atO hf.dstB, view_apply hf.pastA]; exact ha0
  · simp only [RSt.mk.injEq, true_and]
    refine ⟨?_, log_comm hf hσa hσb⟩
    rw [apply_putD, apply_putD, apply_comm hf.ne hka hkb, putD_comm hf.dsts]
end Go.Mia
namespace Go.Mia

theorem nearOk_iff {near : List Nat} {lg : Nat → Option (Nat × Nat)} {b : Option (Nat × Nat)} : nearOk near lg b = true ↔ ∀ p ∈ near, ∀ x y, lg p = some x → b = some y → x ≠ y := by
  unfold nearOk
  simp only [List.all_eq_true]
  constructor
  · intro h p hp x y hx hy e
    have := h p hp
    rw [hx, hy] at this
    simp [e] at this
  · intro h p hp
    cases hx : lg p with
    | none => rfl
    | some x =>
      cases b with
      | none => rfl
      | some y => have := h p hp x y hx rfl; simp; exact this

theorem nearOk_ins {near : List Nat} {lg : Nat → Option (Nat × Nat)} {j : Nat} {v b : Option (Nat × Nat)} (h : nearOk near lg b = true) (hv : ∀ x y, v = some x → b = some y → x ≠ y) : nearOk near (upd lg j v) b = true := by
  rw [nearOk_iff] at h ⊢
  intro p hp x y hx hy
  unfold upd at hx
  split at hx
  · exact hv x y hx hy
  · exact h p hp x y hx hy
theorem nearOk_del {near : List Nat} {lg : Nat → Option (Nat × Nat)} {j : Nat} {v b : Option (Nat × Nat)} (hj : lg j = none) (h : nearOk near (upd lg j v) b = true) : nearOk near lg b = true := by
  rw [nearOk_iff] at h ⊢
  intro p hp x y hx hy
  by_cases e : p = j
  · subst e; rw [hj] at hx; cases hx
  · exact h p hp x y (by simp [upd, e, hx]) hy
theorem nearOk_ne {near : List Nat} {lg : Nat → Option (Nat × Nat)} {j : Nat} {v b : Option (Nat × Nat)} (h : nearOk near (upd lg j v) b = true) (hj : j ∈ near) : ∀ x y, v = some x → b = some y → x ≠ y := by
  rw [nearOk_iff] at h
  intro x y hx hy
  exact h j hj x y (by simp [upd, hx]) hy

theorem lend_degr {d i now off : Nat} {x : D} : (lend1 d i now off x).degr = x.degr := by
  cases x with
  | slice tk s xs => cases tk <;> rfl
  | _ => rfl

/-- a load that gives up its right asks nothing but the box -/
theorem load_near {g : Bool} {s : Nat} {p : D} {st st' : St} (h : ∀ d i off, p = .ptr d i off → st'.S d i = st.S d i) : (loadOp g s p st').map D.degr = (loadOp g s p st).map D.degr := by
  cases p with
  | ptr d i off =>
    simp only [loadOp, h d i off rfl]
    cases st.S d i with
    | cells cs =>
      simp only [Option.map_map]
      congr 1
      funext x
      simp only [Function.comp_def, lend_degr]
    | _ => rfl
  | _ => rfl

theorem stepStore {call : CallF} {cx : Cx} {j s : Nat} {x y : Opnd} {o : IOper} {r r' : RSt} (ho : o.op = .store s x y) (hw : wanted r.st o = some true) (hi : o.iso = false) :
    stepO call cx j o r = some (.inl r') ↔ o.un = true ∧ noTok (ev r.st.σ y) = true ∧ nearOk o.near r.lg (boxOf (ev r.st.σ x)) = true ∧
      ∃ s', storeOp s (ev r.st.σ x) (ev r.st.σ y) r.st = some s' ∧ r' = { st := putD s' o.dst .undef, df := r.df, lg := upd r.lg j (boxOf (ev r.st.σ x)) } := by
  have h : stepO call cx j o r = (stepPlain cx.δ j o r).map .inl := by
    unfold stepO
    rw [hw]
    simp only
    unfold stepW
    rw [ho]
  have h' : stepPlain cx.δ j o r = if o.un && noTok (ev r.st.σ y) && nearOk o.near r.lg (boxOf (ev r.st.σ x)) then (storeOp s (ev r.st.σ x) (ev r.st.σ y) r.st).map fun s' => { r with st := putD s' o.dst .undef, lg := upd r.lg j (boxOf (ev r.st.σ x)) } else none := by
    unfold stepPlain; rw [hi, ho]; rfl
  rw [h, h']
  by_cases hc : (o.un && noTok (ev r.st.σ y) && nearOk o.near r.lg (boxOf (ev r.st.σ x))) = true
  · rw [if_pos hc]
    simp only [Bool.and_eq_true] at hc
    simp only [hc.1.1, hc.1.2, hc.2, true_and]
    cases storeOp s (ev r.st.σ x) (ev r.st.σ y) r.st with
    | none => simp
    | some s' => simp; exact ⟨fun h => h.symm, fun h => h.symm⟩
  · rw [if_neg hc]
    simp only [Bool.and_eq_true, not_and] at hc
    simp only [Option.map_none, reduceCtorEq, false_iff, not_and]
    intro a b c
    exact absurd c (hc ⟨a, b⟩)

theorem storeOp_S {s : Nat} {p x : D} {st s' : St} (h : storeOp s p x st = some s') : ∃ d i off, p = .ptr d i off ∧ s'.σ = st.σ ∧ (∀ d' i', ¬ (d' = d ∧ i' = i) → s'.S d' i' = st.S d' i') := by
  unfold storeOp at h
  split at h
  · rename_i d i off
    split at h
    · split at h <;> simp at h
      subst h
      exact ⟨d, i, off, rfl, rfl, fun d' i' hne => by simp [upd2, hne]⟩
    · simp at h
  · simp at h

theorem view_S {δ p : Nat} {st st' : St} {d i : Nat} (hm : st'.m = st.m) (h : st'.S d i = st.S d i) : (view δ p st').S d i = (view δ p st).S d i := by
  unfold view; simp only [hm, h]

theorem storeOp_m {s : Nat} {p x : D} {st s' : St} (h : storeOp s p x st = some s') : s'.m = st.m := by
  unfold storeOp at h
  split at h
  · split at h
    · split at h <;> simp at h
      subst h; rfl
    · simp at h
  · simp at h
theorem putD_S {st : St} {dst : Option Nat} {d : D} : (putD st dst d).S = st.S := by cases dst <;> rfl
theorem putD_m {st : St} {dst : Option Nat} {d : D} : (putD st dst d).m = st.m := by cases dst <;> rfl

theorem effN_load {call : CallF} {cx : Cx} {j s : Nat} {g : Bool} {x : Opnd} {o : IOper} {sv : St} (ho : o.op = .load g s x) (hn : o.near ≠ []) :
    effN call cx j o sv = ((loadOp g s (ev sv.σ x) sv).map D.degr).map fun d => ⟨d, none, none, fun _ => false⟩ := by
  unfold effN; rw [ho]
  simp only [Option.map_map]
  congr 1
  funext d
  have : o.near.isEmpty = false := by cases h : o.near with | nil => exact absurd h hn | cons => rfl
  simp [this]
theorem applyN_nil {δ j : Nat} {st : St} {d : D} : applyN δ j st ⟨d, none, none, fun _ => false⟩ = st := by unfold applyN; simp only [live_same]

theorem storeOp_putD {s : Nat} {p x : D} {st : St} {dst : Option Nat} {d : D} : storeOp s p x (putD st dst d) = (storeOp s p x st).map fun s' => putD s' dst d := by
  cases dst with
  | none => simp [putD]
  | some t => exact storeOp_at

theorem swap_SL {call : CallF} {cx : Cx} {ja jb s s1 : Nat} {g : Bool} {x y z : Opnd} {a b : IOper} (hf : Free ja a jb b) {r r1 r2 : RSt} (hwa : wanted r.st a = some true) (hwb : wanted r.st b = some true) (hia : a.iso = false) (hib : b.iso = false)
    (hoa : a.op = .store s x y) (hob : b.op = .load g s1 z) (hla : r.lg ja = none) (hlb : r.lg jb = none) (h1 : stepO call cx ja a r = some (.inl r1)) (h2 : stepO call cx jb b r1 = some (.inl r2)) :
    ∃ r1', stepO call cx jb b r = some (.inl r1') ∧ stepO call cx ja a r1' = some (.inl r2) := by
  have hsb : isStore b.op = false := by rw [hob]; rfl
  have hjab : ja ∈ b.near := hf.nearB (.inl ⟨by rw [hob]; rfl, by rw [hoa]; rfl⟩)
  have hjba : jb ∈ a.near := hf.nearA (.inr ⟨by rw [hoa]; rfl, by rw [hob]; rfl⟩)
  have hnb : b.near ≠ [] := fun e => by rw [e] at hjab; simp at hjab
  have hnames : ∀ t, b.dst = some t → t ∉ x.slots ∧ t ∉ y.slots := fun t ht => by
    have := IOper.names_slots (hf.dstB t ht); rw [hoa] at this
    simpa [IOp.slots] using this
  have hnamez : ∀ t, a.dst = some t → t ∉ z.slots := fun t ht => by
    have := IOper.names_slots (hf.dstA t ht); rw [hob] at this; exact this
  obtain ⟨u1, u2, u3, s', hst, rfl⟩ := (stepStore hoa hwa hia).1 h1
  obtain ⟨dd, ii, off, hp, hsσ, hsS⟩ := storeOp_S hst
  have hσa : σOnly a.dst r.st.σ (putD s' a.dst D.undef).σ := .put hsσ
  have hwb1 : wanted (putD s' a.dst D.undef) b = some true := by rw [wanted_only hσa hf.dstA]; exact hwb
  obtain ⟨lb, eb, he2, rfl⟩ := (stepN (r := { st := putD s' a.dst D.undef, df := r.df, lg := upd r.lg ja (boxOf (ev r.st.σ x)) }) hwb1 hib hf.pokB hsb).1 h2
  have hz : ev (putD s' a.dst D.undef).σ z = ev r.st.σ z := ev_only hσa hnamez
  have hlb2 : nearOk b.near (upd r.lg ja (boxOf (ev r.st.σ x))) (boxOf (ev r.st.σ z)) = true := by
    have : logOk b { st := putD s' a.dst D.undef, df := r.df, lg := upd r.lg ja (boxOf (ev r.st.σ x)) } = true := lb
    unfold logOk at this
    rw [hob] at this
    simp only [hz] at this
    exact this
  have hne := nearOk_ne hlb2 hjab
  have hview : ∀ (p : Nat) d i off', ev r.st.σ z = .ptr d i off' → (view cx.δ p (putD s' a.dst D.undef)).S d i = (view cx.δ p r.st).S d i := by
    intro p d i off' e
    refine view_S (by rw [putD_m, storeOp_m hst]) ?_
    rw [putD_S]
    refine hsS d i fun e2 => ?_
    refine hne (dd, ii) (d, i) (by rw [hp]; rfl) (by rw [e]; rfl) ?_
    rw [e2.1, e2.2]
  have hev : (view cx.δ b.past (putD s' a.dst D.undef)).σ = (putD s' a.dst D.undef).σ := rfl
  have heff : effN call cx jb b (view cx.δ b.past r.st) = some eb := by
    rw [effN_load hob hnb] at he2 ⊢
    rw [show ev (view cx.δ b.past (putD s' a.dst D.undef)).σ z = ev r.st.σ z from hz] at he2
    rw [show ev (view cx.δ b.past r.st).σ z = ev r.st.σ z from rfl, ← he2]
    congr 1
    exact (load_near (hview b.past)).symm
  have hd : ∃ d, eb = ⟨d, none, none, fun _ => false⟩ := by
    rw [effN_load hob hnb] at heff
    simp only [Option.map_eq_some_iff] at heff
    obtain ⟨d, _, rfl⟩ := heff
    exact ⟨d, rfl⟩
  obtain ⟨d, rfl⟩ := hd
  have hσb : σOnly b.dst r.st.σ (putD r.st b.dst d).σ := .put rfl
  have hwa1 : wanted (putD r.st b.dst d) a = some true := by rw [wanted_only hσb hf.dstB]; exact hwa
  have hx : ev (putD r.st b.dst d).σ x = ev r.st.σ x := ev_only hσb fun t ht => (hnames t ht).1
  have hy : ev (putD r.st b.dst d).σ y = ev r.st.σ y := ev_only hσb fun t ht => (hnames t ht).2
  refine ⟨{ st := putD r.st b.dst d, df := r.df, lg := upd r.lg jb (boxOf (ev r.st.σ z)) }, (stepN hwb hib hf.pokB hsb).2 ⟨?_, _, heff, ?_⟩, (stepStore hoa hwa1 hia).2 ⟨u1, ?_, ?_, putD s' b.dst d, ?_, ?_⟩⟩
  · unfold logOk; rw [hob]; exact nearOk_del hla hlb2
  · rw [applyN_nil]; unfold logN; rw [hob]
  · show noTok (ev (putD r.st b.dst d).σ y) = true
    rw [hy]; exact u2
  · show nearOk a.near (upd r.lg jb (boxOf (ev r.st.σ z))) (boxOf (ev (putD r.st b.dst d).σ x)) = true
    rw [hx]
    exact nearOk_ins u3 fun p q h1 h2 e => hne q p h2 h1 e.symm
  · show storeOp s (ev (putD r.st b.dst d).σ x) (ev (putD r.st b.dst d).σ y) (putD r.st b.dst d) = _
    rw [hx, hy, storeOp_putD, hst]; rfl
  · simp only [RSt.mk.injEq, true_and]
    rw [applyN_nil]
    refine ⟨putD_comm hf.dsts, ?_⟩
    unfold logN; rw [hob]
    simp only [hz, hx]
    exact upd_comm hf.ne

theorem swap_LS {call : CallF} {cx : Cx} {ja jb s s1 : Nat} {g : Bool} {x y z : Opnd} {a b : IOper} (hf : Free ja a jb b) {r r1 r2 : RSt} (hwa : wanted r.st a = some true) (hwb : wanted r.st b = some true) (hia : a.iso = false) (hib : b.iso = false)
    (hoa : a.op = .load g s1 z) (hob : b.op = .store s x y) (hla : r.lg ja = none) (hlb : r.lg jb = none) (h1 : stepO call cx ja a r = some (.inl r1)) (h2 : stepO call cx jb b r1 = some (.inl r2)) :
    ∃ r1', stepO call cx jb b r = some (.inl r1') ∧ stepO call cx ja a r1' = some (.inl r2) := by
  have hsa : isStore a.op = false := by rw [hoa]; rfl
  have hjab : ja ∈ b.near := hf.nearB (.inr ⟨by rw [hob]; rfl, by rw [hoa]; rfl⟩)
  have hjba : jb ∈ a.near := hf.nearA (.inl ⟨by rw [hoa]; rfl, by rw [hob]; rfl⟩)
  have hna : a.near ≠ [] := fun e => by rw [e] at hjba; simp at hjba
  have hnames : ∀ t, a.dst = some t → t ∉ x.slots ∧ t ∉ y.slots := fun t ht => by
    have := IOper.names_slots (hf.dstA t ht); rw [hob] at this
    simpa [IOp.slots] using this
  have hnamez : ∀ t, b.dst = some t → t ∉ z.slots := fun t ht => by
    have := IOper.names_slots (hf.dstB t ht); rw [hoa] at this; exact this
  obtain ⟨la, ea, he1, rfl⟩ := (stepN hwa hia hf.pokA hsa).1 h1
  have hd : ∃ d, ea = ⟨d, none, none, fun _ => false⟩ := by
    rw [effN_load hoa hna] at he1
    simp only [Option.map_eq_some_iff] at he1
    obtain ⟨d, _, rfl⟩ := he1
    exact ⟨d, rfl⟩
  obtain ⟨d, rfl⟩ := hd
  rw [applyN_nil] at h2
  have hlogN : logN ja a r = upd r.lg ja (boxOf (ev r.st.σ z)) := by unfold logN; rw [hoa]
  rw [hlogN] at h2
  have hσa : σOnly a.dst r.st.σ (putD r.st a.dst d).σ := .put rfl
  have hwb1 : wanted (putD r.st a.dst d) b = some true := by rw [wanted_only hσa hf.dstA]; exact hwb
  obtain ⟨u1, u2, u3, s2, hst, rfl⟩ := (stepStore (r := { st := putD r.st a.dst d, df := r.df, lg := upd r.lg ja (boxOf (ev r.st.σ z)) }) hob hwb1 hib).1 h2
  have hx : ev (putD r.st a.dst d).σ x = ev r.st.σ x := ev_only hσa fun t ht => (hnames t ht).1
  have hy : ev (putD r.st a.dst d).σ y = ev r.st.σ y := ev_only hσa fun t ht => (hnames t ht).2
  simp only [hx, hy] at u2 u3 hst
  rw [storeOp_putD] at hst
  simp only [Option.map_eq_some_iff] at hst
  obtain ⟨s', hst, rfl⟩ := hst
  obtain ⟨dd, ii, off, hp, hsσ, hsS⟩ := storeOp_S hst
  have hne := nearOk_ne u3 hjab
  have hσb : σOnly b.dst r.st.σ (putD s' b.dst D.undef).σ := .put hsσ
  have hz : ev (putD s' b.dst D.undef).σ z = ev r.st.σ z := ev_only hσb hnamez
  have hwa1 : wanted (putD s' b.dst D.undef) a = some true := by rw [wanted_only hσb hf.dstB]; exact hwa
  have hview : ∀ d i off', ev r.st.σ z = .ptr d i off' → (view cx.δ a.past (putD s' b.dst D.undef)).S d i = (view cx.δ a.past r.st).S d i := by
    intro d i off' e
    refine view_S (by rw [putD_m, storeOp_m hst]) ?_
    rw [putD_S]
    refine hsS d i fun e2 => ?_
    refine hne (d, i) (dd, ii) (by rw [e]; rfl) (by rw [hp]; rfl) ?_
    rw [e2.1, e2.2]
  have heff : effN call cx ja a (view cx.δ a.past (putD s' b.dst D.undef)) = some ⟨d, none, none, fun _ => false⟩ := by
    rw [effN_load hoa hna] at he1 ⊢
    rw [show ev (view cx.δ a.past (putD s' b.dst D.undef)).σ z = ev r.st.σ z from hz]
    rw [show ev (view cx.δ a.past r.st).σ z = ev r.st.σ z from rfl] at he1
    rw [← he1]
    congr 1
    exact load_near hview
  refine ⟨{ st := putD s' b.dst D.undef, df := r.df, lg := upd r.lg jb (boxOf (ev r.st.σ x)) }, (stepStore hob hwb hib).2 ⟨u1, u2, nearOk_del hla u3, s', hst, rfl⟩,
    (stepN (r := { st := putD s' b.dst D.undef, df := r.df, lg := upd r.lg jb (boxOf (ev r.st.σ x)) }) hwa1 hia hf.pokA hsa).2 ⟨?_, _, heff, ?_⟩⟩
  · unfold logOk; rw [hoa]
    simp only [hz]
    unfold logOk at la; rw [hoa] at la
    exact nearOk_ins la fun p q h1 h2 e => hne q p h2 h1 e.symm
  · simp only [RSt.mk.injEq, true_and]
    rw [applyN_nil]
    refine ⟨putD_comm (fun t h1 h2 => hf.dsts t h1 h2), ?_⟩
    unfold logN; rw [hoa]
    simp only [hz, hx]
    exact upd_comm hf.ne

/-- Two operations that may come in either order do the same in either order. -/
theorem swap {call : CallF} {cx : Cx} {ja jb : Nat} {a b : IOper} (hf : Free ja a jb b) {r r1 r2 : RSt} (hla : r.lg ja = none) (hlb : r.lg jb = none) (h1 : stepO call cx ja a r = some (.inl r1)) (h2 : stepO call cx jb b r1 = some (.inl r2)) :
    ∃ r1', stepO call cx jb b r = some (.inl r1') ∧ stepO call cx ja a r1' = some (.inl r2) := by
  have ho := stepO_σ h1
  by_cases hqa : still a r
  · exact swap_still hf h1 h2 (.inl hqa)
  by_cases hqb : still b r1
  · exact swap_still hf h1 h2 (.inr hqb)
  have hwa : wanted r.st a = some true := by
    cases h : wanted r.st a with
    | none => unfold stepO at h1; rw [h] at h1; simp at h1
    | some w => cases w with
      | true => rfl
      | false => exact absurd (.inr h) hqa
  have hwb : wanted r.st b = some true := by
    cases h : wanted r1.st b with
    | none => unfold stepO at h2; rw [h] at h2; simp at h2
    | some w => cases w with
      | true => rw [wanted_only ho hf.dstA] at h; exact h
      | false => exact absurd (.inr h) hqb
  have qa : quietOp a.op = false := by
    cases h : quietOp a.op with
    | false => rfl
    | true => exact absurd (.inl ⟨h, hf.qA h⟩) hqa
  have qb : quietOp b.op = false := by
    cases h : quietOp b.op with
    | false => rfl
    | true => exact absurd (.inl ⟨h, hf.qB h⟩) hqb
  have hia : a.iso = false := by
    cases h : a.iso with
    | false => rfl
    | true => have := hf.isoA h; simp [qa, qb] at this
  have hib : b.iso = false := by
    cases h : b.iso with
    | false => rfl
    | true => have := hf.isoB h; simp [qa, qb] at this
  cases hsa : isStore a.op with
  | false =>
    cases hsb : isStore b.op with
    | false => exact swap_NN hf hwa hwb hia hib hsa hsb h1 h2
    | true =>
      cases hob : b.op with
      | store s x y =>
        have hwb1 : wanted r1.st b = some true := by rw [wanted_only ho hf.dstA]; exact hwb
        have hun := ((stepStore hob hwb1 hib).1 h2).1
        have hl := hf.unB hun
        simp only [qa, Bool.false_eq_true, false_or] at hl
        cases hoa : a.op with
        | load g s1 z => exact swap_LS hf hwa hwb hia hib hoa hob hla hlb h1 h2
        | _ => rw [hoa] at hl; simp [isLoad] at hl
      | _ => rw [hob] at hsb; simp [isStore] at hsb
  | true =>
    cases hoa : a.op with
    | store s x y =>
      have hun := ((stepStore hoa hwa hia).1 h1).1
      have hl := hf.unA hun
      simp only [qb, Bool.false_eq_true, false_or] at hl
      cases hob : b.op with
      | load g s1 z => exact swap_SL hf hwa hwb hia hib hoa hob hla hlb h1 h2
      | _ => rw [hob] at hl; simp [isLoad] at hl
    | _ => rw [hoa] at hsa; simp [isStore] at hsa
end Go.Mia
namespace Go.Mia

theorem stepO_pok {call : CallF} {cx : Cx} {j : Nat} {o : IOper} {r : RSt} {p : D × RSt} (h : stepO call cx j o r = some (.inr p)) : o.pok = true := by
  unfold stepO at h
  split at h
  · simp at h
  · unfold stepW at h
    split at h
    · split at h
      · simp at h
      · unfold stepCall at h
        split at h
        · simp at h
        · split at h
          · split at h <;> simp at h
          · split at h
            · assumption
            · simp at h
    · split at h
      · split at h
        · assumption
        · simp at h
      · simp at h
    · split at h
      · split at h <;> simp at h
      · simp at h
    · split at h <;> simp at h
    · simp at h
  · simp at h

theorem stepO_lg {call : CallF} {cx : Cx} {j : Nat} {o : IOper} {r r' : RSt} (h : stepO call cx j o r = some (.inl r')) : ∀ p, p ≠ j → r'.lg p = r.lg p := by
  intro p hp
  unfold stepO at h
  split at h
  · simp at h
  · unfold stepW at h
    split at h
    · split at h
      · simp at h
      · unfold stepCall at h
        split at h
        · simp at h
        · split at h
          · split at h <;> (simp at h; subst h; rfl)
          · split at h <;> simp at h
    · split at h
      · split at h <;> simp at h
      · simp at h
    · split at h
      · split at h <;> (simp at h; subst h; rfl)
      · simp at h
    · split at h
      · simp at h; subst h; rfl
      · simp at h
    · simp only [Option.map_eq_some_iff, Sum.inl.injEq] at h
      obtain ⟨r1, h, rfl⟩ := h
      unfold stepPlain at h
      split at h
      · simp only [Option.map_eq_some_iff] at h
        obtain ⟨_, _, rfl⟩ := h; rfl
      · split at h
        · split at h
          · simp only [Option.map_eq_some_iff] at h
            obtain ⟨_, _, rfl⟩ := h; simp [upd, hp]
          · simp at h
        · split at h
          · simp only [Option.map_eq_some_iff] at h
            obtain ⟨_, _, rfl⟩ := h; simp [upd, hp]
          · simp at h
        · split at h
          · simp at h
          · split at h
            · split at h
              · simp at h; subst h; rfl
              · simp at h
            · simp at h
  · simp at h; subst h; rfl

/-- What comes next may come first. -/
theorem pull {call : CallF} {cx : Cx} {i : Nat} {o : IOper} : ∀ {L1 L2 : List (Nat × IOper)} {r : RSt} {stop : Stop}, (∀ x ∈ L1, Free x.1 x.2 i o) → (L1.map (·.1)).Nodup → r.lg i = none → (∀ x ∈ L1, r.lg x.1 = none) →
    runL call cx (L1 ++ (i, o) :: L2) r = some stop → (∃ r', stepO call cx i o r = some (.inl r') ∧ runL call cx (L1 ++ L2) r' = some stop) ∨ (L1 = [] ∧ ∃ v r', stepO call cx i o r = some (.inr (v, r')) ∧ stop = .pan v r')
  | [], L2, r, stop, _, _, _, _, h => by
    simp only [List.nil_append, runL] at h
    cases hs : stepO call cx i o r with
    | none => rw [hs] at h; simp at h
    | some y =>
      rw [hs] at h
      cases y with
      | inl r' => exact .inl ⟨r', rfl, h⟩
      | inr p => obtain ⟨v, r'⟩ := p; simp at h; exact .inr ⟨rfl, v, r', rfl, h.symm⟩
  | (j, x) :: L1, L2, r, stop, hf, hnd, hi, hl, h => by
    have hfx := hf (j, x) (by simp)
    simp only [List.cons_append, runL] at h
    simp only [List.map_cons, List.nodup_cons] at hnd
    cases hs : stepO call cx j x r with
    | none => rw [hs] at h; simp at h
    | some y =>
      rw [hs] at h
      cases y with
      | inr p => have := stepO_pok hs; rw [hfx.pokA] at this; cases this
      | inl r1 =>
        simp only at h
        have hlg := stepO_lg hs
        have ih := pull (L1 := L1) (L2 := L2) (r := r1) (fun y hy => hf y (by simp [hy])) hnd.2 (by rw [hlg i hfx.ne.symm]; exact hi)
          (fun y hy => by
            rw [hlg y.1 (fun e => hnd.1 (by rw [← e]; exact List.mem_map_of_mem hy))]
            exact hl y (by simp [hy])) h
        rcases ih with ⟨r1', h1, h2⟩ | ⟨rfl, v, r', h1, _⟩
        · obtain ⟨r', g1, g2⟩ := swap hfx (hl (j, x) (by simp)) hi hs h1
          exact .inl ⟨r', g1, by simp only [List.cons_append, runL, g2]; exact h2⟩
        · have := stepO_pok h1; rw [hfx.pokB] at this; cases this

/-! ### What the marks say -/
theorem mkOpers_get {ops : List Go.Oper} {draw : Bool} {b : List Nat} {ios : List IOp} : ∀ {os' : List Go.Oper} {is : List IOp} {i0 : Nat} {os : List IOper}, mkOpers ops draw b ios i0 os' is = some os →
    os.length = os'.length ∧ is.length = os'.length ∧ ∀ (n : Nat) (x : IOper), os[n]? = some x → ∃ (o : Go.Oper) (io : IOp) (g : Option (Nat × Bool)), os'[n]? = some o ∧ is[n]? = some io ∧ guardOf ops o = some g ∧
      x = if draw then { dst := o.dst, op := io, guard := g, iso := isoOf b ios (i0 + n), pok := pokOf b ios.length (i0 + n), tiso := tisoOf b ios (i0 + n), un := unOf b ios (i0 + n), past := b.getD (i0 + n) 0, near := nearOf b ios (i0 + n) } else { dst := o.dst, op := io, guard := g }
  | [], [], i0, os, h => by simp [mkOpers] at h; subst h; simp
  | [], _ :: _, i0, os, h => by simp [mkOpers] at h
  | _ :: _, [], i0, os, h => by simp [mkOpers] at h
  | o :: os', io :: is, i0, os, h => by
    simp only [mkOpers] at h
    split at h
    · rename_i g rest hg hr
      obtain ⟨h1, h2, h3⟩ := mkOpers_get hr
      have key : ∀ x0, os = x0 :: rest → x0 = (if draw then { dst := o.dst, op := io, guard := g, iso := isoOf b ios (i0 + 0), pok := pokOf b ios.length (i0 + 0), tiso := tisoOf b ios (i0 + 0), un := unOf b ios (i0 + 0), past := b.getD (i0 + 0) 0, near := nearOf b ios (i0 + 0) } else { dst := o.dst, op := io, guard := g }) →
          os.length = (o :: os').length ∧ (io :: is).length = (o :: os').length ∧ ∀ (n : Nat) (x : IOper), os[n]? = some x → ∃ (o' : Go.Oper) (io' : IOp) (g : Option (Nat × Bool)), (o :: os')[n]? = some o' ∧ (io :: is)[n]? = some io' ∧ guardOf ops o' = some g ∧
            x = if draw then { dst := o'.dst, op := io', guard := g, iso := isoOf b ios (i0 + n), pok := pokOf b ios.length (i0 + n), tiso := tisoOf b ios (i0 + n), un := unOf b ios (i0 + n), past := b.getD (i0 + n) 0, near := nearOf b ios (i0 + n) } else { dst := o'.dst, op := io', guard := g } := by
        intro x0 e1 e2
        subst e1
        refine ⟨by simp [h1], by simp [h2], fun n x hx => ?_⟩
        cases n with
        | zero => simp at hx; subst hx; exact ⟨o, io, g, rfl, rfl, hg, e2⟩
        | succ n =>
          obtain ⟨o', io', g', q1, q2, q3, q4⟩ := h3 n x (by simpa using hx)
          refine ⟨o', io', g', by simpa using q1, by simpa using q2, q3, ?_⟩
          rw [show i0 + (n + 1) = i0 + 1 + n by omega]; exact q4
      split at h
      · rename_i hd
        simp only [Option.some.injEq] at h
        exact key _ h.symm (by rw [if_pos hd]; rfl)
      · rename_i hd
        simp only [Option.some.injEq] at h
        exact key _ h.symm (by rw [if_neg hd])
    · simp at h

theorem number_get : ∀ {os : List IOper} {n0 n : Nat} {x : Nat × IOper}, (number n0 os)[n]? = some x ↔ os[n]? = some x.2 ∧ x.1 = n0 + n
  | [], n0, n, x => by simp [number]
  | o :: os, n0, 0, x => by
    obtain ⟨a, b⟩ := x
    simp [number]
    exact ⟨fun h => ⟨h.2, h.1.symm⟩, fun h => ⟨h.2.symm, h.1⟩⟩
  | o :: os, n0, n + 1, x => by
    simp only [number, List.getElem?_cons_succ]
    rw [number_get]
    rw [show n0 + 1 + n = n0 + (n + 1) by omega]

theorem all_range {n : Nat} {f : Nat → Bool} : (List.range n).all f = true ↔ ∀ i, i < n → f i = true := by simp [List.all_eq_true]

theorem notLoad {o : IOp} (h : isStore o = true) : isLoad o = false := by cases o <;> first | rfl | cases h

/-- operations of an open region that no edge orders are free of each other -/
theorem free_of {ops : List Go.Oper} {b : List Nat} {ios : List IOp} {os : List IOper} (h : mkOpers ops true b ios 0 ops ios = some os) (ha : apartOk b os = true) {i j : Nat} {x y : IOper} (hx : os[i]? = some x) (hy : os[j]? = some y) (hne : i ≠ j) (hc : cmp b i j = false) :
    Free i x j y := by
  obtain ⟨hl, hl2, hg⟩ := mkOpers_get h
  obtain ⟨o, io, g, q1, q2, q3, q4⟩ := hg i x hx
  obtain ⟨o', io', g', p1, p2, p3, p4⟩ := hg j y hy
  simp only [if_true, Nat.zero_add] at q4 p4
  have hi : i < os.length := (List.getElem?_eq_some_iff.1 hx).1
  have hj : j < os.length := (List.getElem?_eq_some_iff.1 hy).1
  have hi' : i < ios.length := by omega
  have hj' : j < ios.length := by omega
  have hcs : cmp b j i = false := by unfold cmp at hc ⊢; rw [Bool.or_comm]; exact hc
  have bij : before b i j = false ∧ before b j i = false := by unfold cmp at hc; simpa using hc
  unfold apartOk at ha
  rw [Bool.and_eq_true] at ha
  obtain ⟨ha0, ha⟩ := ha
  rw [all_range] at ha0
  have self : ∀ n, n < os.length → before b n n = false := fun n hn => by simpa using ha0 n hn
  have dst : ∀ {i j : Nat} {x y : IOper}, os[i]? = some x → os[j]? = some y → i < os.length → j < os.length → i ≠ j → cmp b i j = false → ∀ t, x.dst = some t → t ∉ y.names := by
    intro i j x y hx hy hi hj hne hc t ht
    rw [all_range] at ha
    have := ha i hi
    rw [all_range] at this
    have := this j hj
    simp only [hc, Bool.or_false, Bool.or_eq_true, beq_iff_eq, hne, false_or, List.getD_eq_getElem?_getD, hx, hy, Option.getD_some, ht, Bool.not_eq_true'] at this
    intro hm
    rw [← List.contains_iff_mem] at hm
    rw [hm] at this; cases this
  have opx : x.op = opAt ios i := by rw [q4]; simp [opAt, q2]
  have opy : y.op = opAt ios j := by rw [p4]; simp [opAt, p2]
  have hxi : x.iso = isoOf b ios i := by rw [q4]
  have hyi : y.iso = isoOf b ios j := by rw [p4]
  have iso1 : ∀ {i j : Nat}, i < ios.length → j < ios.length → i ≠ j → cmp b i j = false → isoOf b ios i = true → quietOp (opAt ios i) = true ∨ quietOp (opAt ios j) = true := by
    intro i j hi hj hne hc h
    unfold isoOf at h
    rw [Bool.or_eq_true] at h
    refine h.imp id fun h => ?_
    rw [all_range] at h
    have := h j hj
    have hne' : ¬ j = i := fun e => hne e.symm
    simpa [hc, hne'] using this
  have pok1 : ∀ {i j : Nat}, j < ios.length → i ≠ j → cmp b i j = false → pokOf b ios.length i = false := by
    intro i j hj hne hc
    cases h : pokOf b ios.length i with
    | false => rfl
    | true =>
      unfold pokOf at h
      rw [all_range] at h
      have := h j hj
      have hne' : ¬ j = i := fun e => hne e.symm
      simp [hc, hne'] at this
  have tiso1 : ∀ {i j : Nat}, j < ios.length → i ≠ j → cmp b i j = false → tisoOf b ios i = true → takesOp (opAt ios j) = false := by
    intro i j hj hne hc h
    unfold tisoOf at h
    rw [all_range] at h
    have := h j hj
    have hne' : ¬ j = i := fun e => hne e.symm
    simpa [hc, hne'] using this
  have un1 : ∀ {i j : Nat}, j < ios.length → i ≠ j → cmp b i j = false → unOf b ios i = true → quietOp (opAt ios j) = true ∨ isLoad (opAt ios j) = true := by
    intro i j hj hne hc h
    unfold unOf at h
    rw [Bool.and_eq_true, all_range] at h
    have := h.2 j hj
    have hne' : ¬ j = i := fun e => hne e.symm
    simpa [hc, hne'] using this
  have near1 : ∀ {i j : Nat}, j < ios.length → cmp b i j = false → (isLoad (opAt ios i) = true ∧ isStore (opAt ios j) = true) ∨ (isStore (opAt ios i) = true ∧ isLoad (opAt ios j) = true) → j ∈ nearOf b ios i := by
    intro i j hj hc h
    unfold nearOf
    rcases h with ⟨h1, h2⟩ | ⟨h1, h2⟩
    · rw [if_pos h1, List.mem_filter]; simp [hj, h2, hc]
    · have h3 : isLoad (opAt ios i) = false := notLoad h1
      rw [if_neg (by simp [h3]), if_pos h1, List.mem_filter]; simp [hj, h2, hc]
  have near2 : ∀ {i j : Nat}, isLoad (opAt ios i) = true → j ∈ nearOf b ios i → isStore (opAt ios j) = true := by
    intro i j h1 h2
    unfold nearOf at h2
    rw [if_pos h1, List.mem_filter] at h2
    have := h2.2
    simp only [Bool.and_eq_true] at this
    exact this.1
  have past1 : ∀ i j, before b i j = false → (b.getD j 0).testBit i = false := fun i j h => h
  exact {
    ne := hne
    dstA := dst hx hy hi hj hne hc
    dstB := dst hy hx hj hi hne.symm hcs
    qA := fun h => by rw [hxi]; unfold isoOf; rw [← opx, h]; rfl
    qB := fun h => by rw [hyi]; unfold isoOf; rw [← opy, h]; rfl
    isoA := fun h => by rw [opx, opy]; exact iso1 hi' hj' hne hc (by rw [← hxi]; exact h)
    isoB := fun h => by rw [opx, opy]; exact iso1 hj' hi' hne.symm hcs (by rw [← hyi]; exact h)
    pokA := by rw [q4]; exact pok1 hj' hne hc
    pokB := by rw [p4]; exact pok1 hi' hne.symm hcs
    tA := fun h => by rw [opy]; exact tiso1 hj' hne hc (by rw [q4] at h; exact h)
    tB := fun h => by rw [opx]; exact tiso1 hi' hne.symm hcs (by rw [p4] at h; exact h)
    unA := fun h => by rw [opy]; exact un1 hj' hne hc (by rw [q4] at h; exact h)
    unB := fun h => by rw [opx]; exact un1 hi' hne.symm hcs (by rw [p4] at h; exact h)
    pastA := by rw [q4]; exact past1 j i bij.2
    pastB := by rw [p4]; exact past1 i j bij.1
    selfA := by rw [q4]; exact past1 i i (self i hi)
    selfB := by rw [p4]; exact past1 j j (self j hj)
    nearA := fun h => by rw [opx, opy] at h; rw [q4]; exact near1 hj' hc h
    nearB := fun h => by rw [opx, opy] at h; rw [p4]; exact near1 hi' hcs h
    nearA' := fun h1 h2 => by rw [opx] at h1; rw [q4] at h2; rw [opy]; exact near2 h1 h2
    nearB' := fun h1 h2 => by rw [opy] at h1; rw [p4] at h2; rw [opx]; exact near2 h1 h2 }
end Go.Mia
namespace Go.Mia
open Go

/-- every operation is ready when it comes -/
inductive Seqn (md : Region.Mode) (ops : Array Oper) : Array Bool → List Nat → Prop
  | nil {listed : Array Bool} : Seqn md ops listed []
  | cons {listed : Array Bool} {i : Nat} {l : List Nat} (h : i ∈ Region.ready md ops listed) (t : Seqn md ops (listed.setIfInBounds i true) l) : Seqn md ops listed (i :: l)

theorem go_seqn {md : Region.Mode} {ops : Array Oper} : ∀ (fuel t : Nat) (listed : Array Bool), Seqn md ops listed (Region.linearise.go md ops fuel t listed [])
  | 0, t, listed => by simp [Region.linearise.go]; exact .nil
  | fuel + 1, t, listed => by
    simp only [Region.linearise.go]
    change Seqn md ops listed (match (Region.ready md ops listed)[t % (Region.ready md ops listed).length]? with
      | some i => Region.linearise.go md ops fuel (t / (Region.ready md ops listed).length) (listed.setIfInBounds i true) [i]
      | none => [].reverse)
    cases hi : (Region.ready md ops listed)[t % (Region.ready md ops listed).length]? with
    | none => simp; exact .nil
    | some i =>
      simp only []
      rw [linearise_go_acc]
      exact .cons (List.mem_of_getElem? hi) (go_seqn fuel _ _)

/-- how many are not listed -/
def open' (n : Nat) (listed : Array Bool) : Nat := ((List.range n).filter fun i => !listed.getD i true).length

theorem ready_iff {md : Region.Mode} {ops : Array Oper} {listed : Array Bool} {i : Nat} : i ∈ Region.ready md ops listed ↔ i < ops.size ∧ listed.getD i true = false ∧ ∃ o, ops[i]? = some o ∧ ∀ e ∈ o.after, Region.binds md e = true → listed.getD e.on false = true := by
  unfold Region.ready
  simp only [List.mem_filter, List.mem_range, Bool.and_eq_true, Bool.not_eq_true']
  constructor
  · rintro ⟨h1, h2, h3⟩
    refine ⟨h1, h2, ops[i], Array.getElem?_eq_getElem h1, fun e he hb => ?_⟩
    rw [Array.getElem?_eq_getElem h1] at h3
    simp only [Option.map_some, Option.getD_some, Array.all_eq_true'] at h3
    have := h3 e he
    simpa [hb] using this
  · rintro ⟨h1, h2, o, h3, h4⟩
    refine ⟨h1, h2, ?_⟩
    rw [h3]
    simp only [Option.map_some, Option.getD_some, Array.all_eq_true']
    intro e he
    cases hb : Region.binds md e with
    | false => simp
    | true => simp [h4 e he hb]

/-- an order in which everything comes: what is open has something ready -/
theorem ready_of_order {md : Region.Mode} {ops : Array Oper} : ∀ {l : List Nat} {l0 listed : Array Bool}, Seqn md ops l0 l → (∀ i, i < ops.size → l0.getD i true = true → listed.getD i true = true) → l0.size = ops.size → listed.size = ops.size → (∀ i, i < ops.size → l0.getD i true = false → i ∈ l) →
    (∃ i, i < ops.size ∧ listed.getD i true = false) → ∃ i, i ∈ Region.ready md ops listed := by
  intro l
  induction l with
  | nil =>
    intro l0 listed hs hsub h1 h2 hall ⟨i, hi, hl⟩
    cases h0 : l0.getD i true with
    | true => rw [hsub i hi h0] at hl; cases hl
    | false => have := hall i hi h0; simp at this
  | cons a l ih =>
    intro l0 listed hs hsub h1 h2 hall hex
    cases hs with
    | cons h t =>
      obtain ⟨ha, hb, o, hc, hd⟩ := ready_iff.1 h
      by_cases hla : listed.getD a true = false
      · refine ⟨a, ready_iff.2 ⟨ha, hla, o, hc, fun e he hbd => ?_⟩⟩
        have h3 := hd e he hbd
        have hlt : e.on < ops.size := by
          rcases Nat.lt_or_ge e.on ops.size with q | q
          · exact q
          · rw [Array.getD_eq_getD_getElem?, Array.getElem?_eq_none (by omega)] at h3; cases h3
        have h4 : l0.getD e.on true = true := by
          rw [Array.getD_eq_getD_getElem?, Array.getElem?_eq_getElem (by omega)] at h3 ⊢; simpa using h3
        have h5 := hsub e.on hlt h4
        rw [Array.getD_eq_getD_getElem?, Array.getElem?_eq_getElem (by omega)] at h5 ⊢; simpa using h5
      · refine ih t (fun i hi h3 => ?_) (by simpa using h1) h2 (fun i hi h3 => ?_) hex
        · by_cases e : i = a
          · subst e; simpa using hla
          · rw [getD_set_ne true (fun e' => e e'.symm)] at h3
            exact hsub i hi h3
        · by_cases e : i = a
          · subst e
            rw [Array.getD_eq_getD_getElem?, Array.getElem?_setIfInBounds_self_of_lt (by omega)] at h3
            cases h3
          · rw [getD_set_ne true (fun e' => e e'.symm)] at h3
            have := hall i hi h3
            simp at this
            rcases this with h4 | h4
            · exact absurd h4 e
            · exact h4

theorem Seqn.mem {md : Region.Mode} {ops : Array Oper} {listed : Array Bool} {l : List Nat} (h : Seqn md ops listed l) (hs : listed.size = ops.size) : (∀ i ∈ l, i < ops.size ∧ listed.getD i true = false) ∧ l.Nodup := by
  induction h with
  | nil => simp
  | @cons listed i l h t ih =>
    obtain ⟨ha, hb, _⟩ := ready_iff.1 h
    obtain ⟨h1, h2⟩ := ih (by simpa using hs)
    have hni : i ∉ l := by
      intro hm
      have := (h1 i hm).2
      rw [Array.getD_eq_getD_getElem?, Array.getElem?_setIfInBounds_self_of_lt (by omega)] at this
      cases this
    refine ⟨fun x hx => ?_, List.nodup_cons.2 ⟨hni, h2⟩⟩
    rcases List.mem_cons.1 hx with rfl | hx
    · exact ⟨ha, hb⟩
    · have := h1 x hx
      refine ⟨this.1, ?_⟩
      rw [getD_set_ne true (fun e => hni (by rw [e]; exact hx))] at this
      exact this.2

theorem nodup_le : ∀ {n : Nat} {l : List Nat}, l.Nodup → (∀ i ∈ l, i < n) → l.length ≤ n
  | 0, [], _, _ => Nat.le_refl _
  | 0, x :: l, _, h => by have := h x (by simp); omega
  | n + 1, l, hd, hl => by
    by_cases hm : n ∈ l
    · have h1 : (l.erase n).Nodup := hd.erase n
      have h2 : ∀ x ∈ l.erase n, x < n := fun x hx => by
        have hx' := List.mem_of_mem_erase hx
        have hne : x ≠ n := fun e => by subst e; exact (List.Nodup.not_mem_erase hd) hx
        have := hl x hx'; omega
      have h3 := nodup_le h1 h2
      rw [List.length_erase_of_mem hm] at h3
      omega
    · have := nodup_le hd (n := n) (fun x hx => by
        have := hl x hx
        have hne : x ≠ n := fun e => hm (e ▸ hx)
        omega)
      omega

theorem nodup_full : ∀ {n : Nat} {l : List Nat}, l.Nodup → (∀ i ∈ l, i < n) → l.length = n → ∀ i, i < n → i ∈ l
  | 0, l, _, _, _, i, hi => by omega
  | n + 1, l, hd, hl, hn, i, hi => by
    by_cases hm : n ∈ l
    · have h1 : (l.erase n).Nodup := hd.erase n
      have h2 : ∀ x ∈ l.erase n, x < n := fun x hx => by
        have hx' := List.mem_of_mem_erase hx
        have hne : x ≠ n := fun e => by subst e; exact (List.Nodup.not_mem_erase hd) hx
        have := hl x hx'; omega
      have h3 : (l.erase n).length = n := by rw [List.length_erase_of_mem hm]; omega
      by_cases e : i = n
      · rw [e]; exact hm
      · exact List.mem_of_mem_erase (nodup_full h1 h2 h3 i (by omega))
    · exfalso
      have h2 : ∀ x ∈ l, x < n := fun x hx => by
        have := hl x hx
        have hne : x ≠ n := fun e => hm (e ▸ hx)
        omega
      have := nodup_le hd h2
      omega

theorem open_pos {n : Nat} {listed : Array Bool} : 0 < open' n listed ↔ ∃ i, i < n ∧ listed.getD i true = false := by
  unfold open'
  rw [List.length_pos_iff_exists_mem]
  constructor
  · rintro ⟨i, hi⟩
    rw [List.mem_filter] at hi
    exact ⟨i, by simpa using hi.1, by simpa using hi.2⟩
  · rintro ⟨i, h1, h2⟩
    exact ⟨i, List.mem_filter.2 ⟨by simpa using h1, by simpa using h2⟩⟩

theorem open_set {n i : Nat} {listed : Array Bool} (hn : listed.size = n) (hi : i < n) (hl : listed.getD i true = false) : open' n listed = open' n (listed.setIfInBounds i true) + 1 := by
  unfold open'
  have key : ∀ (l : List Nat), l.Nodup → (l.filter fun x => !listed.getD x true).length = (l.filter fun x => !(listed.setIfInBounds i true).getD x true).length + if i ∈ l then 1 else 0 := by
    intro l
    induction l with
    | nil => intro _; simp
    | cons x l ih =>
      intro hd
      rw [List.nodup_cons] at hd
      have ih := ih hd.2
      by_cases e : x = i
      · subst e
        have h1 : (listed.setIfInBounds x true).getD x true = true := by
          rw [Array.getD_eq_getD_getElem?, Array.getElem?_setIfInBounds_self_of_lt (by omega)]; rfl
        have hnm : ¬ x ∈ l := hd.1
        rw [if_neg hnm] at ih
        simp only [List.filter_cons, hl, h1, Bool.not_false, Bool.not_true, if_true, List.length_cons, List.mem_cons, true_or]
        simp only [Bool.false_eq_true, if_false]
        omega
      · have h1 : (listed.setIfInBounds i true).getD x true = listed.getD x true := getD_set_ne true (fun e' => e e'.symm)
        have h2 : (i ∈ x :: l) ↔ i ∈ l := by
          constructor
          · intro h; rcases List.mem_cons.1 h with h | h
            · exact absurd h.symm e
            · exact h
          · exact fun h => List.mem_cons_of_mem _ h
        have h3 : (if i ∈ x :: l then 1 else 0) = (if i ∈ l then 1 else 0) := by by_cases q : i ∈ l <;> simp [h2, q]
        rw [h3]
        generalize (if i ∈ l then 1 else 0) = c at ih ⊢
        rw [List.filter_cons, List.filter_cons, h1]
        cases hq : listed.getD x true with
        | true => simp only [Bool.not_true, Bool.false_eq_true, if_false]; exact ih
        | false => simp only [Bool.not_false, if_true, List.length_cons]; omega
  have := key (List.range n) List.nodup_range
  rw [if_pos (by simpa using hi)] at this
  exact this

theorem go_len {md : Region.Mode} {ops : Array Oper} (hord : ∃ l0, Seqn md ops (Array.replicate ops.size false) l0 ∧ l0.length = ops.size) : ∀ (fuel t : Nat) (listed : Array Bool), listed.size = ops.size → open' ops.size listed ≤ fuel → (Region.linearise.go md ops fuel t listed []).length = open' ops.size listed
  | 0, t, listed, hs, hf => by simp [Region.linearise.go]; omega
  | fuel + 1, t, listed, hs, hf => by
    simp only [Region.linearise.go]
    change (match (Region.ready md ops listed)[t % (Region.ready md ops listed).length]? with
      | some i => Region.linearise.go md ops fuel (t / (Region.ready md ops listed).length) (listed.setIfInBounds i true) [i]
      | none => [].reverse).length = _
    by_cases ho : 0 < open' ops.size listed
    · obtain ⟨l0, h1, h2⟩ := hord
      have hm := h1.mem (by simp)
      have hfull := nodup_full hm.2 (fun i hi => (hm.1 i hi).1) h2
      obtain ⟨i, hi⟩ := ready_of_order h1 (fun i hi h => by
        rw [Array.getD_eq_getD_getElem?, Array.getElem?_replicate, if_pos hi] at h; cases h) (by simp) hs (fun i hi _ => hfull i hi) (open_pos.1 ho)
      have hpos : 0 < (Region.ready md ops listed).length := List.length_pos_iff_exists_mem.2 ⟨i, hi⟩
      have hlt := Nat.mod_lt t hpos
      rw [List.getElem?_eq_getElem hlt]
      simp only
      have hr := ready_iff.1 (List.getElem_mem hlt)
      rw [linearise_go_acc]
      have hop := open_set hs hr.1 hr.2.1
      have ih := go_len ⟨l0, h1, h2⟩ fuel (t / (Region.ready md ops listed).length) (listed.setIfInBounds ((Region.ready md ops listed)[t % (Region.ready md ops listed).length]) true) (by simpa using hs) (by omega)
      simp only [List.reverse_cons, List.reverse_nil, List.nil_append, List.singleton_append, List.length_cons, ih]
      omega
    · have h0 : open' ops.size listed = 0 := by omega
      have hnil : Region.ready md ops listed = [] := by
        rw [List.eq_nil_iff_forall_not_mem]
        intro i hi
        have hr := ready_iff.1 hi
        exact ho (open_pos.2 ⟨i, hr.1, hr.2.1⟩)
      rw [hnil, h0]
      simp

/-- every schedule is whole, if one is -/
theorem linearise_ok {md : Region.Mode} {ops : Array Oper} (h : (Region.linearise md ops 0).length = ops.size) (t : Nat) :
    Seqn md ops (Array.replicate ops.size false) (Region.linearise md ops t) ∧ (Region.linearise md ops t).length = ops.size := by
  refine ⟨go_seqn _ _ _, ?_⟩
  have hopen : open' ops.size (Array.replicate ops.size false) = ops.size := by
    unfold open'
    rw [List.filter_eq_self.2 (fun i hi => by
      have : i < ops.size := by simpa using hi
      rw [Array.getD_eq_getD_getElem?, Array.getElem?_replicate, if_pos this]; rfl)]
    simp
  have := go_len (md := md) (ops := ops) ⟨_, go_seqn ops.size 0 _, h⟩ ops.size t (Array.replicate ops.size false) (by simp) (by omega)
  rw [hopen] at this
  exact this
end Go.Mia
namespace Go.Mia
open Go

theorem fold_bits (acc : Array Nat) : ∀ (l : List Edge) (s : Nat) (j : Nat), (l.foldl (fun s e => if Region.binds .any e then s ||| 2 ^ e.on ||| acc.getD e.on 0 else s) s).testBit j = true →
    s.testBit j = true ∨ ∃ e ∈ l, Region.binds .any e = true ∧ (j = e.on ∨ (acc.getD e.on 0).testBit j = true)
  | [], s, j, h => .inl h
  | e :: l, s, j, h => by
    simp only [List.foldl_cons] at h
    rcases fold_bits acc l _ j h with h1 | ⟨e', he', hb, hj⟩
    · split at h1
      · rename_i hb
        simp only [Nat.testBit_or, Bool.or_eq_true] at h1
        rcases h1 with (h1 | h1) | h1
        · exact .inl h1
        · right
          refine ⟨e, by simp, hb, .inl ?_⟩
          rw [Nat.testBit_two_pow] at h1
          exact (by simpa using h1 : e.on = j).symm
        · exact .inr ⟨e, by simp, hb, .inr h1⟩
      · exact .inl h1
    · exact .inr ⟨e', by simp [he'], hb, hj⟩

def stepB (acc : Array Nat) (o : Oper) : Array Nat := acc.push (o.after.foldl (fun s e => if Region.binds .any e then s ||| 2 ^ e.on ||| acc.getD e.on 0 else s) 0)

/-- what the ancestors are -/
def AncOk (ops : List Oper) (acc : Array Nat) : Prop :=
  acc.size ≤ ops.length ∧ ∀ i j, (acc.getD i 0).testBit j = true → ∃ o, ops[i]? = some o ∧ ∃ e ∈ o.after, Region.binds .any e = true ∧ (j = e.on ∨ (e.on < i ∧ (acc.getD e.on 0).testBit j = true))

theorem anc_step {ops : List Oper} {acc : Array Nat} {o : Oper} (h : AncOk ops acc) (ho : ops[acc.size]? = some o) : AncOk ops (stepB acc o) := by
  have hlt : acc.size < ops.length := (List.getElem?_eq_some_iff.1 ho).1
  refine ⟨by simp [stepB]; omega, fun i j hj => ?_⟩
  have hget : ∀ i, i < acc.size → (stepB acc o).getD i 0 = acc.getD i 0 := by
    intro i hi
    rw [Array.getD_eq_getD_getElem?, Array.getD_eq_getD_getElem?, stepB, Array.getElem?_push, if_neg (by omega)]
  have hbig : ∀ i, (acc.getD i 0).testBit j = true → i < acc.size := by
    intro i hi
    rcases Nat.lt_or_ge i acc.size with q | q
    · exact q
    · rw [Array.getD_eq_getD_getElem?, Array.getElem?_eq_none q] at hi; simp at hi
  rcases Nat.lt_trichotomy i acc.size with q | q | q
  · rw [hget i q] at hj
    obtain ⟨o', h1, e, h2, h3, h4⟩ := h.2 i j hj
    refine ⟨o', h1, e, h2, h3, h4.imp id fun h5 => ⟨h5.1, ?_⟩⟩
    rw [hget _ (by omega)]; exact h5.2
  · subst q
    have : (stepB acc o).getD acc.size 0 = o.after.foldl (fun s e => if Region.binds .any e then s ||| 2 ^ e.on ||| acc.getD e.on 0 else s) 0 := by
      rw [Array.getD_eq_getD_getElem?, stepB, Array.getElem?_push, if_pos rfl]; rfl
    rw [this, ← Array.foldl_toList] at hj
    rcases fold_bits acc o.after.toList 0 j hj with h1 | ⟨e, h1, h2, h3⟩
    · simp at h1
    · refine ⟨o, ho, e, by simpa using h1, h2, h3.imp id fun h5 => ⟨hbig _ h5, ?_⟩⟩
      rw [hget _ (hbig _ h5)]; exact h5
  · exfalso
    rw [Array.getD_eq_getD_getElem?, Array.getElem?_eq_none (by simp [stepB]; omega)] at hj
    simp at hj

theorem anc_fold {ops : List Oper} : ∀ (l : List Oper) (acc : Array Nat), AncOk ops acc → ops.drop acc.size = l → AncOk ops (l.foldl stepB acc)
  | [], acc, h, _ => h
  | o :: l, acc, h, hd => by
    have ho : ops[acc.size]? = some o := by
      have := congrArg List.head? hd
      rw [List.head?_drop] at this
      simpa using this
    refine anc_fold l (stepB acc o) (anc_step h ho) ?_
    have := congrArg List.tail hd
    rw [List.tail_drop] at this
    simpa [stepB] using this

theorem before_ok (ops : Array Oper) : AncOk ops.toList (Region.before ops) := by
  have h := anc_fold (ops := ops.toList) ops.toList #[] ⟨by simp, fun i j hj => by simp at hj⟩ (by simp)
  have e : Region.before ops = ops.toList.foldl stepB #[] := by
    rw [Array.foldl_toList]; rfl
  rw [e]; exact h

/-- what is closed under edges is closed under what comes before -/
theorem before_closed {ops : Array Oper} {S : Nat → Prop} (hS : ∀ (i : Nat) (o : Oper), S i → ops[i]? = some o → ∀ e ∈ o.after, Region.binds .any e = true → S e.on) : ∀ (i j : Nat), ((Region.before ops).getD i 0).testBit j = true →
    (∀ o, ops[i]? = some o → ∀ e ∈ o.after, Region.binds .any e = true → S e.on) → S j := by
  intro i
  induction i using Nat.strongRecOn with
  | _ i ih =>
    intro j hj hi
    obtain ⟨o, h1, e, h2, h3, h4⟩ := (before_ok ops).2 i j hj
    have ho : ops[i]? = some o := by simpa using h1
    have hse := hi o ho e h2 h3
    rcases h4 with rfl | ⟨hlt, h5⟩
    · exact hse
    · exact ih e.on hlt j h5 fun o' ho' e' he' hb' => hS e.on o' hse ho' e' he' hb'

theorem before_lt {ops : Array Oper} (h : edgesBack ops = true) : ∀ (i j : Nat), ((Region.before ops).getD i 0).testBit j = true → j < i := by
  intro i
  induction i using Nat.strongRecOn with
  | _ i ih =>
    intro j hj
    obtain ⟨o, h1, e, h2, h3, h4⟩ := (before_ok ops).2 i j hj
    have ho : ops[i]? = some o := by simpa using h1
    have hi : i < ops.size := (Array.getElem?_eq_some_iff.1 ho).1
    unfold edgesBack at h
    rw [List.all_eq_true] at h
    have := h i (by simpa using hi)
    rw [ho] at this
    simp only [Array.all_eq_true'] at this
    have := this e h2
    simp only [h3, Bool.not_true, Bool.false_or, decide_eq_true_eq] at this
    rcases h4 with rfl | ⟨hlt, h5⟩
    · exact this
    · have := ih e.on hlt j h5; omega
end Go.Mia
namespace Go.Mia
open Go

/-- a schedule of what remains: what comes next may be pulled to the front -/
inductive Sched (b : List Nat) : List (Nat × IOper) → List Nat → Prop
  | nil : Sched b [] []
  | cons {L1 L2 : List (Nat × IOper)} {i : Nat} {o : IOper} {l : List Nat} (h : ∀ x ∈ L1, x.1 ≠ i ∧ cmp b x.1 i = false) (t : Sched b (L1 ++ L2) l) : Sched b (L1 ++ (i, o) :: L2) (i :: l)

theorem sched_text (b : List Nat) : ∀ (os : List IOper) (n : Nat), Sched b (number n os) (List.range' n os.length)
  | [], n => .nil
  | o :: os, n => by
    have := Sched.cons (b := b) (L1 := []) (L2 := number (n + 1) os) (i := n) (o := o) (l := List.range' (n + 1) os.length) (by simp) (by simpa using sched_text b os (n + 1))
    simpa [number, List.range'_succ] using this

theorem number_sorted : ∀ (os : List IOper) (n : Nat), (number n os).Pairwise (fun x y => x.1 < y.1) ∧ ∀ x ∈ number n os, n ≤ x.1 ∧ x.1 < n + os.length
  | [], n => ⟨.nil, by simp [number]⟩
  | o :: os, n => by
    obtain ⟨h1, h2⟩ := number_sorted os (n + 1)
    refine ⟨?_, ?_⟩
    · simp only [number]
      exact List.Pairwise.cons (fun y hy => by have := (h2 y hy).1; omega) h1
    · intro x hx
      simp only [number] at hx
      rcases List.mem_cons.1 hx with rfl | hx
      · simp
      · have := h2 x hx; simp; omega

def remOf (os : List IOper) (listed : Array Bool) : List (Nat × IOper) := (number 0 os).filter fun x => !listed.getD x.1 true

theorem sched_draw {md : Region.Mode} {ops : Array Oper} {os : List IOper} (hb : edgesBack ops = true) (hlen : os.length = ops.size) : ∀ {l : List Nat} {listed : Array Bool}, Seqn md ops listed l → listed.size = ops.size → l.length = (remOf os listed).length →
    (∀ (i : Nat) (o : Oper), listed.getD i false = true → ops[i]? = some o → ∀ e ∈ o.after, Region.binds .any e = true → listed.getD e.on false = true) → Sched (anc ops.toList) (remOf os listed) l := by
  intro l
  induction l with
  | nil =>
    intro listed hs hsz hl hc
    have : remOf os listed = [] := List.eq_nil_of_length_eq_zero (by simpa using hl.symm)
    rw [this]; exact .nil
  | cons i l ih =>
    intro listed hs hsz hl hc
    cases hs with
    | cons h t =>
      obtain ⟨hi, hli, o, ho, he⟩ := ready_iff.1 h
      have hany : ∀ e, Region.binds .any e = true → Region.binds md e = true := by
        intro e h; unfold Region.binds at h ⊢; split at h <;> simp_all
      obtain ⟨x, hx⟩ : ∃ x, os[i]? = some x := ⟨os[i]'(by omega), List.getElem?_eq_getElem (by omega)⟩
      have hm : (i, x) ∈ remOf os listed := by
        refine List.mem_filter.2 ⟨List.mem_of_getElem? (number_get.2 ⟨hx, by simp⟩), by simp [hli]⟩
      obtain ⟨L1, L2, hsplit⟩ := List.append_of_mem hm
      have hsort : (remOf os listed).Pairwise (fun x y => x.1 < y.1) := (number_sorted os 0).1.filter _
      rw [hsplit] at hsort
      have hlt : ∀ y ∈ L1, y.1 < i := fun y hy => (List.pairwise_append.1 hsort).2.2 y hy (i, x) (by simp)
      have hgt : ∀ y ∈ L2, i < y.1 := fun y hy => (List.pairwise_cons.1 (List.pairwise_append.1 hsort).2.1).1 y hy
      have hset : remOf os (listed.setIfInBounds i true) = L1 ++ L2 := by
        have hfil : remOf os (listed.setIfInBounds i true) = (remOf os listed).filter fun y => decide (y.1 ≠ i) := by
          unfold remOf
          rw [List.filter_filter]
          congr 1
          funext y
          by_cases e : y.1 = i
          · rw [e]
            have : (listed.setIfInBounds i true).getD i true = true := by
              rw [Array.getD_eq_getD_getElem?, Array.getElem?_setIfInBounds_self_of_lt (by omega)]; rfl
            rw [this]; simp
          · rw [getD_set_ne true (fun e' => e e'.symm)]; simp [e]
        rw [hfil, hsplit, List.filter_append, List.filter_cons]
        have h1 : L1.filter (fun y => decide (y.1 ≠ i)) = L1 := List.filter_eq_self.2 fun y hy => by have := hlt y hy; simp; omega
        have h2 : L2.filter (fun y => decide (y.1 ≠ i)) = L2 := List.filter_eq_self.2 fun y hy => by have := hgt y hy; simp; omega
        rw [h1, h2]
        simp
      have hrest := ih t (by simpa using hsz) (by rw [hset]; rw [hsplit] at hl; simp at hl ⊢; omega) (fun n o' hn ho' e hee hbe => by
        by_cases q : n = i
        · subst q
          rw [ho] at ho'; injection ho' with ho'; subst ho'
          exact getD_set_true (he e hee (hany e hbe))
        · rw [getD_set_ne false (fun e' => q e'.symm)] at hn
          exact getD_set_true (hc n o' hn ho' e hee hbe))
      rw [hset] at hrest
      rw [hsplit]
      refine .cons (fun y hy => ⟨by have := hlt y hy; omega, ?_⟩) hrest
      have hb1 : before (anc ops.toList) y.1 i = false := by
        cases hbb : before (anc ops.toList) y.1 i with
        | false => rfl
        | true =>
          have hbit : ((Region.before ops).getD i 0).testBit y.1 = true := by
            unfold before anc at hbb
            simpa [List.getD_eq_getElem?_getD, Array.getD_eq_getD_getElem?] using hbb
          have hS := before_closed (S := fun n => listed.getD n false = true) (fun n o' hn ho' e hee hbe => hc n o' hn ho' e hee hbe) i y.1 hbit (fun o' ho' e hee hbe => by
            rw [ho] at ho'; injection ho' with ho'; subst ho'
            exact he e hee (hany e hbe))
          have hy' : y ∈ remOf os listed := by rw [hsplit]; simp [hy]
          have := (List.mem_filter.1 hy').2
          have hyl : y.1 < listed.size := by have := hlt y hy; omega
          simp only [Bool.not_eq_true'] at this
          rw [Array.getD_eq_getD_getElem?, Array.getElem?_eq_getElem hyl] at this hS
          simp at this hS
          rw [this] at hS; cases hS
      have hb2 : before (anc ops.toList) i y.1 = false := by
        cases hbb : before (anc ops.toList) i y.1 with
        | false => rfl
        | true =>
          have hbit : ((Region.before ops).getD y.1 0).testBit i = true := by
            unfold before anc at hbb
            simpa [List.getD_eq_getElem?_getD, Array.getD_eq_getD_getElem?] using hbb
          have := before_lt hb y.1 i hbit
          have := hlt y hy
          omega
      unfold cmp; rw [hb1, hb2]; rfl

/-- every order that is drawn -/
theorem sched_any {P : Program} {ops : Array Oper} {os : List IOper} (h : schedOk ops = true) (hlen : os.length = ops.size) (t : Nat) : Sched (anc ops.toList) (number 0 os) (Region.schedule (P.follows .mixedOrders) ops t) := by
  unfold schedOk at h
  rw [Bool.and_eq_true] at h
  obtain ⟨hb, hl⟩ := h
  simp only [List.all_cons, List.all_nil, Bool.and_true, Bool.and_eq_true, beq_iff_eq] at hl
  have hall : remOf os (Array.replicate ops.size false) = number 0 os := by
    refine List.filter_eq_self.2 fun x hx => ?_
    have := (number_sorted os 0).2 x hx
    rw [Array.getD_eq_getD_getElem?, Array.getElem?_replicate, if_pos (by omega)]; rfl
  have hnl : (number 0 os).length = os.length := by
    have : ∀ (os : List IOper) (n : Nat), (number n os).length = os.length := by
      intro os; induction os with
      | nil => intro n; rfl
      | cons o os ih => intro n; simp [number, ih]
    exact this os 0
  have key : ∀ md, (Region.linearise md ops 0).length = ops.size → ∀ t, Sched (anc ops.toList) (number 0 os) (Region.linearise md ops t) := by
    intro md hm t
    obtain ⟨h1, h2⟩ := linearise_ok hm t
    have := sched_draw (os := os) hb hlen h1 (by simp) (by rw [hall, hnl, h2, hlen]) (fun i o hi _ => by
      exfalso
      rw [Array.getD_eq_getD_getElem?, Array.getElem?_replicate] at hi
      split at hi <;> cases hi)
    rw [hall] at this
    exact this
  unfold Region.schedule
  split
  · exact key _ hl.1 _
  · split
    · exact key _ hl.2.1 _
    · exact key _ hl.2.2 _
end Go.Mia
