import Derived.Test.YteehkgkgpogffaaGreatDoorMiaD
set_option linter.unusedSimpArgs false
set_option linter.unusedVariables false
set_option linter.unusedSectionVars false
namespace Go.Mia
open Go

/-- what a frame made is forgotten, but for the right of its result -/
def forget (k : K) (δ : Nat) (t : Option Nat) : K where
  w := k.w
  β := fun d i => if d < δ then k.β d i else none
  sp := fun h => match h with
    | .tok d u => if d < δ then k.sp h else if d = δ ∧ u = 0 then t.bind fun x => k.sp (.tok δ x) else none
    | .cell d _ _ => if d < δ then k.sp h else none

section
variable {P : Program} {pol : Pol} {k0 k : K} {δ : Nat} {cx : Cx} {B T : Nat → Prop} {st : St} {df : List IDefer} {fr c0 c : Frame} {t : Option Nat}

def Hold.level : Hold → Nat
  | .tok d _ => d
  | .cell d _ _ => d

theorem forget_sp {h : Hold} {q : Nat × Nat} (hq : (forget k δ t).sp h = some q) : (h = .tok δ 0 ∧ ∃ x, t = some x ∧ k.sp (.tok δ x) = some q) ∨ (h.level < δ ∧ k.sp h = some q) := by
  cases h with
  | tok d u =>
    simp only [forget] at hq
    split at hq
    · exact .inr ⟨by assumption, hq⟩
    · split at hq
      · rename_i e
        obtain ⟨rfl, rfl⟩ := e
        cases t with
        | none => simp at hq
        | some x => exact .inl ⟨rfl, x, rfl, by simpa using hq⟩
      · cases hq
  | cell d i off =>
    simp only [forget] at hq
    split at hq
    · exact .inr ⟨by assumption, hq⟩
    · cases hq
theorem forget_β {d i b : Nat} (hb : (forget k δ t).β d i = some b) : d < δ ∧ k.β d i = some b := by
  simp only [forget] at hb
  split at hb
  · exact ⟨by assumption, hb⟩
  · cases hb
theorem forget_low {h : Hold} (hl : h.level < δ) : (forget k δ t).sp h = k.sp h := by
  cases h <;> simp only [forget, Hold.level] at hl ⊢ <;> rw [if_pos hl]
theorem forget_β_low {d i : Nat} (hl : d < δ) : (forget k δ t).β d i = k.β d i := by simp only [forget]; rw [if_pos hl]

theorem forget_laterC : LaterC k (forget k δ t) := by
  intro b off v h
  refine ⟨h.cell, fun d i e => h.box d i (forget_β e).2, fun x o hx => ?_⟩
  rcases forget_sp hx with ⟨_, x, _, h1⟩ | ⟨_, h1⟩
  · exact h.sp _ o h1
  · exact h.sp _ o h1

theorem forget_held {h : Hold} {a : Option Addr} {len cap s : Nat} (hl : h.level < δ) (H : HeldAt k h a len cap s) : HeldAt (forget k δ t) h a len cap s := by
  rcases H with ⟨b, o, h1, h2⟩ | ⟨h1, h2⟩
  · exact .inl ⟨b, o, (forget_low hl).trans h1, h2⟩
  · exact .inr ⟨h1, (forget_low hl).trans h2⟩

theorem forget_obj {d i b : Nat} (hd : d < δ) {o : Obj} (h : ObjRel P pol k d i b o) : ObjRel P pol (forget k δ t) d i b o := by
  have LN : LaterN d k (forget k δ t) := ⟨fun d' i' b' hd' hb => by rw [forget_β_low (by omega)]; exact hb, forget_laterC⟩
  cases o with
  | none => trivial
  | cells ds =>
    obtain ⟨cs, e, f, h1, h2, h3, h4⟩ := h
    refine ⟨cs, e, f, h1, h2, h3, fun j x hx => ?_⟩
    obtain ⟨q1, q2, q3, q4⟩ := h4 j x hx
    exact ⟨q1.laterN LN q4, q2.moved (forget_low hd) (fun a len cap s H => forget_held hd H), q3, q4⟩
  | loop r =>
    obtain ⟨l, h1, q1, q2, q3, q4, q5, q6⟩ := h
    refine ⟨l, h1, q1, q2, q3, q4, q5, fun x => ⟨?_, (q6 x).2⟩⟩
    rcases (q6 x).2.2 with hu | hu
    · exact (q6 x).1.laterN LN hu
    · rw [hu]; exact .undef _

/-- What a frame leaves. -/
theorem Base.left (h : Base P pol k0 k cx B T st df fr c0 c) (U : ∀ d i, cx.δ ≤ d → k0.β d i = none) (out : Out) : Left P pol cx.δ k0 (forget k cx.δ t) (retOf cx st out) := by
  have g := h.rel.good
  have E := h.ext
  refine ⟨h.rel.low, ?_, ?_, ?_, ?_, ?_⟩
  · show Ext cx.δ st.low k0 (forget k cx.δ t)
    exact {
      later := ⟨fun d i b hb => by
          have hd : d < cx.δ := by
            rcases Nat.lt_or_ge d cx.δ with h1 | h1
            · exact h1
            · rw [U d i h1] at hb; cases hb
          rw [forget_β_low hd]; exact E.later.β d i b hb, fun b off v hc => forget_laterC b off v (E.later.const b off v hc)⟩
      size := E.size, os := E.os, tape := E.tape, output := E.output, other := E.other
      nobox := fun b hb h1 h2 => by
        obtain ⟨n1, n2⟩ := E.nobox b hb h1 h2
        refine ⟨fun d i e => n1 d i (forget_β e).2, fun x o hx => ?_⟩
        rcases forget_sp hx with ⟨_, x, _, h1⟩ | ⟨_, h1⟩
        · exact n2 _ o h1
        · exact n2 _ o h1
      boxes := E.boxes
      cells := fun d i off hd => (forget_low (h := .cell d i off) (show d < cx.δ by have := h.rel.low; omega)).trans (E.cells d i off hd)
      toks := fun d u hd => (forget_low (h := .tok d u) hd).trans (E.toks d u hd)
      lv := fun d i hd => (forget_β_low hd).trans (E.lv d i hd)
      shape := E.shape }
  · refine ⟨fun d i d' i' b h1 h2 => g.inj _ _ _ _ b (forget_β h1).2 (forget_β h2).2, fun d i b h1 => g.lt d i b (forget_β h1).2, fun x b o hx => ?_, fun x y b o o' hx hy => ?_, fun d i b x o hb hx => ?_, fun d i off r hr => ?_⟩
    · rcases forget_sp hx with ⟨_, x, _, h1⟩ | ⟨_, h1⟩ <;> exact g.splt _ b o h1
    · rcases forget_sp hx with ⟨e1, x1, e2, h1⟩ | ⟨e1, h1⟩ <;> rcases forget_sp hy with ⟨f1, y1, f2, h2⟩ | ⟨f1, h2⟩
      · rw [e1, f1]
      · have := g.spinj _ _ b o o' h1 h2
        subst this
        simp [Hold.level] at f1
      · have := g.spinj _ _ b o o' h1 h2
        subst this
        simp [Hold.level] at e1
      · exact g.spinj _ _ b o o' h1 h2
    · rcases forget_sp hx with ⟨_, x, _, h1⟩ | ⟨_, h1⟩ <;> exact g.disj d i b _ o (forget_β hb).2 h1
    · rcases forget_sp hr with ⟨e, _⟩ | ⟨e, h1⟩
      · cases e
      · obtain ⟨b, hb⟩ := g.cb d i off r h1
        exact ⟨b, by rw [forget_β_low (show d < cx.δ from e)]; exact hb⟩
  · unfold retOf
    split
    · rename_i S' e
      dsimp only at e ⊢
      split at e
      · cases e
      · have := h.rel.low; show st.low = cx.δ; omega
    · rename_i S' e
      dsimp only at e
      split at e
      · simp only [Option.some.injEq] at e
        subst e
        intro d i b hd hb
        have := h.rel.store d i b (forget_β hb).2
        unfold trim
        rw [if_pos hd]
        exact forget_obj hd this
      · cases e
  · intro d i hd
    simp only [forget]
    rw [if_neg (by omega)]
  · intro d u hd hne
    simp only [forget]
    rw [if_neg (by omega), if_neg hne]
end
end Go.Mia
namespace Go.Mia
open Go

section
variable {P : Program} {pol : Pol} {k : K} {δ : Nat} {st : St} {S : Store} {t : Option Nat}

theorem expD_one {n : Nat} {d d' : D} (h : expD S δ n d = some d') (h1 : d.cells = [d]) : d'.cells = [d'] := by
  cases n with
  | zero => simp [expD] at h
  | succ n =>
    cases d <;> simp only [expD] at h
    case ptr d i off =>
      split at h
      · simp only [Option.some.injEq] at h; subst h; rfl
      · split at h
        · split at h
          · split at h
            · simp only [Option.some.injEq] at h; subst h; rfl
            · cases h
          · cases h
        · cases h
    case fn f a b =>
      split at h
      · simp only [Option.some.injEq] at h; subst h; rfl
      · cases h
    case vsl d i off len s c =>
      split at h
      · simp only [Option.some.injEq] at h; subst h; rfl
      · split at h
        · split at h
          · simp only [Option.some.injEq] at h; subst h; rfl
          · cases h
        · cases h
    case yld d i =>
      split at h
      · simp only [Option.some.injEq] at h; subst h; rfl
      · cases h
    case agg cs => exact absurd h1 (not_self _)
    case tup => cases h
    case iface t v =>
      simp only [Option.map_eq_some_iff] at h
      obtain ⟨_, _, rfl⟩ := h
      rfl
    all_goals (simp only [Option.some.injEq] at h; subst h; first | rfl | exact h1)

theorem expD_val {n : Nat} {d d' : D} (h : expD S δ n d = some d') (h1 : d.isVal = true) : d'.isVal = true := by
  cases n with
  | zero => simp [expD] at h
  | succ n =>
    cases d <;> simp only [expD] at h
    case ptr d i off =>
      split at h
      · simp only [Option.some.injEq] at h; subst h; rfl
      · split at h
        · split at h
          · split at h
            · simp only [Option.some.injEq] at h; subst h; rfl
            · cases h
          · cases h
        · cases h
    case fn f a b =>
      split at h
      · simp only [Option.some.injEq] at h; subst h; rfl
      · cases h
    case vsl d i off len s c =>
      split at h
      · simp only [Option.some.injEq] at h; subst h; rfl
      · split at h
        · split at h
          · simp only [Option.some.injEq] at h; subst h; rfl
          · cases h
        · cases h
    case yld d i =>
      split at h
      · simp only [Option.some.injEq] at h; subst h; rfl
      · cases h
    case agg cs =>
      simp only [Option.map_eq_some_iff] at h
      obtain ⟨_, _, rfl⟩ := h
      rfl
    case tup => cases h
    case iface t v =>
      simp only [Option.map_eq_some_iff] at h
      obtain ⟨_, _, rfl⟩ := h
      rfl
    all_goals (simp only [Option.some.injEq] at h; subst h; first | rfl | exact h1)

/-- the cells of a box that is left are constants -/
theorem forget_const (g : Good k) (hs : StoreRel P pol k S) {d i b : Nat} {cs : List D} (hd : ¬ d < δ) (hb : k.β d i = some b) (hS : S d i = .cells cs) :
    ∃ arr : Array Value, cs.length ≤ arr.size ∧ (∀ j, j < arr.size → (forget k δ t).Const b j (arr.getD j undef)) ∧ ∀ j x, cs[j]? = some x → Rep k (arr.getD j undef) x ∧ x.cells = [x] := by
  have := hs d i b hb
  rw [hS] at this
  obtain ⟨arr, e, f, h1, h2, h3, h4⟩ := this
  refine ⟨arr, h2, fun j hj => ⟨?_, fun d' i' hb' => ?_, fun x o hx => ?_⟩, fun j x hx => ⟨(h4 j x hx).1, (h4 j x hx).2.2.1⟩⟩
  · show k.w.cell? ⟨b, j, none⟩ = _
    unfold World.cell?
    simp only [h1, Array.getD_eq_getD_getElem?, Array.getElem?_eq_getElem hj]
    rfl
  · obtain ⟨h5, h6⟩ := forget_β hb'
    have := (g.inj _ _ _ _ b hb h6).1
    omega
  · rcases forget_sp hx with ⟨_, _, _, h5⟩ | ⟨_, h5⟩ <;> exact (g.disj d i b _ o hb h5).elim

theorem expD_rep (g : Good k) (hs : StoreRel P pol k S) : ∀ n : Nat,
    (∀ (v : Value) (d d' : D), Rep k v d → expD S δ n d = some d' → Rep (forget k δ t) v d') ∧
    ∀ (ds ds' : List D), expDs S δ n ds = some ds' → ds'.length = ds.length ∧ (∀ (j : Nat) (d' : D), ds'[j]? = some d' → ∃ d, ds[j]? = some d ∧ (d.cells = [d] → d'.cells = [d']) ∧ (d.isVal = true → d'.isVal = true)) ∧
      ∀ vs : Nat → Value, (∀ j d, ds[j]? = some d → Rep k (vs j) d) → ∀ j d', ds'[j]? = some d' → Rep (forget k δ t) (vs j) d' := by
  intro n
  induction n with
  | zero => exact ⟨fun v d d' _ h => by simp [expD] at h, fun ds ds' h => by simp [expDs] at h⟩
  | succ n ih =>
    refine ⟨fun v d d' hr h => ?_, fun ds ds' h => ?_⟩
    · have hc := forget_laterC (k := k) (δ := δ) (t := t)
      cases d <;> simp only [expD] at h
      case ptr d i off =>
        obtain ⟨b, hb, rfl⟩ := Rep.inv_ptr hr
        split at h
        · rename_i hd
          simp only [Option.some.injEq] at h; subst h
          exact .ptr (by rw [forget_β_low hd]; exact hb)
        · rename_i hd
          split at h
          · rename_i cs hS
            split at h
            · rename_i cs' hcs
              split at h
              · rename_i hp
                simp only [Option.some.injEq] at h; subst h
                obtain ⟨arr, a1, a2, a3⟩ := forget_const (t := t) g hs hd hb hS
                obtain ⟨e1, e2, e3⟩ := ih.2 _ _ hcs
                have hlen : cs'.length = cs.length - off := by rw [e1]; simp
                have hget : ∀ j d, (cs.drop off)[j]? = some d → cs[off + j]? = some d := fun j d hd => by simpa using hd
                refine .cptr b off (fun j => arr.getD (off + j) undef) (pures_of fun d hd => ?_) (fun d hd => ?_) (fun j hj => a2 (off + j) ?_) (fun j d hd => ?_)
                · obtain ⟨x, hx, rfl⟩ := List.mem_map.1 hd
                  rw [degr1_pure]; exact pures_mem hp x hx
                · obtain ⟨x, hx, rfl⟩ := List.mem_map.1 hd
                  obtain ⟨j, hj⟩ := List.getElem?_of_mem hx
                  obtain ⟨y, hy, hyy, _⟩ := e2 j x hj
                  exact degr1_one (hyy (a3 _ _ (hget j y hy)).2)
                · simp at hj; omega
                · simp only [List.getElem?_map, Option.map_eq_some_iff] at hd
                  obtain ⟨x, hx, rfl⟩ := hd
                  exact (e3 (fun j => arr.getD (off + j) undef) (fun j d hd => (a3 _ _ (hget j d hd)).1) j x hx).degr1
              · cases h
            · cases h
          · cases h
      case fn f a b =>
        split at h
        · rename_i a' b' ha hb
          simp only [Option.some.injEq] at h; subst h
          cases hr with
          | fn vs us hv hu ra rb =>
            obtain ⟨p1, _, p3⟩ := ih.2 _ _ ha
            obtain ⟨q1, _, q3⟩ := ih.2 _ _ hb
            exact .fn vs us (hv.trans p1.symm) (hu.trans q1.symm) (p3 (fun j => vs.getD j undef) ra) (q3 (fun j => us.getD j undef) rb)
        · cases h
      case vsl d i off len s c =>
        split at h
        · rename_i hd
          simp only [Option.some.injEq] at h; subst h
          cases hr with
          | vsl hle hc' ha =>
            refine .vsl hle hc' fun h0 => ?_
            obtain ⟨b, hb, e⟩ := ha h0
            exact ⟨b, by rw [forget_β_low hd]; exact hb, e⟩
        · rename_i hd
          split at h
          · rename_i cs hS
            split at h
            · rename_i hl
              simp only [Option.some.injEq] at h; subst h
              cases hr with
              | @vsl _ _ _ _ _ _ a cap hle hc' ha =>
                by_cases h0 : 0 < c
                · obtain ⟨b, hb, e⟩ := ha h0
                  obtain ⟨arr, a1, a2, a3⟩ := forget_const (t := t) g hs hd hb hS
                  have hdr : ((cs.drop off).map D.degr1).length = cs.length - off := by simp
                  have hone : ∀ c ∈ (cs.drop off).map D.degr1, c.cells = [c] := fun c hc => by
                    obtain ⟨x, hx, rfl⟩ := List.mem_map.1 hc
                    obtain ⟨j, hj⟩ := List.getElem?_of_mem (List.mem_of_mem_drop hx)
                    exact degr1_one (a3 j x hj).2
                  have hpp : D.pures ((cs.drop off).map D.degr1) = true := pures_of fun d hd => by
                    obtain ⟨x, hx, rfl⟩ := List.mem_map.1 hd
                    rw [degr1_pure]; exact pures_mem hl.2 x (List.mem_of_mem_drop hx)
                  obtain ⟨c1, c2⟩ := chunks_ok (s := s) (n := len) (cs := (cs.drop off).map D.degr1) (by rw [hdr]; omega) hone hpp
                  refine .slice b off (fun j => arr.getD (off + j) undef) chunks_len.symm (by omega) (by simp) c2 (fun _ => e) (fun j hj => a2 (off + j) ?_) (fun j d hd => ?_)
                  · rw [c1] at hj
                    simp at hj
                    omega
                  · rw [c1] at hd
                    have hd2 : ((cs.drop off).map D.degr1)[j]? = some d := by
                      rw [List.getElem?_take] at hd
                      split at hd
                      · exact hd
                      · cases hd
                    simp only [List.getElem?_map, Option.map_eq_some_iff, List.getElem?_drop] at hd2
                    obtain ⟨x, hx, rfl⟩ := hd2
                    exact (((a3 _ x hx).1.laterC hc (pures_mem hl.2 x (List.mem_of_getElem? hx)))).degr1
                · have hz : len = 0 := by omega
                  subst hz
                  exact .slice 0 0 (fun _ => undef) rfl (by omega) (by simp) rfl (fun h => by omega) (fun j hj => by simp [chunks] at hj) (fun j d hd => by simp [chunks] at hd)
            · cases h
          · cases h
      case yld d i =>
        split at h
        · rename_i hd
          simp only [Option.some.injEq] at h; subst h
          cases hr with
          | yld hb => exact .yld (by rw [forget_β_low hd]; exact hb)
        · cases h
      case agg cs =>
        simp only [Option.map_eq_some_iff] at h
        obtain ⟨cs', hcs, rfl⟩ := h
        cases hr with
        | agg vs hl h1 hr =>
          obtain ⟨p1, p2, p3⟩ := ih.2 _ _ hcs
          refine .agg vs (hl.trans p1.symm) (fun d hd => ?_) (p3 (fun j => vs.getD j undef) hr)
          obtain ⟨j, hj⟩ := List.getElem?_of_mem hd
          obtain ⟨y, hy, q1, q2⟩ := p2 j d hj
          have := h1 y (List.mem_of_getElem? hy)
          exact ⟨q1 this.1, q2 this.2⟩
      case tup => cases h
      case iface t v =>
        simp only [Option.map_eq_some_iff] at h
        obtain ⟨v', hv, rfl⟩ := h
        cases hr with
        | iface hr => exact .iface (ih.1 _ _ _ hr hv)
      case undef => simp only [Option.some.injEq] at h; subst h; exact .undef _
      all_goals (simp only [Option.some.injEq] at h; subst h; exact hr.laterC hc rfl)
    · cases ds with
      | nil =>
        simp only [expDs, Option.some.injEq] at h; subst h
        exact ⟨rfl, fun j d' h => by simp at h, fun vs _ j d' h => by simp at h⟩
      | cons d ds =>
        simp only [expDs] at h
        split at h
        · cases h
        · rename_i d' hd
          split at h
          · cases h
          · rename_i ds'' hds
            simp only [Option.some.injEq] at h; subst h
            obtain ⟨p1, p2, p3⟩ := ih.2 _ _ hds
            refine ⟨by simp [p1], fun j x hx => ?_, fun vs hv j x hx => ?_⟩
            · cases j with
              | zero => simp only [List.getElem?_cons_zero, Option.some.injEq] at hx; subst hx; exact ⟨d, rfl, expD_one hd, expD_val hd⟩
              | succ j => simpa using p2 j x (by simpa using hx)
            · cases j with
              | zero => simp only [List.getElem?_cons_zero, Option.some.injEq] at hx; subst hx; exact ih.1 _ _ _ (hv 0 d (by simp)) hd
              | succ j => exact p3 (fun j => vs (j + 1)) (fun j d hd => hv (j + 1) d (by simpa using hd)) j x (by simpa using hx)
end
end Go.Mia
namespace Go.Mia
open Go

section
variable {P : Program} {pol : Pol} {k k' : K} {cx : Cx} {st : St} {B T : Nat → Prop} {tmps : Array Value} {t : Option Nat}

theorem expD_slice {S : Store} {δ n : Nat} {d : D} {tk : Tk} {s : Nat} {xs : List D} (h : expD S δ n d = some (.slice tk s xs)) : d = .slice tk s xs ∨ tk = .none := by
  cases n with
  | zero => simp [expD] at h
  | succ n =>
    cases d <;> simp only [expD] at h
    case ptr d i off =>
      split at h
      · simp at h
      · split at h
        · split at h
          · split at h <;> simp at h
          · cases h
        · cases h
    case fn f a b => split at h <;> simp at h
    case vsl d i off len s c =>
      split at h
      · simp at h
      · split at h
        · split at h
          · simp only [Option.some.injEq, D.slice.injEq] at h; exact .inr h.1.symm
          · cases h
        · cases h
    case yld d i => split at h <;> simp at h
    case tup => cases h
    case agg => simp at h
    case iface => simp at h
    all_goals (simp only [Option.some.injEq] at h; exact .inl h)

theorem Rep.keep {v : Value} {d : D} {own : Bool} {live : Nat → Bool} (h : Rep k v d) : Rep k v (keepD own live d) := by
  unfold keepD
  split
  · cases h with
    | slice b off vs hl hle hf he ha hc hr =>
      split
      · exact .slice b off vs hl hle (by simp) he ha hc hr
      · exact .slice b off vs hl hle (by simp) he ha hc hr
  · exact h.degr

theorem ResTk.keep {δ : Nat} {v : Value} {d : D} {own : Bool} {live : Nat → Bool} (hr : Rep k' v d) (h : ∀ u s xs, d = .slice (.tok u) s xs → own = true → live u = true → ∀ a len cap, v = .slice a len cap → HeldAt k' (.tok δ 0) a len cap s) : ResTk k' δ v (keepD own live d) := by
  unfold keepD
  split
  · rename_i u s xs
    split
    · rename_i hc
      rw [Bool.and_eq_true] at hc
      cases hr with
      | slice b off vs hl hle hf he ha hc' hr => exact h u s xs rfl hc.1 hc.2 _ _ _ rfl
    · cases v <;> exact trivial
  · rename_i hn
    have := degr_tk d
    generalize hd : d.degr = e at this
    cases e with
    | slice tk s xs =>
      rcases this tk s xs rfl with rfl | rfl <;> cases v <;> exact trivial
    | _ => cases v <;> exact trivial

theorem CellTk.nextNow {δ now : Nat} {live : Nat → Bool} {v : Value} {d : D} (h : CellTk k δ now live v d) : CellTk k δ (now + 1) live v d := by
  unfold CellTk at *
  split <;> simp only at h
  · exact h
  · exact ⟨by omega, fun e => by omega⟩
  · trivial

theorem one_ok (h : FrRel P pol k cx.δ B T st tmps) (L : ∃ j, ¬ B (st.m + j) ∧ ¬ T (st.nt + j)) {r : ResultVar} {ir : IRes} {d : D} (htr : trRes P r = some ir) (he : oneRes cx st ir = some d)
    (ht : cx.own = true → ∀ t0, ir = .tmp t0 → ∀ u s xs, st.σ t0 = .slice (.tok u) s xs → st.live u = true → t = some u) :
    ∃ v, ((match r with | .tmp t => pure (tmps.getD t undef) | .cell a t => do loadVar t (← asAddr (tmps.getD a undef)) : Sem Value)).run P k.w = .ok v k.w ∧ Rep (forget k cx.δ t) v d ∧ ResTk (forget k cx.δ t) cx.δ v d := by
  obtain ⟨j, nB, nT⟩ := L
  have L := h.loc nB nT
  cases r with
  | tmp t0 =>
    simp only [trRes, Option.some.injEq] at htr
    subst htr
    simp only [oneRes, Option.map_eq_some_iff] at he
    obtain ⟨d', hd', rfl⟩ := he
    have hr := (expD_rep (δ := cx.δ) (t := t) L.good L.store FUEL).1 _ _ _ (h.rep t0) hd'
    refine ⟨_, rfl, hr.keep, .keep hr fun u s xs e ho hl a len cap hv => ?_⟩
    rcases expD_slice (e ▸ hd') with e2 | e2
    · have := h.tk t0
      rw [e2, hv] at this
      have hh : HeldAt k (.tok cx.δ u) a len cap s := this hl
      have := ht ho t0 rfl u s xs e2 hl
      subst this
      rcases hh with ⟨b, o, h1, h2⟩ | ⟨h1, h2⟩
      · exact .inl ⟨b, o, by simpa [forget] using h1, h2⟩
      · exact .inr ⟨h1, by simpa [forget] using h2⟩
    · cases e2
  | cell a ty =>
    simp only [trRes] at htr
    split at htr
    · rename_i g s hg hsz
      split at htr
      · rename_i hc
        simp only [Option.some.injEq] at htr
        subst htr
        simp only [oneRes] at he
        split at he
        · rename_i d0 hd0
          simp only [Option.map_eq_some_iff] at he
          obtain ⟨d', hd', rfl⟩ := he
          have L2 : Loc P pol k cx.δ j { st with now := st.now + 1 } B T := { L with }
          have hx : opnd P 0 (.tmp a) = some (.tmp a) := rfl
          -- the operation that would load it
          obtain ⟨v, g1, g2⟩ := load_val (st := { st with now := st.now + 1 }) (a := ⟨tmps, []⟩) (o := { dst := none, op := .load ty (.tmp a), type := 0, after := #[], guard := none, pos := "" }) (x := .tmp a) (agg := g) (s := s) (d := d0) L2 rfl hg hsz (by intro e; subst e; simpa using hc) hx
            (fun s' _ => ⟨h.rep s', (h.tk s').nextNow, h.names s'⟩) hd0
          have hp : ∃ ad, tmps.getD a undef = .pointer (some ad) := by
            have hra := h.rep a
            unfold loadOp at hd0
            split at hd0
            · rename_i e; rw [e] at hra; obtain ⟨b, _, hb⟩ := Rep.inv_ptr hra; exact ⟨_, hb⟩
            · rename_i e; rw [e] at hra
              generalize tmps.getD a undef = va at hra
              cases hra with
              | cptr b off vs => exact ⟨_, rfl⟩
            · cases hd0
          obtain ⟨ad, hp⟩ := hp
          have hrun : (loadVar ty ad).run P k.w = .ok v k.w := by
            have e1 : (⟨tmps, []⟩ : Act).eval (.tmp a) = .pointer (some ad) := hp
            simp only [execOp, Instr.loadAt, e1, Instr.sureAddr] at g1
            cases hl : (loadVar ty ad).run P k.w with
            | ok v' w' => simp [Sem.run_bind, hl] at g1; obtain ⟨rfl, rfl⟩ := g1; rfl
            | halt s' w' => simp [Sem.run_bind, hl] at g1
          have hr := (expD_rep (δ := cx.δ) (t := t) L.good L.store FUEL).1 _ _ _ g2.rep hd'
          refine ⟨v, ?_, hr.keep, .keep hr fun u s xs e ho => by cases ho⟩
          simp only [hp, asAddr]
          simpa using hrun
        · cases he
      · cases htr
    · cases htr

/-- the right that a result keeps -/
def resTok (cx : Cx) (st : St) : Option Nat :=
  match cx.results with
  | [.tmp t0] => match st.σ t0 with
    | .slice (.tok u) _ _ => if st.live u then some u else none
    | _ => none
  | _ => none

def readRes (tmps : Array Value) (r : ResultVar) : Sem Value :=
  match r with
  | .tmp t => pure (tmps.getD t undef)
  | .cell a t => do loadVar t (← asAddr (tmps.getD a undef))

theorem all_ok (h : FrRel P pol k cx.δ B T st tmps) (L : ∃ j, ¬ B (st.m + j) ∧ ¬ T (st.nt + j)) (t : Option Nat) : ∀ {rs : List ResultVar} {irs : List IRes} {ds : List D}, trRess P rs = some irs → allRes cx st irs = some ds →
    (cx.own = true → ∀ t0, IRes.tmp t0 ∈ irs → ∀ u s xs, st.σ t0 = .slice (.tok u) s xs → st.live u = true → t = some u) →
    ∃ vs, (rs.mapM (readRes tmps)).run P k.w = .ok vs k.w ∧ Reps (forget k cx.δ t) vs ds ∧ ∀ v d, vs = [v] → ds = [d] → ResTk (forget k cx.δ t) cx.δ v d
  | [], irs, ds, htr, he, ht => by
    simp only [trRess, Option.some.injEq] at htr; subst htr
    simp only [allRes, Option.some.injEq] at he; subst he
    exact ⟨[], by simp, .nil, fun v d e => by cases e⟩
  | r :: rs, irs, ds, htr, he, ht => by
    simp only [trRess] at htr
    split at htr
    · rename_i a b h1 h2
      simp only [Option.some.injEq] at htr; subst htr
      simp only [allRes] at he
      split at he
      · cases he
      · rename_i d hd
        split at he
        · cases he
        · rename_i ds' hds
          simp only [Option.some.injEq] at he; subst he
          obtain ⟨v, g1, g2, g3⟩ := one_ok h L h1 hd (t := t) fun ho t0 e => ht ho t0 (by simp [e])
          obtain ⟨vs, q1, q2, _⟩ := all_ok h L t h2 hds fun ho t0 e => ht ho t0 (by simp [e])
          have g1' : (readRes tmps r).run P k.w = .ok v k.w := g1
          refine ⟨v :: vs, by simp [List.mapM_cons, g1', q1], .cons g2 q2, fun v' d' e1 e2 => ?_⟩
          simp only [List.cons.injEq] at e1 e2
          obtain ⟨rfl, _⟩ := e1
          obtain ⟨rfl, _⟩ := e2
          exact g3
    · cases htr

theorem results_ok (h : FrRel P pol k cx.δ B T st tmps) (L : ∃ j, ¬ B (st.m + j) ∧ ¬ T (st.nt + j)) {fn : Func} (htr : trRess P fn.results.toList = some cx.results) {d : D} (he : resultD cx st = some d) :
    ∃ v t, (results fn tmps).run P k.w = .ok v k.w ∧ Rep (forget k cx.δ t) v d ∧ ResTk (forget k cx.δ t) cx.δ v d := by
  unfold resultD at he
  cases hall : allRes { cx with own := cx.own && cx.results.length == 1 } st cx.results with
  | none => rw [hall] at he; cases he
  | some ds =>
    rw [hall] at he
    obtain ⟨vs, q1, q2, q3⟩ := all_ok (cx := { cx with own := cx.own && cx.results.length == 1 }) h L (resTok cx st) htr hall (fun ho t0 ht0 u s xs hu hlv => by
      simp only [Bool.and_eq_true, beq_iff_eq] at ho
      have : cx.results = [.tmp t0] := by
        cases hr : cx.results with
        | nil => rw [hr] at ht0; simp at ht0
        | cons x xs =>
          rw [hr] at ho ht0
          cases xs with
          | nil => simp at ht0; rw [ht0]
          | cons y ys => simp at ho
      unfold resTok
      rw [this]
      simp only [hu, hlv, if_true])
    have hrun : (results fn tmps).run P k.w = .ok (if h : vs.toArray.size = 1 then vs.toArray[0] else .tuple vs.toArray) k.w := by
      have e1 : results fn tmps = (do let vs ← fn.results.mapM (readRes tmps); pure (if h : vs.size = 1 then vs[0] else .tuple vs)) := by
        unfold results readRes
        rfl
      rw [e1, Array.mapM_eq_mapM_toList]
      simp [Sem.run_bind, q1]
    match ds, he with
    | [d'], he =>
      simp only [Option.some.injEq] at he; subst he
      obtain ⟨v, rfl⟩ : ∃ v, vs = [v] := List.length_eq_one_iff.1 q2.1
      refine ⟨v, resTok cx st, ?_, q2.head, q3 v d' rfl rfl⟩
      simpa using hrun
    | [], he =>
      simp only [Option.some.injEq] at he; subst he
      obtain rfl : vs = [] := by simpa using q2.1
      exact ⟨.tuple #[], resTok cx st, by simpa using hrun, .tup [] rfl (by simp), trivial⟩
    | a :: b :: ds, he =>
      simp only [Option.some.injEq] at he; subst he
      have hl := q2.1
      refine ⟨.tuple vs.toArray, resTok cx st, ?_, .tup vs q2.1 q2.2, trivial⟩
      have hne : vs.length ≠ 1 := by rw [hl]; simp
      rw [hrun]
      simp [hne]
end
end Go.Mia
namespace Go.Mia
open Go

/-- a deferred call is about to be made in this frame -/
def PendStart (k : K) (pend : Option D) (c0 : Frame) : Prop :=
  (pend = none ∧ c0.mode = .returning) ∨ ∃ t x v, pend = some (.iface t x) ∧ c0.mode = .panicking [{ v, recovered := false }] ∧ Rep k v (.iface t x)

def CallOkD (P : Program) (pol : Pol) (δ : Nat) (call : CallF) : Prop :=
  ∀ (pend : Option D) (f : D) (args : List D) (S : Store) (rt : Ret), call (some pend) f args S (δ + 1) = some rt → ∀ (k : K) (fv : Value) (vs : List Value) (d : Deferred), Rep k fv f → Reps k vs args → Good k → Tops k δ → StoreRel P pol k S →
    (∀ w, (Deferred.ofValue fv vs.toArray).run P w = .ok d w) →
    ∃ f' captured fn body, d.target = .fn (.func f') captured ∧ P.funcs[f']? = some fn ∧ fn.name ≠ "runtime.NumGoroutine" ∧ fn.body = some body ∧
      ∀ (c0 : Frame) (cs : List Frame), PendStart k pend c0 → ∃ k' c' c1, Steps P (lone (Frame.enter P f' (d.args ++ captured) .deferred) (c0 :: cs) k.w) (lone c' cs k'.w) ∧ Left P pol (δ + 1) k k' rt ∧ Recd rt.recd c0 c1 ∧ ∀ x, rt.out = .ret x → c' = settleFrame c1

/-- how a frame ends -/
def Leaves (P : Program) (pol : Pol) (k0 : K) (δ : Nat) (round : Option (Nat × Nat)) (kind : CallKind) (c0 c' : Frame) (rt : Ret) (k1 : K) (fr' : Frame) : Prop :=
  ∃ k', Left P pol δ k0 k' rt ∧ Recd rt.recd c0 c' ∧
    (∀ cs, ∃ c'', step P (lone fr' (c' :: cs) k1.w) = .next (lone c'' cs k'.w) ∧ (kind = .normal → rt.recd = false ∧ CameBack δ k' c' c'' rt.out) ∧ (kind = .deferred → ∀ x, rt.out = .ret x → c'' = settleFrame c')) ∧
    (round = none → kind = .normal → ∀ d, rt.out = .ret d → k'.w = k1.w ∧ ∃ v, fr'.leaving P k1.w (.returned v) ∧ Rep k' v d)

/-- what a frame comes to -/
def Goes (P : Program) (pol : Pol) (k0 k : K) (cx : Cx) (fr c0 c : Frame) (cl : Frame → List Frame) (rt : Ret) : Prop :=
  ∃ k1 fr' c', Steps P (lone fr (cl c) k.w) (lone fr' (cl c') k1.w) ∧ fr'.fn = fr.fn ∧ Leaves P pol k0 cx.δ cx.round fr.kind c0 c' rt k1 fr'

def ModeOk (k : K) (l : Leave) (m : FrameMode) : Prop :=
  match l with
  | .ret => m = .returning
  | .pan v => ∃ v' t x, v = .iface t x ∧ m = .panicking [{ v := v', recovered := false }] ∧ Rep k v' v

section
variable {P : Program} {pol : Pol} {k0 k : K} {cx : Cx} {st : St} {B T : Nat → Prop} {df : List IDefer} {fr c0 c : Frame} {call : CallF} {cl : Frame → List Frame}

theorem Pend.recd {p : Option D} {r : Bool} {kd : CallKind} (h : Pend k p r kd c0 c) : Recd r c0 c ∧ ((kd = .normal ∧ r = false) ∨ kd = .deferred) := by
  rcases h with ⟨_, h, h2, _⟩ | ⟨_, _, _, _, _, h2, h3, h4, _⟩
  · exact ⟨h, h2⟩
  · exact ⟨.inl ⟨h2, h3⟩, .inr h4⟩

theorem Base.tops (h : Base P pol k0 k cx B T st df fr c0 c) : Tops k cx.δ := h.rel.tops

/-- a call of a deferred function has been made in a frame that is left -/
theorem Base.called {M N : Nat} (h : Base P pol k0 k cx (Below' M) (Below' N) st df fr c0 c) {rt : Ret} {k' : K} (F : Left P pol (cx.δ + 1) k k' rt) :
    ∃ M' N', Base P pol k0 (afterK k' cx.δ (st.nt + (M + N)) false) cx (Below' M') (Below' N')
      (match rt.S' with | none => st | some S' => { st with S := S', now := st.now + 1, low := min st.low rt.low }) df fr c0 c := by
  have nB : ¬ Below' M (st.m + (M + N)) := by unfold Below'; omega
  have nT : ¬ Below' N (st.nt + (M + N)) := by unfold Below'; omega
  have L := h.rel.loc nB nT
  obtain ⟨st1, hst1⟩ : ∃ st1, st1 = (match rt.S' with | none => st | some S' => { st with S := S', now := st.now + 1, low := min st.low rt.low }) := ⟨_, rfl⟩
  have hac : afterCall st true rt = some st1 := by
    rw [hst1]
    unfold afterCall
    cases rt.S' <;> rfl
  have G := call_gives_plain L h.tops F hac (v := undef) (d := .undef) (.undef _)
  have hb := h.gives nB nT (dst := none) (fr' := fr) G (by simp) rfl rfl rfl rfl rfl
  rw [← hst1]
  refine ⟨M + (st.m + (M + N)) + 1, N + (st.nt + (M + N)) + 1, hb.wider (fun i hi => ?_) (fun i hi => ?_)⟩
  · rcases hi with hi | hi
    · have : i < M := hi
      show i < _; omega
    · show i < _; omega
  · rcases hi with hi | hi
    · have : i < N := hi
      show i < _; omega
    · show i < _; omega

/-- The frame is left. -/
theorem leave_ok (CD : CallOkD P pol cx.δ call) (hround : cx.round = none) (U : ∀ d i, cx.δ ≤ d → k0.β d i = none) : ∀ {df : List IDefer} {l : Leave} {st : St} {rt : Ret}, leave call cx df l st = some rt → ∀ {fr c : Frame} {k : K} {M N : Nat},
    Base P pol k0 k cx (Below' M) (Below' N) st df fr c0 c → ModeOk k l fr.mode → Goes P pol k0 k cx fr c0 c cl rt := by
  intro df
  induction df with
  | nil =>
    intro l st rt h fr c k M N hb hmo
    have hd : fr.defers = [] := by
      have := hb.defs
      generalize fr.defers = ds at this
      cases this
      rfl
    obtain ⟨hrec, hkind⟩ := hb.pend.recd
    have hrnd := hb.rnd.2
    rw [hround] at hrnd
    obtain ⟨hro, fn, hfn, hres⟩ := hrnd
    cases l with
    | ret =>
      simp only [leave, Option.map_eq_some_iff] at h
      obtain ⟨d, hd', rfl⟩ := h
      obtain ⟨v, t, r1, r2, r3⟩ := results_ok hb.rel ⟨M + N, by unfold Below'; omega, by unfold Below'; omega⟩ hres hd'
      have hl := hb.left (t := t) U (.ret d)
      refine ⟨k, fr, c, .refl _ _, rfl, forget k cx.δ t, hl, hrec, fun cs => ?_, fun _ hk d' e => ?_⟩
      · rcases hkind with ⟨hk, hrf⟩ | hk
        · exact ⟨_, st_return hmo hd hfn r1 hk, fun _ => ⟨hrf, v, rfl, r2, r3⟩, fun e => by rw [hk] at e; cases e⟩
        · exact ⟨_, st_return_deferred hmo hd hfn r1 hk, fun e => (by rw [hk] at e; cases e), fun _ x _ => rfl⟩
      · have : d = d' := by simpa [retOf] using e
        subst this
        exact ⟨rfl, v, ⟨hmo, hd, hk, fn, hfn, r1⟩, r2⟩
    | pan v =>
      simp only [leave] at h
      split at h
      · rename_i hp
        simp only [Option.some.injEq] at h
        subst h
        obtain ⟨v', t, x, rfl, hm, hr⟩ := hmo
        refine ⟨k, fr, c, .refl _ _, rfl, forget k cx.δ none, hb.left U _, hrec, fun cs => ⟨_, st_raise hm hd hfn, fun hk => ⟨(hkind.elim (·.2) fun e => by rw [hk] at e; cases e), v', rfl, hr.laterC forget_laterC hp, hp, t, x, rfl⟩, fun _ x e => by cases e⟩, fun _ _ d' e => by cases e⟩
      · cases h
  | cons i df ih =>
    intro l st rt h fr c k M N hb hmo
    have hnr : fr.mode ≠ .run := by
      intro e
      rw [e] at hmo
      cases l with
      | ret => cases hmo
      | pan v => obtain ⟨_, _, _, _, e, _⟩ := hmo; cases e
    have hdefs := hb.defs
    generalize hds : fr.defers = ds0 at hdefs
    cases hdefs with
    | @mark b ds _ h0 hbk h1 h2 hne t =>
      simp only [leave] at h
      have hst := st_collected (P := P) (cs := cl c) hnr hds hbk
      have hlt : b < k.w.heap.size := (Array.getElem?_eq_some_iff.1 hbk).1
      let k1 : K := { k with w := { k.w with heap := k.w.heap.setIfInBounds b (.deferred none) } }
      have hother : ∀ x, x ≠ b → k1.w.heap[x]? = k.w.heap[x]? := fun x hx => by
        show (k.w.heap.setIfInBounds b _)[x]? = _
        rw [Array.getElem?_setIfInBounds_ne (fun e => hx e.symm)]
      have A : Aside k k1 := ⟨rfl, rfl, by show _ ≤ (k.w.heap.setIfInBounds b _).size; simp, fun x cs e f hx => hother x fun e => (by rw [e, hbk] at hx; cases hx), fun d i x hx => hother x fun e => h1 d i (e ▸ hx), rfl, rfl, rfl⟩
      have hb1 : Base P pol k0 k1 cx (Below' M) (Below' N) st df { fr with defers := [] ++ ds } c0 c := by
        refine ⟨A.rel hb.rel, A.defs t fun d hd b' hb' => hother b' (hne d hd b' hb'), hb.rnd, ?_, A.ext hb.ext fun x hx => hother x (by omega)⟩
        rcases hb.pend with h | ⟨t, x, v, older, h1, h2, h3, h4, h5, h6⟩
        · exact .inl h
        · exact .inr ⟨t, x, v, older, h1, h2, h3, h4, h5, h6.later A.later⟩
      have hmo1 : ModeOk k1 l ({ fr with defers := [] ++ ds } : Frame).mode := by
        cases l with
        | ret => exact hmo
        | pan v => obtain ⟨v', t, x, q1, q2, q3⟩ := hmo; exact ⟨v', t, x, q1, q2, q3.later A.later⟩
      obtain ⟨k', fr', c', s1, s2, s3⟩ := ih h hb1 hmo1
      exact ⟨k', fr', c', .head hst s1, s2, s3⟩
    | @call d ds _ f args fv vs hr ha ho t =>
      simp only [leave] at h
      split at h
      · cases h
      · rename_i r hcall
        obtain ⟨f', captured, fn, body, e1, e2, e3, e4, hrun⟩ := CD _ _ _ _ _ hcall k fv vs d hr ha hb.rel.good hb.tops hb.rel.store ho
        have hst := st_deferred (P := P) (cs := cl c) (w := k.w) hnr hds e1 e2 e3 e4
        obtain ⟨k', c', c1, s1, s2, s3, s4⟩ := hrun { fr with defers := ds } (cl c) (by
          cases l with
          | ret => exact .inl ⟨rfl, hmo⟩
          | pan v => obtain ⟨v', t, x, rfl, q2, q3⟩ := hmo; exact .inr ⟨t, x, v', rfl, q2, q3⟩)
        have hb0 : Base P pol k0 k cx (Below' M) (Below' N) st df { fr with defers := ds } c0 c := ⟨hb.rel, t, hb.rnd, hb.pend, hb.ext⟩
        obtain ⟨M', N', hb1⟩ := hb0.called s2
        have hlater : Later k (afterK k' cx.δ (st.nt + (M + N)) false) := s2.ext.later.trans afterK_later
        split at h
        · cases h
        · rename_i x hout
          have hc' := s4 x hout
          have fin : ∀ l', leave call cx df l' (match r.S' with | none => st | some S' => { st with S := S', now := st.now + 1, low := min st.low r.low }) = some rt → c'.tmps = fr.tmps → c'.defers = ds → c'.fn = fr.fn → c'.roundOf = fr.roundOf → c'.kind = fr.kind →
              ModeOk (afterK k' cx.δ (st.nt + (M + N)) false) l' c'.mode → Goes P pol k0 k cx fr c0 c cl rt := by
            intro l' h k1 k2 k3 k4 k5 k6
            have hb2 : Base P pol k0 (afterK k' cx.δ (st.nt + (M + N)) false) cx (Below' M') (Below' N') _ df c' c0 c := hb1.frame k1 k2 k3 k4 k5
            obtain ⟨k'', fr'', c'', t1, t2, t3⟩ := ih h hb2 k6
            rw [k5] at t3
            exact ⟨k'', fr'', c'', .head hst (s1.trans t1), t2.trans k3, t3⟩
          rcases s3 with ⟨g1, g2⟩ | ⟨g1, v0, older, g2, g3⟩
          · have hs : settleFrame c1 = { fr with defers := ds } := by
              rw [g2]
              unfold settleFrame
              cases l with
              | ret => have : fr.mode = .returning := hmo; simp [this]
              | pan v => obtain ⟨v', t, x, _, q2, _⟩ := hmo; simp [q2]
            rw [hs] at hc'
            cases l with
            | ret => exact fin .ret h (by rw [hc']) (by rw [hc']) (by rw [hc']) (by rw [hc']) (by rw [hc']) (by rw [hc']; exact hmo)
            | pan v =>
              simp only [g1] at h
              refine fin (.pan v) h (by rw [hc']) (by rw [hc']) (by rw [hc']) (by rw [hc']) (by rw [hc']) ?_
              obtain ⟨v', t, x, q1, q2, q3⟩ := hmo
              rw [hc']
              exact ⟨v', t, x, q1, q2, q3.later hlater⟩
          · cases l with
            | ret =>
              have : fr.mode = .returning := hmo
              rw [show ({ fr with defers := ds } : Frame).mode = fr.mode from rfl, this] at g2
              cases g2
            | pan v =>
              obtain ⟨v', t, x, q1, q2, q3⟩ := hmo
              rw [show ({ fr with defers := ds } : Frame).mode = fr.mode from rfl, q2] at g2
              simp only [FrameMode.panicking.injEq, List.cons.injEq] at g2
              obtain ⟨_, rfl⟩ := g2
              have hs : settleFrame c1 = { fr with defers := ds, mode := .returning } := by
                rw [g3]; unfold settleFrame; simp
              rw [hs] at hc'
              simp only [g1, if_true] at h
              exact fin .ret h (by rw [hc']) (by rw [hc']) (by rw [hc']) (by rw [hc']) (by rw [hc']) (by rw [hc']; rfl)
end
end Go.Mia
namespace Go.Mia
open Go

/-- a loop over a function is changed -/
def setObjK (k : K) (b : Nat) (o : Go.Obj) : K := { k with w := { k.w with heap := k.w.heap.setIfInBounds b o } }

section
variable {P : Program} {pol : Pol} {k : K} {δ j : Nat} {st : St}

theorem setObjK_ne {b x : Nat} {o : Go.Obj} (h : x ≠ b) : (setObjK k b o).w.heap[x]? = k.w.heap[x]? := by
  show (k.w.heap.setIfInBounds b _)[x]? = _
  rw [Array.getElem?_setIfInBounds_ne (fun e => h e.symm)]
theorem setObjK_eq {b : Nat} {o o0 : Go.Obj} (h : k.w.heap[b]? = some o0) : (setObjK k b o).w.heap[b]? = some o := by
  show (k.w.heap.setIfInBounds b _)[b]? = _
  rw [Array.getElem?_setIfInBounds_self_of_lt (Array.getElem?_eq_some_iff.1 h).1]
theorem setObjK_size {b : Nat} {o : Go.Obj} : (setObjK k b o).w.heap.size = k.w.heap.size := by
  show (k.w.heap.setIfInBounds b _).size = _
  simp

theorem setLoop_later {d i b : Nat} {l l' : Loop} (hb : k.β d i = some b) (hl : k.w.heap[b]? = some (.loop l)) : Later k (setObjK k b (.loop l')) := by
  refine ⟨fun _ _ _ h => h, fun b' off v h => ⟨?_, h.box, h.sp⟩⟩
  have hne : b' ≠ b := fun e => h.box d i (e ▸ hb)
  have hc := h.cell
  unfold World.cell? at hc ⊢
  simp only at hc ⊢
  rw [setObjK_ne hne]; exact hc

theorem Chg.setLoop (g : Good k) {d i b : Nat} {l l' : Loop} {o : Obj} (hb : k.β d i = some b) (hl : k.w.heap[b]? = some (.loop l)) (hd : d ≤ δ) (ho : ObjRel P pol (setObjK k b (.loop l')) d i b o) :
    Chg P pol δ j st { st with S := upd2 st.S d i o, now := st.now + 1, low := min st.low d } k (setObjK k b (.loop l')) where
  ext := fun low h1 h2 => {
    later := setLoop_later hb hl
    size := Nat.le_of_eq setObjK_size.symm
    os := rfl, tape := rfl, output := rfl
    other := fun x hx h1 _ => setObjK_ne fun e => h1 d i (e ▸ hb)
    nobox := fun x hx h1 h2 => ⟨h1, h2⟩
    boxes := fun d' i' x hd' hx => setObjK_ne fun e => by
      have h3 : low ≤ min st.low d := h2
      have := (g.inj d' i' d i b (e ▸ hx) hb).1
      omega
    cells := fun _ _ _ _ => rfl
    toks := fun _ _ _ => rfl
    lv := fun _ _ _ => rfl
    shape := fun x cs e hx => ⟨cs, (setObjK_ne fun e' => by rw [e', hl] at hx; cases hx).trans hx, rfl⟩ }
  low := Nat.min_le_left _ _
  good := ⟨g.inj, fun d i x hx => by rw [setObjK_size]; exact g.lt d i x hx, fun h x o hx => by rw [setObjK_size]; exact g.splt h x o hx, g.spinj, g.disj, g.cb⟩
  β := fun _ _ _ => rfl
  store := fun d' i' x hx => by
    by_cases e : d' = d ∧ i' = i
    · obtain ⟨rfl, rfl⟩ := e
      right
      have : x = b := by have h1 : k.β d' i' = some x := hx; rw [hb] at h1; simpa using h1.symm
      subst this
      simp only [upd2, and_self, if_true]
      exact ho
    · left
      refine ⟨by simp only [upd2]; rw [if_neg e], hx, setObjK_ne fun e' => e (g.inj d' i' d i b (e' ▸ hx) hb), fun _ => rfl⟩
  now := .inr rfl
  tok := fun _ _ h => ⟨h, rfl⟩
  dead := fun t _ h h' => by
    rcases h' with h' | h'
    · exact h'
    · have : st.live t = false := h
      rw [this] at h'; cases h'
  tokf := fun _ _ _ => rfl
  other := fun _ _ _ => rfl
  lv := fun _ _ _ _ => rfl
  tks := fun _ _ _ => rfl
  m := rfl
  nt := rfl
  σ := rfl
  pend := rfl
  recd := rfl
end

section
variable {P : Program} {pol : Pol} {k0 k : K} {cx : Cx} {st : St} {B T : Nat → Prop} {df : List IDefer} {fr fr' c0 c : Frame} {call : CallF} {cs : List Frame}

/-- the same, for a frame -/
theorem Base.setLoop (h : Base P pol k0 k cx (Below' st.m) (Below' st.nt) st df fr c0 c) {d i b : Nat} {l l' : Loop} {o : Obj} (hb : k.β d i = some b) (hl : k.w.heap[b]? = some (.loop l)) (ho : ObjRel P pol (setObjK k b (.loop l')) d i b o) :
    Base P pol k0 (setObjK k b (.loop l')) cx (Below' st.m) (Below' st.nt) { st with S := upd2 st.S d i o, now := st.now + 1, low := min st.low d } df fr c0 c := by
  have hd : d ≤ cx.δ := by
    rcases Nat.lt_or_ge cx.δ d with h1 | h1
    · rw [h.rel.up d i h1] at hb; cases hb
    · exact h1
  have C := Chg.setLoop (P := P) (pol := pol) (δ := cx.δ) (j := 0) (st := st) h.rel.good hb hl hd ho
  have E := C.ext (min st.low d) (by have := h.rel.low; omega) (Nat.le_refl _)
  refine ⟨?_, h.defs.ext E, h.rnd.ext E rfl rfl rfl, h.pend.ext E, (h.ext.mono (Nat.min_le_left _ _)).trans E (by have := h.rel.low; omega)⟩
  have r := h.rel
  refine ⟨fun t => (r.rep t).later E.later, fun t => (r.tk t).chg C (B := Below' st.m) (T := Below' st.nt) (by unfold Below'; omega) (by unfold Below'; omega) (r.names t), r.names, r.dead, r.newt, r.newm, r.newc, r.up, r.upt, r.upc, C.good, ?_, ?_⟩
  · intro d' i' b' hb'
    rcases C.store d' i' b' hb' with ⟨a, b'', c, s⟩ | a
    · rw [a]; exact (r.store d' i' b' b'').same E c s
    · exact a
  · show min st.low d ≤ cx.δ
    have := r.low; omega
end
end Go.Mia
namespace Go.Mia
open Go

/-- frames that run so are done by the machine -/
def RunOk (P : Program) (pol : Pol) (run : RunF) : Prop :=
  ∀ {cx : Cx} {todo : List Item} {df : List IDefer} {st : St} {rt : Ret}, run cx todo df st = some rt → ∀ {k0 k : K} {fr c0 c : Frame} {cl : Frame → List Frame}, Callers cl fr.kind → Base P pol k0 k cx (Below' st.m) (Below' st.nt) st df fr c0 c → (∀ d i, cx.δ ≤ d → k0.β d i = none) →
    fr.mode = .run → Todo P pol fr.tmps.size fr.todo todo → Goes P pol k0 k cx fr c0 c cl rt

def jumpCode : Option Jump → Option Code
  | none => none
  | some .ret => some .ret
  | some (.exit id) => some (.exit id)
theorem jumpCode_none (j : Option Jump) : (jumpCode j).isNone = j.isNone := by cases j with | none => rfl | some j => cases j <;> rfl

def stateOf : LState → LoopState
  | .ready => .ready
  | .busy => .busy
  | .done => .done
  | .exhausted => .exhausted

section
variable {P : Program} {pol : Pol} {k0 k : K} {cx : Cx} {st : St} {B T : Nat → Prop} {df : List IDefer} {fr fr' c0 c : Frame} {call : CallF} {cl : Frame → List Frame}

theorem LoopRel.with_ {d : Nat} {l : Loop} {r : LoopRec} (h : LoopRel P pol k d l r) (s : LState) (p : Option Jump) : LoopRel P pol k d { l with state := stateOf s, pending := jumpCode p } { r with state := s, pending := p } := by
  obtain ⟨_, _, q3, q4, q5, q6⟩ := h
  refine ⟨?_, ?_, q3, q4, q5, q6⟩
  · cases s <;> rfl
  · cases p with
    | none => rfl
    | some p => cases p <;> rfl
theorem LoopRel.state {d : Nat} {l : Loop} {r : LoopRec} (h : LoopRel P pol k d l r) : l.state = stateOf r.state := by
  have := h.1
  cases hs : r.state <;> rw [hs] at this <;> exact this
theorem LoopRel.pending {d : Nat} {l : Loop} {r : LoopRec} (h : LoopRel P pol k d l r) : l.pending = jumpCode r.pending := by
  have := h.2.1
  cases hs : r.pending with
  | none => rw [hs] at this; exact this
  | some p => rw [hs] at this; cases p <;> exact this

/-- a round comes to its end -/
theorem round_ok (h : Base P pol k0 k cx (Below' st.m) (Below' st.nt) st [] fr c0 c) (U : ∀ d i, cx.δ ≤ d → k0.β d i = none) (hm : fr.mode = .run) {d i : Nat} {jump : Option Jump} {rt : Ret} (hr : cx.round = some (d, i)) (he : leaveRound cx d i jump st = some rt)
    (ht : (fr.todo = [] ∧ jump = none) ∨ (∃ k, fr.todo = .code .ret :: k ∧ jump = some .ret) ∨ (∃ id k, fr.todo = .code (.exit id) :: k ∧ Go.exitTo id k = none ∧ jump = some (.exit id))) :
    Goes P pol k0 k cx fr c0 c cl rt := by
  have hrnd := h.rnd.2
  rw [hr] at hrnd
  obtain ⟨hd, hkind, b, hro, hb⟩ := hrnd
  unfold leaveRound at he
  split at he
  · rename_i S' hS'
    simp only [Option.some.injEq] at he
    unfold setLoop at hS'
    split at hS'
    · rename_i r hSr
      simp only [Option.some.injEq] at hS'
      obtain ⟨l, hl, hrel⟩ : ObjRel P pol k d i b (.loop r) := by rw [← hSr]; exact h.rel.store d i b hb
      let s' : LState := if jump.isNone then .ready else .done
      let l' : Loop := { l with state := stateOf s', pending := jumpCode jump }
      have ho : ObjRel P pol (setObjK k b (.loop l')) d i b (.loop { r with state := s', pending := jump }) :=
        ⟨l', setObjK_eq hl, (hrel.ext (setLoop_later (l' := l') hb hl)).with_ s' jump⟩
      have hb1 := h.setLoop hb hl ho
      have hst := fun cs => st_leave_round (P := P) (cs := cs) (c := c) (jump := jumpCode jump) hm hkind hro hl (by
        rcases ht with ⟨h1, rfl⟩ | ⟨k, h1, rfl⟩ | ⟨id, k, h1, h2, rfl⟩
        · exact .inl ⟨h1, rfl⟩
        · exact .inr (.inl ⟨k, h1, rfl⟩)
        · exact .inr (.inr ⟨id, k, h1, h2, rfl⟩))
      have hw : ({ k.w with heap := k.w.heap.setIfInBounds b (.loop { l with state := if (jumpCode jump).isNone then .ready else .done, pending := jumpCode jump }) } : World) = (setObjK k b (.loop l')).w := by
        unfold setObjK
        simp only [jumpCode_none, l', s']
        congr 3
        cases jump <;> rfl
      simp only [hw] at hst
      have hrec : st.recd = false := by
        rcases h.pend.recd.2 with h1 | h1
        · exact h1.2
        · rw [hkind] at h1; cases h1
      refine ⟨k, fr, c, .refl _ _, rfl, forget (setObjK k b (.loop l')) cx.δ none, ?_, ?_, fun cs => ⟨_, hst cs, fun _ => ⟨by rw [← he], ?_⟩, fun e => by rw [hkind] at e; cases e⟩, fun e => by rw [hr] at e; cases e⟩
      · have := hb1.left (t := none) U (.ret (.bool jump.isNone))
        rw [← he]
        unfold retOf at this
        rw [if_pos (show min st.low d < cx.δ by omega)] at this
        simp only [hrec] at this
        rw [← hS']
        exact this
      · rw [← he]
        have := h.pend.recd.1
        rw [hrec] at this
        exact this
      · rw [← he]
        refine ⟨_, rfl, ?_, trivial⟩
        rw [jumpCode_none]
        exact .bool _
    · cases hS'
  · cases he
end
end Go.Mia
namespace Go.Mia
open Go

/-- A function of which it is known what it answers. -/
def ExtOk (P : Program) (pol : Pol) (f : FuncId) (g : List D → Option D) : Prop :=
  ∀ (args : List D) (d : D), g args = some d → ∀ (δ : Nat) (k : K) (vs : List Value), Reps k vs args → Good k → Tops k δ → ∃ x fr0, (callFunc f vs.toArray).run P k.w = .ok x k.w ∧ Enters P x .normal fr0 ∧
    ∀ (c : Frame) (cs : List Frame), ∃ k' v, Steps P (lone fr0 (c :: cs) k.w) (lone (c.finish v) cs k'.w) ∧ Left P pol (δ + 1) k k' ⟨.ret d, false, δ + 1, none⟩ ∧ Rep k' v d ∧ ResTk k' (δ + 1) v d

def FtOk (P : Program) (pol : Pol) (ft : FT) : Prop := ∀ f fe, ft f = some fe → match fe with
  | .ir fn => trFunc P pol f = some fn
  | .ext g => ExtOk P pol f g

theorem trFunc_inv {P : Program} {pol : Pol} {f : Nat} {fn : IFunc} (h : trFunc P pol f = some fn) : ∃ gf c, P.funcs[f]? = some gf ∧ gf.body = some c ∧ trCode P pol f gf.ntmps c = some fn.body ∧ trRess P gf.results.toList = some fn.results ∧ gf.name ≠ "runtime.NumGoroutine" ∧ fn.nt = gf.ntmps := by
  unfold trFunc at h
  split at h
  · cases h
  · rename_i gf hgf
    split at h
    · cases h
    · rename_i c hc
      split at h
      · rename_i ic rs h1 h2
        split at h
        · cases h
        · rename_i hn
          simp only [Option.some.injEq] at h
          subst h
          exact ⟨gf, c, hgf, hc, h1, h2, hn, rfl⟩
      · cases h

section
variable {P : Program} {pol : Pol} {k : K} {S : Store} {δ : Nat}

theorem enter_tmps {f : FuncId} {gf : Func} (hf : P.funcs[f]? = some gf) (vs : List Value) (kd : CallKind) (hl : vs.length ≤ gf.ntmps) : (Frame.enter P f vs.toArray kd).tmps.size = gf.ntmps ∧ ∀ t, (Frame.enter P f vs.toArray kd).tmps.getD t undef = vs.getD t undef := by
  unfold Frame.enter
  simp only [hf, Option.map_some, Option.getD_some]
  refine ⟨by simp; omega, fun t => ?_⟩
  rw [Array.getD_eq_getD_getElem?, List.getD_eq_getElem?_getD, Array.getElem?_append]
  split
  · simp
  · rename_i h
    have : vs[t]? = none := List.getElem?_eq_none (by simpa using h)
    rw [this]
    simp only [Array.getElem?_replicate]
    split <;> rfl

/-- a frame that is entered -/
theorem entered {f : FuncId} {fn : IFunc} (hf : trFunc P pol f = some fn) {args : List D} {vs : List Value} (hr : Reps k vs args) (hg : Good k) (hT : Tops k δ) (hS : StoreRel P pol k S) (hl : args.length ≤ fn.nt) {kd : CallKind} {pend : Option D} {c0 : Frame} (hp : Pend k pend false kd c0 c0) :
    Base P pol k k ⟨δ + 1, fn.own, fn.results, none⟩ (Below' 0) (Below' 0) (initSt (args.map D.degr) S (δ + 1) pend) [] (Frame.enter P f vs.toArray kd) c0 c0 ∧ (Frame.enter P f vs.toArray kd).mode = .run ∧
      Todo P pol (Frame.enter P f vs.toArray kd).tmps.size (Frame.enter P f vs.toArray kd).todo [.code fn.body] := by
  obtain ⟨gf, c, h1, h2, h3, h4, h5, h6⟩ := trFunc_inv hf
  have hlen : vs.length ≤ gf.ntmps := by rw [hr.1]; omega
  obtain ⟨e1, e2⟩ := enter_tmps h1 vs kd hlen
  refine ⟨⟨?_, .nil, ⟨?_, rfl, gf, h1, h4⟩, hp, .refl _ _ _⟩, rfl, ?_⟩
  · have hσ : ∀ t, (initSt (args.map D.degr) S (δ + 1) pend).σ t = .undef ∨ ∃ d, args[t]? = some d ∧ (initSt (args.map D.degr) S (δ + 1) pend).σ t = d.degr := by
      intro t
      simp only [initSt, List.getElem?_map]
      cases ht : args[t]? with
      | none => exact .inl rfl
      | some d => exact .inr ⟨d, rfl, rfl⟩
    refine ⟨fun t => ?_, fun t => ?_, fun t => ?_, fun t _ => ?_, fun t _ => rfl, fun i _ => hT.up _ i (by simp), fun i off _ => hT.upc _ i off (by simp), fun d i hd => hT.up d i (by simp at hd; omega), fun d t hd => hT.upt d t (by simp at hd; omega), fun d i off hd => hT.upc d i off (by simp at hd; omega), hg, hS, Nat.le_refl _⟩
    · rw [e2]
      rcases hσ t with h | ⟨d, h, h'⟩
      · rw [h]; exact .undef _
      · rw [h']; exact (hr.2 t d h).degr
    · rcases hσ t with h | ⟨d, h, h'⟩
      · rw [h]; exact .plain (by simp)
      · rw [h']; exact .degr d
    · rcases hσ t with h | ⟨d, h, h'⟩
      · rw [h]; exact .plain (by simp)
      · rw [h']; exact .degr d
    · exact hT.upt _ t (by simp)
  · have : (Frame.enter P f vs.toArray kd).fn = f := rfl
    rw [this, h1]; rfl
  · rw [e1]
    have : (Frame.enter P f vs.toArray kd).todo = [.code c] := by
      unfold Frame.enter
      simp [h1, h2]
    rw [this]
    exact .code h3 .nil

theorem degr1_degr1 (d : D) : d.degr1.degr1 = d.degr1 := by cases d <;> rfl
theorem degr_degr (d : D) : d.degr.degr = d.degr := by
  cases d <;> try rfl
  simp only [D.degr, List.map_map]
  congr 1
  exact List.map_congr_left fun d _ => degr1_degr1 d

theorem setParams_ok : ∀ {ps : List Nat} {args : List D} {vs : List Value} {σ : Nat → D} {tmps : Array Value}, Reps k vs args → ps.length = args.length → (∀ p ∈ ps, p < tmps.size) → (∀ t, Rep k (tmps.getD t undef) (σ t) ∧ (σ t).degr = σ t) →
    ((ps.zip vs).foldl (fun tmps (t, a) => tmps.setIfInBounds t a) tmps).size = tmps.size ∧ ∀ t, Rep k (((ps.zip vs).foldl (fun tmps (t, a) => tmps.setIfInBounds t a) tmps).getD t undef) (setParams σ ps (args.map D.degr) t) ∧ (setParams σ ps (args.map D.degr) t).degr = setParams σ ps (args.map D.degr) t
  | [], args, vs, σ, tmps, hr, hl, hp, hσ => by
    cases args with
    | nil => exact ⟨by simp, fun t => by simpa [setParams] using hσ t⟩
    | cons => simp at hl
  | p :: ps, args, vs, σ, tmps, hr, hl, hp, hσ => by
    cases args with
    | nil => simp at hl
    | cons d args =>
      cases vs with
      | nil => have := hr.1; simp at this
      | cons v vs =>
        have hpl := hp p (by simp)
        have ih := setParams_ok (ps := ps) (args := args) (vs := vs) (σ := upd σ p d.degr) (tmps := tmps.setIfInBounds p v) hr.tail (by simpa using hl) (fun q hq => by simpa using hp q (by simp [hq])) (fun t => by
          rw [getD_set _ _ _ _ hpl]
          by_cases e : t = p
          · subst e; simp only [upd, if_true]; exact ⟨hr.head.degr, degr_degr d⟩
          · simp only [upd, if_neg e]; exact hσ t)
        simpa [setParams] using ih
end
end Go.Mia
namespace Go.Mia
open Go

open Classical in
/-- the boxes and rights of a world, all of one level, by their blocks -/
noncomputable def oneK (k : K) : K where
  w := k.w
  β := fun d b => if d = 0 ∧ ∃ d' i, k.β d' i = some b then some b else none
  sp := fun h => match h with
    | .tok d b => if h : d = 0 ∧ ∃ x o, k.sp x = some (b, o) then some (b, h.2.choose_spec.choose) else none
    | .cell .. => none

section
variable {P : Program} {pol : Pol} {k k' : K} {δ : Nat}

theorem oneK_β {d i b : Nat} (h : (oneK k).β d i = some b) : d = 0 ∧ i = b ∧ ∃ d' i', k.β d' i' = some b := by
  unfold oneK at h
  simp only at h
  split at h
  · rename_i hc
    simp only [Option.some.injEq] at h
    subst h
    exact ⟨hc.1, rfl, hc.2⟩
  · cases h
theorem oneK_β_of {d i b : Nat} (h : k.β d i = some b) : (oneK k).β 0 b = some b := by
  unfold oneK
  simp only
  rw [if_pos ⟨rfl, d, i, h⟩]
theorem oneK_sp {h : Hold} {b o : Nat} (hh : (oneK k).sp h = some (b, o)) : h = .tok 0 b ∧ ∃ x, k.sp x = some (b, o) := by
  unfold oneK at hh
  cases h with
  | cell d i off => cases hh
  | tok d t =>
    simp only at hh
    split at hh
    · rename_i hc
      simp only [Option.some.injEq, Prod.mk.injEq] at hh
      obtain ⟨rfl, h2⟩ := hh
      refine ⟨by rw [hc.1], hc.2.choose, ?_⟩
      rw [← h2]
      exact hc.2.choose_spec.choose_spec
    · cases hh
theorem oneK_sp_of (g : Good k) {h : Hold} {b o : Nat} (hh : k.sp h = some (b, o)) : (oneK k).sp (.tok 0 b) = some (b, o) := by
  have hc : (0 : Nat) = 0 ∧ ∃ x o, k.sp x = some (b, o) := ⟨rfl, h, o, hh⟩
  unfold oneK
  simp only
  rw [dif_pos hc]
  have this := hc.2.choose_spec.choose_spec
  generalize hc.2.choose_spec.choose = o' at this
  have e := g.spinj _ _ _ _ _ this hh
  rw [e, hh] at this
  simp only [Option.some.injEq, Prod.mk.injEq, true_and] at this
  rw [← this]

theorem oneK_good (g : Good k) : Good (oneK k) where
  inj := fun d i d' i' b h h' => by
    obtain ⟨rfl, rfl, _⟩ := oneK_β h
    obtain ⟨rfl, rfl, _⟩ := oneK_β h'
    exact ⟨rfl, rfl⟩
  lt := fun d i b h => by
    obtain ⟨_, _, d', i', h'⟩ := oneK_β h
    exact g.lt d' i' b h'
  splt := fun h b o hh => by
    obtain ⟨_, x, hx⟩ := oneK_sp hh
    exact g.splt x b o hx
  spinj := fun h h' b o o' hh hh' => by rw [(oneK_sp hh).1, (oneK_sp hh').1]
  disj := fun d i b h o hb hh => by
    obtain ⟨_, _, d', i', h'⟩ := oneK_β hb
    obtain ⟨_, x, hx⟩ := oneK_sp hh
    exact g.disj _ _ _ _ _ h' hx
  cb := fun d i off r hr => by
    obtain ⟨b, o⟩ := r
    have := (oneK_sp hr).1
    cases this

theorem oneK_tops : Tops (oneK k) 0 where
  up := fun d i hd => by
    cases h : (oneK k).β d i with
    | none => rfl
    | some b => have := (oneK_β h).1; omega
  upt := fun d t hd => by
    cases h : (oneK k).sp (.tok d t) with
    | none => rfl
    | some q =>
      obtain ⟨b, o⟩ := q
      have := (oneK_sp h).1
      simp only [Hold.tok.injEq] at this
      omega
  upc := fun d i off _ => rfl

theorem oneK_laterC : LaterC k (oneK k) := fun b off v h => by
  refine ⟨h.cell, fun d i hb => ?_, fun x o hx => ?_⟩
  · obtain ⟨_, _, d', i', h'⟩ := oneK_β hb
    exact h.box d' i' h'
  · obtain ⟨_, y, hy⟩ := oneK_sp hx
    exact h.sp y o hy

theorem Reps.laterC {k k' : K} (L : LaterC k k') {vs : List Value} {ds : List D} (h : Reps k vs ds) (hp : D.pures ds = true) : Reps k' vs ds := ⟨h.1, fun j d hd => (h.2 j d hd).laterC L (pures_get hp j d hd)⟩

/-- what is left, as the caller sees it -/
def backK (k k' : K) (δ : Nat) : K where
  w := k'.w
  β := k.β
  sp := fun h => if h = .tok (δ + 1) 0 then k'.sp (.tok 1 0) else k.sp h

theorem backK_sp {h : Hold} {q : Nat × Nat} (hh : (backK k k' δ).sp h = some q) : (h = .tok (δ + 1) 0 ∧ k'.sp (.tok 1 0) = some q) ∨ (h ≠ .tok (δ + 1) 0 ∧ k.sp h = some q) := by
  unfold backK at hh
  simp only at hh
  split at hh
  · exact .inl ⟨by assumption, hh⟩
  · exact .inr ⟨by assumption, hh⟩

theorem iso_left (g : Good k) (hT : Tops k δ) {rt rt' : Ret} (F : Left P pol 1 (oneK k) k' rt) (hS : rt.S' = none) (e1 : rt'.low = δ + 1) (e2 : rt'.S' = none) :
    Left P pol (δ + 1) k (backK k k' δ) rt' ∧ LaterC k' (backK k k' δ) := by
  have E := F.ext
  have hlow : rt.low = 1 := by have := F.store; rw [hS] at this; exact this
  have hβ : ∀ {d i b}, k.β d i = some b → k'.β 0 b = some b := fun h => by rw [E.lv 0 _ (by omega)]; exact oneK_β_of h
  have hsp : ∀ {h b o}, k.sp h = some (b, o) → k'.sp (.tok 0 b) = some (b, o) := fun h => by rw [E.toks 0 _ (by omega)]; exact oneK_sp_of g h
  have hback : LaterC k' (backK k k' δ) := fun b off v h => by
    refine ⟨h.cell, fun d i hb => h.box _ _ (hβ hb), fun x o hx => ?_⟩
    rcases backK_sp hx with ⟨_, h1⟩ | ⟨_, h1⟩
    · exact h.sp _ o h1
    · exact h.sp _ o (hsp h1)
  refine ⟨⟨by omega, ?_, ?_, ?_, fun d i hd => hT.up d i (by omega), fun d t hd hne => ?_⟩, hback⟩
  · rw [e1]
    exact {
      later := ⟨fun _ _ _ h => h, fun b off v h => hback b off v (E.later.const b off v (oneK_laterC b off v h))⟩
      size := E.size, os := E.os, tape := E.tape, output := E.output
      other := fun b hb h1 h2 => E.other b hb (fun d i e => by obtain ⟨_, _, d', i', h'⟩ := oneK_β e; exact h1 d' i' h') (fun h o e => by obtain ⟨_, x, hx⟩ := oneK_sp e; exact h2 x o hx)
      nobox := fun b hb h1 h2 => by
        obtain ⟨_, n2⟩ := E.nobox b hb (fun d i e => by obtain ⟨_, _, d', i', h'⟩ := oneK_β e; exact h1 d' i' h') (fun h o e => by obtain ⟨_, x, hx⟩ := oneK_sp e; exact h2 x o hx)
        refine ⟨h1, fun x o hx => ?_⟩
        rcases backK_sp hx with ⟨_, h3⟩ | ⟨_, h3⟩
        · exact n2 _ o h3
        · exact h2 x o h3
      boxes := fun d i b hd hb => E.boxes 0 b b (by omega) (oneK_β_of hb)
      cells := fun d i off hd => by unfold backK; simp
      toks := fun d t hd => by
        unfold backK
        simp only [Hold.tok.injEq]
        rw [if_neg (by omega)]
      lv := fun _ _ _ => rfl
      shape := E.shape }
  · refine ⟨g.inj, fun d i b hb => Nat.lt_of_lt_of_le (g.lt d i b hb) E.size, fun x b o hx => ?_, fun x y b o o' hx hy => ?_, fun d i b x o hb hx => ?_, fun d i off r hr => ?_⟩
    · rcases backK_sp hx with ⟨_, h1⟩ | ⟨_, h1⟩
      · exact F.good.splt _ b o h1
      · exact Nat.lt_of_lt_of_le (g.splt x b o h1) E.size
    · rcases backK_sp hx with ⟨e, h1⟩ | ⟨e, h1⟩ <;> rcases backK_sp hy with ⟨e', h2⟩ | ⟨e', h2⟩
      · rw [e, e']
      · have := F.good.spinj _ _ _ _ _ h1 (hsp h2); cases this
      · have := F.good.spinj _ _ _ _ _ h2 (hsp h1); cases this
      · exact g.spinj _ _ _ _ _ h1 h2
    · rcases backK_sp hx with ⟨e, h1⟩ | ⟨e, h1⟩
      · exact F.good.disj _ _ _ _ _ (hβ hb) h1
      · exact g.disj _ _ _ _ _ hb h1
    · rcases backK_sp hr with ⟨e, _⟩ | ⟨_, h1⟩
      · cases e
      · exact g.cb d i off r h1
  · rw [e2]; exact e1
  · cases h : (backK k k' δ).sp (.tok d t) with
    | none => rfl
    | some q =>
      rcases backK_sp h with ⟨e, _⟩ | ⟨_, h1⟩
      · simp only [Hold.tok.injEq] at e; exact absurd e hne
      · rw [hT.upt d t (by omega)] at h1; cases h1

theorem Rep.laterR {k k' : K} (L : LaterC k k') {v : Value} {d : D} (h : Rep k v d) (hp : d.pureR = true) : Rep k' v d := by
  cases d with
  | tup ds =>
    cases h with
    | tup vs hl hr => exact .tup vs hl fun j d hd => (hr j d hd).laterC L (pures_get hp j d hd)
  | _ => exact h.laterC L hp

theorem ResTk.back {v : Value} {d : D} (h : ResTk k' 1 v d) : ResTk (backK k k' δ) (δ + 1) v d := by
  have hh : ∀ a len cap s, HeldAt k' (.tok 1 0) a len cap s → HeldAt (backK k k' δ) (.tok (δ + 1) 0) a len cap s := by
    intro a len cap s H
    have e : (backK k k' δ).sp (.tok (δ + 1) 0) = k'.sp (.tok 1 0) := by unfold backK; simp
    rcases H with ⟨b, o, h1, h2⟩ | ⟨h1, h2⟩
    · exact .inl ⟨b, o, e.trans h1, h2⟩
    · exact .inr ⟨h1, e.trans h2⟩
  cases d with
  | slice tk s xs => cases tk <;> cases v <;> first | exact hh _ _ _ _ h | exact h.elim | trivial
  | _ => cases v <;> trivial
end
end Go.Mia
namespace Go.Mia
open Go

section
variable {P : Program} {pol : Pol} {ft : FT} {run : RunF} {δ : Nat}

theorem Tops.at {k : K} (h : Tops k δ) : ∀ d i, δ + 1 ≤ d → k.β d i = none := fun d i hd => h.up d i (by omega)

theorem mkCall_ok (hft : FtOk P pol ft) (HR : RunOk P pol run) : CallOk P pol δ (mkCall ft run) := by
  intro f args S rt he k fv vs hf ha hg hT hS
  unfold mkCall at he
  split at he
  · -- a function
    rename_i ff first cap
    obtain ⟨xs, us, rfl, hv, hu⟩ : ∃ xs us : List Value, fv = .func (.func ff) xs.toArray us.toArray ∧ Reps k xs first ∧ Reps k us cap := by
      cases hf with
      | fn vs us hv hu ra rb => exact ⟨vs, us, rfl, ⟨hv, ra⟩, ⟨hu, rb⟩⟩
    have hall := (hv.append ha).append hu
    have hcall : callOf (.func (.func ff) xs.toArray us.toArray) vs.toArray = callFunc ff (xs ++ vs ++ us).toArray := by
      unfold callOf Deferred.ofValue
      simp [invoke]
    split at he
    · rename_i fn hfn
      have htr : trFunc P pol ff = some fn := hft ff _ hfn
      split at he
      · rename_i hl
        obtain ⟨gf, c, h1, h2, h3, h4, h5, h6⟩ := trFunc_inv htr
        refine ⟨.enter ff (xs ++ vs ++ us).toArray, Frame.enter P ff (xs ++ vs ++ us).toArray .normal, by rw [hcall]; exact run_callFunc h1 h5 h2, .enter, fun c cs => ?_⟩
        have hp : ∀ k, Pend k none false .normal c c := fun k => .inl ⟨rfl, .inl ⟨rfl, rfl⟩, .inl ⟨rfl, rfl⟩, fun fr hk cs => by unfold tryRecover; rw [hk]⟩
        have only : ∀ {rt : Ret} {c1 : Frame}, rt.recd = false → Recd rt.recd c c1 → c1 = c := by
          intro rt c1 e1 s3
          rcases s3 with ⟨_, h⟩ | ⟨h, _⟩
          · exact h
          · rw [e1] at h; cases h
        split at he
        · -- values without pointers to boxes
          rename_i hiso
          rw [Bool.and_eq_true] at hiso
          split at he
          · rename_i rt1 hrt1
            obtain ⟨b1, b2, b3⟩ := entered (S := S0) htr (hall.laterC oneK_laterC hiso.2) (oneK_good hg) oneK_tops (fun d i b hb => trivial) hl (hp (oneK k))
            obtain ⟨k1, fr', c1, s1, _, k', s2, s3, s4, _⟩ := HR hrt1 (cl := fun c => c :: cs) (.inl rfl) b1 oneK_tops.at b2 b3
            obtain ⟨c'', t1, t2, _⟩ := s4 cs
            obtain ⟨e1, e2⟩ := t2 rfl
            obtain rfl := only e1 s3
            unfold isoRet at he
            split at he
            · rename_i hcond
              rw [Bool.and_eq_true] at hcond
              have hS' : rt1.S' = none := Option.isNone_iff_eq_none.1 hcond.1
              split at he
              · rename_i d hout
                split at he
                · rename_i hpure
                  simp only [Option.some.injEq] at he
                  subst he
                  rw [hout] at e2
                  obtain ⟨v, e3, e4, e5⟩ := e2
                  obtain ⟨i1, i2⟩ := iso_left (δ := δ) hg hT (rt' := ⟨.ret d, false, δ + 1, none⟩) s2 hS' rfl rfl
                  exact ⟨backK k k' δ, c'', s1.trans (.one t1), i1, rfl, v, e3, e4.laterR i2 hpure, e5.back⟩
                · cases he
              · rename_i v hout
                split at he
                · rename_i hpure
                  simp only [Option.some.injEq] at he
                  subst he
                  rw [hout] at e2
                  obtain ⟨v', e3, e4, e5, e6⟩ := e2
                  obtain ⟨i1, i2⟩ := iso_left (δ := δ) hg hT (rt' := ⟨.pan v, false, δ + 1, none⟩) s2 hS' rfl rfl
                  exact ⟨backK k k' δ, c'', s1.trans (.one t1), i1, rfl, v', e3, e4.laterC i2 e5, e5, e6⟩
                · cases he
            · cases he
          · cases he
        · simp only [Option.join_none] at he
          obtain ⟨b1, b2, b3⟩ := entered htr hall hg hT hS hl (hp k)
          obtain ⟨k1, fr', c1, s1, _, k', s2, s3, s4, _⟩ := HR he (cl := fun c => c :: cs) (.inl rfl) b1 hT.at b2 b3
          obtain ⟨c'', t1, t2, _⟩ := s4 cs
          obtain ⟨e1, e2⟩ := t2 rfl
          obtain rfl := only e1 s3
          exact ⟨k', c'', s1.trans (.one t1), s2, e1, e2⟩
      · cases he
    · rename_i g hfn
      have hext : ExtOk P pol ff g := hft ff _ hfn
      simp only [Option.map_eq_some_iff] at he
      obtain ⟨d, hd, rfl⟩ := he
      obtain ⟨x, fr0, h1, h2, h3⟩ := hext _ _ hd δ k _ hall hg hT
      refine ⟨x, fr0, by rw [hcall]; exact h1, h2, fun c cs => ?_⟩
      obtain ⟨k', v, q1, q2, q3, q4⟩ := h3 c cs
      exact ⟨k', _, q1, q2, rfl, v, rfl, q3, q4⟩
    · cases he
  · -- a round
    rename_i d i
    obtain ⟨b, hb, rfl⟩ : ∃ b, k.β d i = some b ∧ fv = .func (.yield b) #[] #[] := by
      cases hf with
      | yld h => exact ⟨_, h, rfl⟩
    split at he
    · rename_i r hSr
      split at he
      · rename_i hpl
        have hob := hS d i b hb
        rw [hSr] at hob
        obtain ⟨l, hl, q1, q2, ⟨n, f0, q3a, q3b, q3c, q3d⟩, q4, q5, q6⟩ := hob
        have hsz : vs.length = r.params.length := ha.1.trans hpl.1.symm
        have hpsz : l.params.size = r.params.length := by rw [← q4]; simp
        let tmps' := ((l.params.zip vs.toArray).foldl (fun tmps (t, a) => tmps.setIfInBounds t a) l.tmps)
        have htm : tmps' = ((r.params.zip vs).foldl (fun tmps (t, a) => tmps.setIfInBounds t a) l.tmps) := by
          show Array.foldl _ _ _ = _
          rw [← Array.foldl_toList, Array.toList_zip, q4]
        obtain ⟨w1, w2⟩ := setParams_ok (k := k) (ps := r.params) (args := args) (vs := vs) (σ := r.σ) (tmps := l.tmps) ha hpl.1 q5 fun t => ⟨(q6 t).1, (q6 t).2.1⟩
        rw [← htm] at w1 w2
        refine ⟨.round b l.fn tmps' l.assign l.body, Frame.round b l.fn tmps' l.assign l.body .normal, ?_, .round, fun c cs => ?_⟩
        · unfold callOf Deferred.ofValue
          simp [invoke, Instr.yield, Instr.getLoop, run_getObj' hl, hsz, hpsz, tmps']
        · have hp : Pend k none false .normal c c := .inl ⟨rfl, .inl ⟨rfl, rfl⟩, .inl ⟨rfl, rfl⟩, fun fr hk cs => by unfold tryRecover; rw [hk]⟩
          have hdδ : d < δ + 1 := by
            rcases Nat.lt_or_ge d (δ + 1) with h1 | h1
            · exact h1
            · rw [hT.up d i (by omega)] at hb; cases hb
          have hbase : Base P pol k k ⟨δ + 1, false, [], some (d, i)⟩ (Below' 0) (Below' 0) { σ := setParams r.σ r.params (args.map D.degr), S, m := 0, live := fun _ => false, nt := 0, now := 0, low := δ + 1, pend := none, recd := false } []
              (Frame.round b l.fn tmps' l.assign l.body .normal) c c := by
            refine ⟨?_, .nil, ⟨q3d, hdδ, rfl, b, rfl, hb⟩, hp, .refl _ _ _⟩
            have hplain : ∀ t tk s xs, setParams r.σ r.params (args.map D.degr) t = .slice tk s xs → tk = .full ∨ tk = .none := fun t tk s xs e => by
              have := (w2 t).2
              rw [← this] at e
              exact degr_tk _ tk s xs e
            exact ⟨fun t => (w2 t).1, fun t => .plain (hplain t), fun t => .plain (hplain t), fun t _ => hT.upt _ t (by simp), fun t _ => rfl, fun i _ => hT.up _ i (by simp), fun i off _ => hT.upc _ i off (by simp), fun d i hd => hT.up d i (by simp at hd; omega),
              fun d t hd => hT.upt d t (by simp at hd; omega), fun d i off hd => hT.upc d i off (by simp at hd; omega), hg, hS, Nat.le_refl _⟩
          have htodo : Todo P pol (Frame.round b l.fn tmps' l.assign l.body .normal).tmps.size (Frame.round b l.fn tmps' l.assign l.body .normal).todo [.code r.assign, .beginRound, .code r.body] := by
            have : (Frame.round b l.fn tmps' l.assign l.body .normal).tmps.size = n := w1.trans q3c
            rw [this]
            exact .code q3a (.beginRound (.code q3b .nil))
          obtain ⟨k1, fr', c1, s1, _, k', s2, s3, s4, _⟩ := HR he (cl := fun c => c :: cs) (.inl rfl) hbase hT.at rfl htodo
          obtain ⟨c'', t1, t2, _⟩ := s4 cs
          obtain ⟨e1, e2⟩ := t2 rfl
          have hc1 : c1 = c := by
            rcases s3 with ⟨_, h⟩ | ⟨h, _⟩
            · exact h
            · rw [e1] at h; cases h
          subst hc1
          exact ⟨k', c'', s1.trans (.one t1), s2, e1, e2⟩
      · cases he
    · cases he
  · cases he

theorem mkCall_okD (hft : FtOk P pol ft) (HR : RunOk P pol run) : CallOkD P pol δ (mkCall ft run) := by
  intro pend f args S rt he k fv vs d hf ha hg hT hS ho
  unfold mkCall at he
  split at he
  · -- a function
    rename_i ff first cap
    obtain ⟨xs, us, rfl, hv, hu⟩ : ∃ xs us : List Value, fv = .func (.func ff) xs.toArray us.toArray ∧ Reps k xs first ∧ Reps k us cap := by
      cases hf with
      | fn vs us hv hu ra rb => exact ⟨vs, us, rfl, ⟨hv, ra⟩, ⟨hu, rb⟩⟩
    have hall := (hv.append ha).append hu
    have hd := ho k.w
    simp only [Deferred.ofValue, Sem.run_pure, Result.ok.injEq, and_true] at hd
    subst hd
    split at he
    · rename_i fn hfn
      have htr : trFunc P pol ff = some fn := hft ff _ hfn
      split at he
      · rename_i hl
        obtain ⟨gf, c, h1, h2, h3, h4, h5, h6⟩ := trFunc_inv htr
        refine ⟨ff, us.toArray, gf, c, rfl, h1, h5, h2, fun c0 cs hps => ?_⟩
        have harr : xs.toArray ++ vs.toArray ++ us.toArray = (xs ++ vs ++ us).toArray := by simp
        rw [harr]
        have hp : Pend k pend false .deferred c0 c0 := by
          rcases hps with ⟨rfl, h⟩ | ⟨t, x, v, rfl, h, hr⟩
          · exact .inl ⟨rfl, .inl ⟨rfl, rfl⟩, .inr rfl, fun fr hk cs => by unfold tryRecover; rw [hk]; simp [h]⟩
          · exact .inr ⟨t, x, v, [], rfl, rfl, rfl, rfl, h, hr⟩
        obtain ⟨b1, b2, b3⟩ := entered htr hall hg hT hS hl hp
        simp only [Option.isNone_some, Bool.false_and, Bool.false_eq_true, if_false] at he
        obtain ⟨k1, fr', c1, s1, _, k', s2, s3, s4, _⟩ := HR he (cl := fun c => c :: cs) (.inr ⟨cs, rfl⟩) b1 hT.at b2 b3
        obtain ⟨c'', t1, _, t3⟩ := s4 cs
        exact ⟨k', c'', c1, s1.trans (.one t1), s2, s3, t3 rfl⟩
      · cases he
    · cases he
    · cases he
  · split at he
    · split at he
      · rename_i h; simp at h
      · cases he
    · cases he
  · cases he
end
end Go.Mia
namespace Go.Mia
open Go

section
variable {P : Program} {pol : Pol} {k0 k : K} {cx : Cx} {st : St} {B T : Nat → Prop} {df : List IDefer} {fr fr' c0 c : Frame} {call : CallF} {cl : Frame → List Frame} {run : RunF}

/-- a little further in the text -/
theorem further (HR : RunOk P pol run) (HC : Callers cl fr.kind) (hb : Base P pol k0 k cx (Below' st.m) (Below' st.nt) st df fr c0 c) (U : ∀ d i, cx.δ ≤ d → k0.β d i = none) (hm : fr.mode = .run) {todo : List Item} {mt : List Go.Item} {rt : Ret} (hs : step P (lone fr (cl c) k.w) = .next (lone { fr with todo := mt } (cl c) k.w))
    (ht : Todo P pol fr.tmps.size mt todo) (he : run cx todo df st = some rt) : Goes P pol k0 k cx fr c0 c cl rt := by
  obtain ⟨k', fr', c', s1, s2, s3⟩ := HR (fr := { fr with todo := mt }) (cl := cl) he HC (hb.frame rfl rfl rfl rfl rfl) U hm ht
  exact ⟨k', fr', c', .head hs s1, s2, s3⟩

/-- the end of a frame's text -/
theorem out_ok (CD : CallOkD P pol cx.δ call) (hb : Base P pol k0 k cx (Below' st.m) (Below' st.nt) st df fr c0 c) (U : ∀ d i, cx.δ ≤ d → k0.β d i = none) (hm : fr.mode = .run) {jump : Option Jump} {rt : Ret} (he : outOf call cx df st jump = some rt)
    (ht : (fr.todo = [] ∧ jump = none) ∨ (∃ k, fr.todo = .code .ret :: k ∧ jump = some .ret) ∨ (∃ id k, fr.todo = .code (.exit id) :: k ∧ Go.exitTo id k = none ∧ jump = some (.exit id))) :
    Goes P pol k0 k cx fr c0 c cl rt := by
  unfold outOf at he
  split at he
  · rename_i d i hr
    split at he
    · exact round_ok hb U hm hr he ht
    · cases he
  · rename_i hr
    have hrnd := hb.rnd.2
    rw [hr] at hrnd
    have hro := hrnd.1
    split at he
    · cases he
    · rename_i hj
      have hst : step P (lone fr (cl c) k.w) = .next (lone { fr with mode := .returning } (cl c) k.w) := by
        rcases ht with ⟨h1, rfl⟩ | ⟨k, h1, rfl⟩ | ⟨id, k, h1, h2, rfl⟩
        · exact st_end hm h1 hro
        · exact st_ret hm h1 hro
        · exact absurd rfl (hj id)
      obtain ⟨k', fr', c', s1, s2, s3⟩ := leave_ok (cl := cl) CD hr U he (fr := { fr with mode := .returning }) (hb.frame rfl rfl rfl rfl rfl) (show ModeOk k .ret .returning from rfl)
      exact ⟨k', fr', c', .head hst s1, s2, s3⟩

/-- what code is translated to what -/
theorem tr_skip {f n : Nat} {c : Code} (h : trCode P pol f n c = some .skip) : c = .skip ∨ ∃ l, c = .label l := by
  cases c <;> simp only [trCode] at h
  case skip => exact .inl rfl
  case label l => exact .inr ⟨l, rfl⟩
  case region => simp at h
  case seq => split at h <;> simp at h
  case cond => split at h <;> simp at h
  case block => simp at h
  case loop => simp at h
  case scope => simp at h
  case rangeFunc => split at h <;> first | (split at h <;> simp at h) | simp at h
  all_goals simp at h
theorem tr_region {f n : Nat} {c : Code} {os : List IOper} (h : trCode P pol f n c = some (.region os)) : ∃ id ops draw, c = .region id ops draw ∧ trRegion P pol f n ops draw = some os := by
  cases c <;> simp only [trCode] at h
  case region id ops draw => simp only [Option.map_eq_some_iff, IC.region.injEq] at h; obtain ⟨a, h1, rfl⟩ := h; exact ⟨id, ops, draw, rfl, h1⟩
  case seq => split at h <;> simp at h
  case cond => split at h <;> simp at h
  case block => simp at h
  case loop => simp at h
  case scope => simp at h
  case rangeFunc => split at h <;> first | (split at h <;> simp at h) | simp at h
  all_goals simp at h
theorem tr_seq {f n : Nat} {c : Code} {a b : IC} (h : trCode P pol f n c = some (.seq a b)) : ∃ ca cb, c = .seq ca cb ∧ trCode P pol f n ca = some a ∧ trCode P pol f n cb = some b := by
  cases c <;> simp only [trCode] at h
  case region => simp at h
  case seq ca cb =>
    split at h
    · rename_i a' b' h1 h2
      simp only [Option.some.injEq, IC.seq.injEq] at h
      obtain ⟨rfl, rfl⟩ := h
      exact ⟨ca, cb, rfl, h1, h2⟩
    · simp at h
  case cond => split at h <;> simp at h
  case block => simp at h
  case loop => simp at h
  case scope => simp at h
  case rangeFunc => split at h <;> first | (split at h <;> simp at h) | simp at h
  all_goals simp at h
theorem tr_cond {f n : Nat} {c : Code} {x : Opnd} {a b : IC} (h : trCode P pol f n c = some (.cond x a b)) : ∃ cx ca cb, c = .cond cx ca cb ∧ opnd P 0 cx = some x ∧ trCode P pol f n ca = some a ∧ trCode P pol f n cb = some b := by
  cases c <;> simp only [trCode] at h
  case region => simp at h
  case cond cx ca cb =>
    split at h
    · rename_i x' a' b' h0 h1 h2
      simp only [Option.some.injEq, IC.cond.injEq] at h
      obtain ⟨rfl, rfl, rfl⟩ := h
      exact ⟨cx, ca, cb, rfl, h0, h1, h2⟩
    · simp at h
  case seq => split at h <;> simp at h
  case block => simp at h
  case loop => simp at h
  case scope => simp at h
  case rangeFunc => split at h <;> first | (split at h <;> simp at h) | simp at h
  all_goals simp at h
theorem tr_block {f n id : Nat} {c : Code} {a : IC} (h : trCode P pol f n c = some (.block id a)) : ∃ ca, c = .block id ca ∧ trCode P pol f n ca = some a := by
  cases c <;> simp only [trCode] at h
  case region => simp at h
  case block id' ca => simp only [Option.map_eq_some_iff, IC.block.injEq] at h; obtain ⟨a, h1, rfl, rfl⟩ := h; exact ⟨ca, rfl, h1⟩
  case seq => split at h <;> simp at h
  case cond => split at h <;> simp at h
  case loop => simp at h
  case scope => simp at h
  case rangeFunc => split at h <;> first | (split at h <;> simp at h) | simp at h
  all_goals simp at h
theorem tr_loop {f n : Nat} {c : Code} {a : IC} (h : trCode P pol f n c = some (.loop a)) : ∃ ca, c = .loop ca ∧ trCode P pol f n ca = some a := by
  cases c <;> simp only [trCode] at h
  case region => simp at h
  case loop ca => simp only [Option.map_eq_some_iff, IC.loop.injEq] at h; obtain ⟨a, h1, rfl⟩ := h; exact ⟨ca, rfl, h1⟩
  case seq => split at h <;> simp at h
  case cond => split at h <;> simp at h
  case block => simp at h
  case scope => simp at h
  case rangeFunc => split at h <;> first | (split at h <;> simp at h) | simp at h
  all_goals simp at h
theorem tr_scope {f n : Nat} {c : Code} {a : IC} (h : trCode P pol f n c = some (.scope a)) : ∃ ca, c = .scope ca ∧ trCode P pol f n ca = some a := by
  cases c <;> simp only [trCode] at h
  case region => simp at h
  case scope ca => simp only [Option.map_eq_some_iff, IC.scope.injEq] at h; obtain ⟨a, h1, rfl⟩ := h; exact ⟨ca, rfl, h1⟩
  case seq => split at h <;> simp at h
  case cond => split at h <;> simp at h
  case block => simp at h
  case loop => simp at h
  case rangeFunc => split at h <;> first | (split at h <;> simp at h) | simp at h
  all_goals simp at h
theorem tr_exit {f n id : Nat} {c : Code} (h : trCode P pol f n c = some (.exit id)) : c = .exit id := by
  cases c <;> simp only [trCode] at h
  case region => simp at h
  case exit id' => simp only [Option.some.injEq, IC.exit.injEq] at h; rw [h]
  case seq => split at h <;> simp at h
  case cond => split at h <;> simp at h
  case block => simp at h
  case loop => simp at h
  case scope => simp at h
  case rangeFunc => split at h <;> first | (split at h <;> simp at h) | simp at h
  all_goals simp at h
theorem tr_ret {f n : Nat} {c : Code} (h : trCode P pol f n c = some .ret) : c = .ret := by
  cases c <;> simp only [trCode] at h
  case region => simp at h
  case ret => rfl
  case seq => split at h <;> simp at h
  case cond => split at h <;> simp at h
  case block => simp at h
  case loop => simp at h
  case scope => simp at h
  case rangeFunc => split at h <;> first | (split at h <;> simp at h) | simp at h
  all_goals simp at h
theorem tr_range {f n : Nat} {c : Code} {g : Opnd} {ps : List Nat} {a b : IC} (h : trCode P pol f n c = some (.rangeFunc g ps a b)) : ∃ cg cps ca cb, c = .rangeFunc cg cps ca cb ∧ opnd P 0 cg = some g ∧ cps.toList = ps ∧ (∀ p ∈ ps, p < n) ∧ trCode P pol f n ca = some a ∧ trCode P pol f n cb = some b := by
  cases c <;> simp only [trCode] at h
  case region => simp at h
  case rangeFunc cg cps ca cb =>
    split at h
    · rename_i g' a' b' h0 h1 h2
      split at h
      · rename_i hp
        simp only [Option.some.injEq, IC.rangeFunc.injEq] at h
        obtain ⟨rfl, rfl, rfl, rfl⟩ := h
        refine ⟨cg, cps, ca, cb, rfl, h0, rfl, fun p hp' => ?_, h1, h2⟩
        obtain ⟨i, hi, rfl⟩ := Array.mem_iff_getElem.1 (Array.mem_def.2 hp')
        simp only [Array.all_eq_true, decide_eq_true_eq] at hp
        exact hp i hi
      · simp at h
    · simp at h
  case seq => split at h <;> simp at h
  case cond => split at h <;> simp at h
  case block => simp at h
  case loop => simp at h
  case scope => simp at h
  all_goals simp at h
end
end Go.Mia
namespace Go.Mia
open Go

def loopWorld (fr : Frame) (params : Array Tmp) (as bd : Code) (w : World) : World :=
  { w with heap := (w.heap.push (.deferred (some []))).push (.loop { state := .ready, pending := none, fn := fr.fn, tmps := fr.tmps, params, assign := as, body := bd, defers := w.heap.size }) }

theorem st_range {P : Program} {fr fr0 : Frame} {cs : List Frame} {w : World} {k : List Go.Item} {f : Operand} {params : Array Tmp} {as bd : Code} {x : Next} (hm : fr.mode = .run) (hr : fr.roundOf = none) (ht : fr.todo = .code (.rangeFunc f params as bd) :: k)
    (hx : (callOf (fr.eval f) #[.func (.yield (w.heap.size + 1)) #[] #[]]).run P (loopWorld fr params as bd w) = .ok x (loopWorld fr params as bd w)) (he : Enters P x .normal fr0) :
    step P (lone fr cs w) = .next (lone fr0
      ({ fr with todo := .inRangeFunc (w.heap.size + 1) :: k, defers := { target := .collected w.heap.size, args := #[] } :: fr.defers } :: cs) (loopWorld fr params as bd w)) := by
  have hloop : (Instr.enterLoop fr.fn fr.tmps params as bd none).run P w = .ok (w.heap.size + 1, [{ target := .collected w.heap.size, args := #[] }]) (loopWorld fr params as bd w) := by
    have : loopWorld fr params as bd w = { w with heap := (w.heap.push (.deferred (some []))).push (.loop { state := .ready, pending := none, fn := fr.fn, tmps := fr.tmps, params, assign := as, body := bd, defers := w.heap.size }) } := rfl
    rw [this]
    simp [Instr.enterLoop]
    rfl
  refine step_lone_go ?_
  have key : stepG P true { frame := fr, callers := cs, status := .running, dying := none } w = GStep.after (seen P fr.fn (Sem.events P (Instr.enterLoop fr.fn fr.tmps params as bd none) w #[])) (stepG.apply P true { fr with todo := .inRangeFunc (w.heap.size + 1) :: k, defers := { target := .collected w.heap.size, args := #[] } :: fr.defers } cs none
      (do let d ← resolve ({ fr with todo := .inRangeFunc (w.heap.size + 1) :: k, defers := { target := .collected w.heap.size, args := #[] } :: fr.defers } : Frame).eval { callee := .value f, args := #[.const (.func (.yield (w.heap.size + 1)) #[] #[])], argTypes := #[] } 0; invoke d.target d.args) (loopWorld fr params as bd w)) := by
    simp [stepG, stepG.exec, hm, ht, hr, Sem.runT_eq, hloop]
  have hev : ({ fr with todo := .inRangeFunc (w.heap.size + 1) :: k, defers := { target := .collected w.heap.size, args := #[] } :: fr.defers } : Frame).eval = fr.eval := by funext x; cases x <;> rfl
  have hdo : (do let d ← resolve fr.eval { callee := .value f, args := #[.const (.func (.yield (w.heap.size + 1)) #[] #[])], argTypes := #[] } 0; invoke d.target d.args : Sem Next) = callOf (fr.eval f) #[.func (.yield (w.heap.size + 1)) #[] #[]] := by
    unfold callOf resolve
    have : (#[.const (.func (.yield (w.heap.size + 1)) #[] #[])] : Array Operand).map fr.eval = #[.func (.yield (w.heap.size + 1)) #[] #[]] := by simp [Frame.eval]
    simp only [this]
  rw [key, hev, hdo]
  cases he <;> simp [stepG.apply, Sem.runT_eq, hx]
end Go.Mia
namespace Go.Mia
open Go

section
variable {P : Program} {pol : Pol} {k0 k k' : K} {cx : Cx} {st st' : St} {B T : Nat → Prop} {df : List IDefer} {fr fr' c0 c : Frame} {call : CallF} {cl : Frame → List Frame} {run : RunF} {δ j : Nat} {tmps : Array Value}

/-- a change that leaves no name -/
theorem FrRel.keep (h : FrRel P pol k δ B T st tmps) (hB : ¬ B (st.m + j)) (hT : ¬ T (st.nt + j)) (C : Chg P pol δ j st st' k k') (hm : k'.β δ (st.m + j) = none) (hl : st'.live (st.nt + j) = false) (hs : k'.sp (.tok δ (st.nt + j)) = none) : FrRel P pol k' δ B T st' tmps := by
  have r := h.chg hB hT C (v := undef) (d := .undef) (.undef _) (.plain (by simp)) (.plain (by simp)) (fun _ => hs) (dst := none) (by simp)
  exact {
    rep := r.rep
    tk := r.tk
    names := fun t => by
      have : (putD st' none D.undef).σ t = st.σ t := congrFun C.σ t
      show NameOk δ B T (st'.σ t)
      rw [show st'.σ t = st.σ t from congrFun C.σ t]
      exact h.names t
    dead := r.dead
    newt := fun t ht => by
      by_cases e : t = st.nt + j
      · subst e; exact hl
      · exact r.newt t fun h' => h'.elim ht e
    newm := fun i hi => by
      by_cases e : i = st.m + j
      · subst e; exact hm
      · exact r.newm i fun h' => h'.elim hi e
    newc := fun i off hi => by
      by_cases e : i = st.m + j
      · subst e
        cases hsc : k'.sp (.cell δ (st.m + j) off) with
        | none => rfl
        | some q =>
          obtain ⟨b, hb⟩ := C.good.cb δ (st.m + j) off q hsc
          rw [hm] at hb; cases hb
      · exact r.newc i off fun h' => h'.elim hi e
    up := r.up, upt := r.upt, upc := r.upc, good := r.good, store := r.store, low := r.low }

theorem FrRel.nextNow (h : FrRel P pol k δ B T st tmps) : FrRel P pol k δ B T { st with now := st.now + 1 } tmps :=
  { h with tk := fun t => (h.tk t).nextNow }

/-- the box of a loop is made -/
theorem chg_newLoop (L : Loc P pol k δ j st B T) {l : Loop} {r : LoopRec} (hr : LoopRel P pol ⟨push k.w (.loop l), updβ k.β δ (st.m + j) k.w.heap.size, k.sp⟩ δ l r) :
    Chg P pol δ j st { st with S := upd2 st.S δ (st.m + j) (.loop r) } k ⟨push k.w (.loop l), updβ k.β δ (st.m + j) k.w.heap.size, k.sp⟩ := by
  have hstep : ∀ low, low ≤ δ → Step δ low k ⟨push k.w (.loop l), updβ k.β δ (st.m + j) k.w.heap.size, k.sp⟩ := by
    intro low hlow
    refine push_step ⟨rfl, rfl, rfl, rfl⟩ ?_ ?_ ?_ (fun _ _ _ _ => rfl) (fun _ _ _ => rfl) L.good.lt
    · intro d i b hb
      unfold updβ; split
      · rename_i h; rw [h.1, h.2, L.fb] at hb; cases hb
      · exact hb
    · intro d i b hb
      unfold updβ at hb; split at hb
      · rename_i h; injection hb with hb; exact .inr ⟨hb.symm, by omega⟩
      · exact .inl hb
    · intro h b o ho; exact .inr ⟨h, o, ho, Nat.le_refl _⟩
  refine { ext := fun low h _ => (hstep low h).ext, low := Nat.le_refl _, good := ?_, β := ?_, store := ?_, now := .inl ⟨rfl, fun _ _ _ _ => rfl, fun d i b hb => push_old _ _ (L.good.lt _ _ _ hb), rfl⟩, tok := fun t _ h => ⟨h, rfl⟩, dead := ?_, tokf := fun _ _ _ => rfl, other := fun _ _ _ => rfl, lv := fun _ _ _ _ => rfl, tks := fun _ _ _ => rfl, m := rfl, nt := rfl, σ := rfl, pend := rfl, recd := rfl }
  · refine ⟨?_, ?_, ?_, L.good.spinj, ?_, fun d i off r hr => ?_⟩
    · intro d i d' i' b hb hb'
      simp only [updβ] at hb hb'
      split at hb <;> split at hb'
      · rename_i h h'; exact ⟨by omega, by omega⟩
      · injection hb with hb; have := L.good.lt _ _ _ hb'; omega
      · injection hb' with hb'; have := L.good.lt _ _ _ hb; omega
      · exact L.good.inj _ _ _ _ _ hb hb'
    · intro d i b hb
      simp only [updβ] at hb
      show b < (push k.w _).heap.size
      rw [push_size]
      split at hb
      · injection hb with hb; omega
      · have := L.good.lt _ _ _ hb; omega
    · intro h b o ho
      show b < (push k.w _).heap.size
      rw [push_size]
      have := L.good.splt _ _ _ ho; omega
    · intro d i b h o hb ho
      simp only [updβ] at hb
      split at hb
      · injection hb with hb; have := L.good.splt _ _ _ ho; omega
      · exact L.good.disj _ _ _ _ _ hb ho
    · obtain ⟨b, hb⟩ := L.good.cb d i off r hr
      by_cases h : d = δ ∧ i = st.m + j
      · exact ⟨k.w.heap.size, by simp [updβ, h]⟩
      · exact ⟨b, by simp [updβ, h, hb]⟩
  · intro d i hne; simp [updβ, hne]
  · intro d i b hb
    by_cases h : d = δ ∧ i = st.m + j
    · right
      obtain ⟨rfl, rfl⟩ := h
      simp only [updβ, and_self, if_true] at hb
      injection hb with hb
      subst hb
      simp only [upd2, and_self, if_true]
      exact ⟨l, push_new _ _, hr⟩
    · left
      simp only [updβ, if_neg h] at hb
      exact ⟨by simp [upd2, h], hb, push_old _ _ (L.good.lt _ _ _ hb), fun off => rfl⟩
  · intro t _ h h'
    rcases h' with h' | h'
    · exact h'
    · have h2 : st.live t = false := h
      rw [h2] at h'; cases h'

/-- a loop over a function -/
theorem range_ok (HR : RunOk P pol run) (HC : Callers cl fr.kind) (CO : CallOk P pol cx.δ call) (CD : CallOkD P pol cx.δ call) (hb : Base P pol k0 k cx (Below' st.m) (Below' st.nt) st df fr c0 c) (U : ∀ d i, cx.δ ≤ d → k0.β d i = none) (hm : fr.mode = .run)
    {g : Opnd} {ps : List Nat} {as bd : IC} {kk : List Item} {cg : Operand} {cps : Array Tmp} {cas cbd : Code} {mk : List Go.Item} {f : Nat} {rt r : Ret} (ht : fr.todo = .code (.rangeFunc cg cps cas cbd) :: mk)
    (hg : opnd P 0 cg = some g) (hps : cps.toList = ps) (hpl : ∀ p ∈ ps, p < fr.tmps.size) (ha : trCode P pol f fr.tmps.size cas = some as) (hbd : trCode P pol f fr.tmps.size cbd = some bd) (htodo : Todo P pol fr.tmps.size mk kk) (hro : cx.round = none)
    (hc : call none (ev st.σ g) [.yld cx.δ st.m] (upd2 st.S cx.δ st.m (loopObj cx.δ st ps as bd)) (cx.δ + 1) = some r)
    (he : loopBack run call cx kk df { st with S := r.S'.getD (upd2 st.S cx.δ st.m (loopObj cx.δ st ps as bd)), m := st.m + 1, nt := st.nt + 1, now := st.now + 1, low := min st.low r.low } st.m r.out = some rt) :
    Goes P pol k0 k cx fr c0 c cl rt := by
  have hrnd := hb.rnd
  have hround : fr.roundOf = none := by have := hrnd.2; rw [hro] at this; exact this.1
  -- the block of the deferred calls
  let k1 : K := { k with w := push k.w (.deferred (some [])) }
  have hk1 : ∀ x, x < k.w.heap.size → k1.w.heap[x]? = k.w.heap[x]? := fun x hx => push_old _ _ hx
  have hk1s : k1.w.heap.size = k.w.heap.size + 1 := push_size _ _
  have A : Aside k k1 := ⟨rfl, rfl, by omega, fun x cs e f hx => hk1 x (Array.getElem?_eq_some_iff.1 hx).1, fun d i x hx => hk1 x (hb.rel.good.lt d i x hx), rfl, rfl, rfl⟩
  have hb1 := A.base hb hk1
  -- the loop
  let l : Loop := { state := .ready, pending := none, fn := fr.fn, tmps := fr.tmps, params := cps, assign := cas, body := cbd, defers := k.w.heap.size }
  let lr : LoopRec := { state := .ready, pending := none, σ := fun t => (st.σ t).snap cx.δ, params := ps, assign := as, body := bd }
  let k2 : K := ⟨push k1.w (.loop l), updβ k1.β cx.δ (st.m + 0) k1.w.heap.size, k1.sp⟩
  have L1 := hb1.rel.loc (j := 0) (by unfold Below'; omega) (by unfold Below'; omega)
  have hlater : Later k1 k2 := by
    refine (push_step (δ := cx.δ) (low := 0) ⟨rfl, rfl, rfl, rfl⟩ ?_ ?_ ?_ (fun _ _ _ _ => rfl) (fun _ _ _ => rfl) L1.good.lt).ext.later
    · intro d i b hb
      unfold updβ; split
      · rename_i h; rw [h.1, h.2, L1.fb] at hb; cases hb
      · exact hb
    · intro d i b hb
      unfold updβ at hb; split at hb
      · rename_i h; injection hb with hb; exact .inr ⟨hb.symm, by omega⟩
      · exact .inl hb
    · intro h b o ho; exact .inr ⟨h, o, ho, Nat.le_refl _⟩
  have hrel : LoopRel P pol k2 cx.δ l lr := by
    refine ⟨rfl, rfl, ⟨fr.tmps.size, f, ha, hbd, rfl, hrnd.1⟩, hps, hpl, fun t => ?_⟩
    have hrt := (hb1.rel.rep t).later hlater
    show Rep k2 (fr.tmps.getD t undef) ((st.σ t).snap cx.δ) ∧ ((st.σ t).snap cx.δ).degr = (st.σ t).snap cx.δ ∧ (((st.σ t).snap cx.δ).upto cx.δ = true ∨ (st.σ t).snap cx.δ = .undef)
    unfold D.snap
    split
    · rename_i hu
      exact ⟨hrt.degr, degr_degr _, .inl hu⟩
    · exact ⟨.undef _, rfl, .inr rfl⟩
  have C2 : Chg P pol cx.δ 0 st { st with S := upd2 st.S cx.δ (st.m + 0) (.loop lr) } k1 k2 := chg_newLoop L1 hrel
  have E2 : Ext cx.δ st.low k1 k2 := C2.ext st.low hb.rel.low (Nat.le_refl _)
  have rel2 : FrRel P pol k2 cx.δ (Below' (st.m + 1)) (Below' (st.nt + 1)) { st with S := upd2 st.S cx.δ (st.m + 0) (.loop lr) } fr.tmps := by
    have := hb1.rel.chg (by unfold Below'; omega) (by unfold Below'; omega) C2 (v := undef) (d := .undef) (.undef _) (.plain (by simp)) (.plain (by simp)) (fun _ => hb1.rel.dead _ (hb1.rel.newt _ (by unfold Below'; omega))) (dst := none) (by simp)
    exact this.wider (fun i hi => hi.elim (fun h => by have h' : i < st.m := h; show i < _; omega) fun h => by show i < _; omega) (fun i hi => hi.elim (fun h => by have h' : i < st.nt := h; show i < _; omega) fun h => by show i < _; omega)
  let hs : Nat := k.w.heap.size
  let fr2 : Frame := { fr with todo := .inRangeFunc (k.w.heap.size + 1) :: mk, defers := { target := .collected k.w.heap.size, args := #[] } :: fr.defers }
  have hβ2 : k2.β cx.δ st.m = some (k.w.heap.size + 1) := by
    show updβ k1.β cx.δ (st.m + 0) k1.w.heap.size cx.δ st.m = _
    simp [updβ, hk1s]
  have hne2 : ∀ d i, k2.β d i ≠ some k.w.heap.size := by
    intro d i e
    have e' : updβ k1.β cx.δ (st.m + 0) k1.w.heap.size d i = some k.w.heap.size := e
    unfold updβ at e'
    split at e'
    · injection e' with e'; omega
    · have := hb.rel.good.lt d i _ e'; omega
  have hdf2 : k2.w.heap[k.w.heap.size]? = some (.deferred (some [])) := by
    show (push k1.w _).heap[_]? = _
    rw [push_old _ _ (by omega)]
    exact push_new _ _
  have hdefs2 : Defs P k0.w.heap.size k2 fr2.defers (.mark :: df) := by
    refine .mark hb.ext.size hdf2 hne2 (fun h o e => ?_) (fun d hd b' hb' => ?_) (hb1.defs.ext E2)
    · have := hb.rel.good.splt h _ o e; omega
    · have := hb.defs.lt d hd b' hb'; omega
  have hb2 : Base P pol k0 k2 cx (Below' (st.m + 1)) (Below' (st.nt + 1)) { st with S := upd2 st.S cx.δ (st.m + 0) (.loop lr) } (.mark :: df) fr2 c0 c :=
    ⟨rel2, hdefs2, hb1.rnd.ext E2 rfl rfl rfl, hb1.pend.ext E2, hb1.ext.trans E2 hb.rel.low⟩
  -- the call
  have vg := opnd_val (a := actOf fr) hg fun s _ => hb.rel.val s
  have hfv : Rep k2 (fr.eval cg) (ev st.σ g) := by rw [eval_actOf]; exact (vg.rep.later A.later).later hlater
  have hargs : Reps k2 [.func (.yield (k.w.heap.size + 1)) #[] #[]] [.yld cx.δ st.m] := .cons (.yld hβ2) .nil
  obtain ⟨x, fr0, hx, hen, hrun⟩ := CO _ _ _ _ hc k2 _ _ hfv hargs rel2.good rel2.tops rel2.store
  have hw : k2.w = loopWorld fr cps cas cbd k.w := rfl
  have hst := st_range (P := P) (cs := cl c) (w := k.w) hm hround ht (x := x) (fr0 := fr0) (by rw [← hw]; exact hx) hen
  rw [← hw] at hst
  obtain ⟨k3, c3, s3, hleft, hrec, hback⟩ := hrun fr2 (cl c)
  -- behind the call
  let st2 : St := { st with S := upd2 st.S cx.δ (st.m + 0) (.loop lr), m := st.m + 1, nt := st.nt + 1 }
  let st1 : St := { st with S := r.S'.getD (upd2 st.S cx.δ st.m (loopObj cx.δ st ps as bd)), m := st.m + 1, nt := st.nt + 1, now := st.now + 1, low := min st.low r.low }
  have hb2' : Base P pol k0 k2 cx (Below' (st.m + 1)) (Below' (st.nt + 1)) st2 (.mark :: df) fr2 c0 c := hb2.same rfl rfl rfl rfl rfl rfl rfl
  have nB : ¬ Below' (st.m + 1) (st2.m + 0) := by show ¬ (st.m + 1 + 0 < st.m + 1); omega
  have nT : ¬ Below' (st.nt + 1) (st2.nt + 0) := by show ¬ (st.nt + 1 + 0 < st.nt + 1); omega
  have L2 := hb2'.rel.loc (j := 0) nB nT
  obtain ⟨st3, hac⟩ : ∃ st3, afterCall st2 true r = some st3 := by unfold afterCall; cases r.S' <;> exact ⟨_, rfl⟩
  have C3 := chg_call (h := false) L2 hb2'.rel.tops hleft hac
  have hst3 : st3 = (match r.S' with | none => st2 | some S' => { st2 with S := S', now := st2.now + 1, low := min st2.low r.low }) := by
    unfold afterCall at hac
    cases hS : r.S' <;> rw [hS] at hac <;> simp at hac <;> exact hac.symm
  let k4 : K := afterK k3 cx.δ (st2.nt + 0) false
  have E3 : Ext cx.δ st3.low k2 k4 := C3.ext st3.low (by have := C3.low; have := hb.rel.low; have h2 : st2.low = st.low := rfl; simp only [Bool.false_eq_true, if_false] at *; omega) (Nat.le_refl _)
  have rel3 : FrRel P pol k4 cx.δ (Below' (st.m + 1)) (Below' (st.nt + 1)) st3 fr2.tmps := by
    refine hb2'.rel.keep nB nT C3 ?_ ?_ (by rw [afterK_new]; rfl)
    · show k3.β cx.δ (st2.m + 0) = none
      rw [hleft.ext.lv cx.δ _ (by omega)]; exact L2.fb
    · have : st3.live = st2.live := (afterCall_live hac).1
      show st3.live _ = false
      rw [this]; exact L2.fl
  have hlow : st3.low = st1.low := by
    rw [hst3]
    cases hS : r.S' with
    | none =>
      have h1 := hleft.store
      rw [hS] at h1
      have h2 : r.low = cx.δ + 1 := h1
      have := hb.rel.low
      show st.low = min st.low r.low
      omega
    | some S' => rfl
  have rel1 : FrRel P pol k4 cx.δ (Below' (st.m + 1)) (Below' (st.nt + 1)) st1 fr2.tmps := by
    have hS1 : st1.S = r.S'.getD (upd2 st.S cx.δ st.m (loopObj cx.δ st ps as bd)) := rfl
    cases hS : r.S' with
    | none =>
      rw [hS] at hst3 hS1
      rw [hst3] at rel3 hlow
      exact rel3.nextNow.same rfl hS1 rfl rfl hlow.symm
    | some S' =>
      rw [hS] at hst3 hS1
      rw [hst3] at rel3 hlow
      exact rel3.same rfl hS1 rfl rfl hlow.symm
  have hb4 : Base P pol k0 k4 cx (Below' st1.m) (Below' st1.nt) st1 (.mark :: df) fr2 c0 c := by
    refine ⟨rel1, hb2'.defs.ext E3, hb2'.rnd.ext E3 rfl rfl rfl, hb2'.pend.ext E3, ?_⟩
    rw [← hlow]
    exact (hb2'.ext.mono C3.low).trans E3 (show st3.low ≤ cx.δ by rw [hlow]; exact rel1.low)
  have hfin : fr2.mode = .run := hm
  have steps : Steps P (lone fr (cl c) k.w) (lone c3 (cl c) k4.w) := .head hst s3
  unfold loopBack at he
  cases hout : r.out with
  | pan v =>
    rw [hout] at he hback
    obtain ⟨v', rfl, hr, hp, t, y, rfl⟩ := hback
    have hmode : ModeOk k4 (.pan (.iface t y)) (fr2.raise [{ v := v', recovered := false }]).mode := by
      rw [raise_run hfin]
      exact ⟨v', t, y, rfl, rfl, hr.later afterK_later⟩
    have hb5 : Base P pol k0 k4 cx (Below' st1.m) (Below' st1.nt) st1 (.mark :: df) (fr2.raise [{ v := v', recovered := false }]) c0 c := by
      rw [raise_run hfin]
      exact hb4.frame rfl rfl rfl rfl rfl
    obtain ⟨k', fr', c', t1, t2, t3⟩ := leave_ok (cl := cl) CD hro U he hb5 hmode
    rw [raise_run hfin] at t2 t3
    exact ⟨k', fr', c', steps.trans t1, t2, t3⟩
  | ret d =>
    rw [hout] at he hback
    obtain ⟨v, rfl, hr, hrt⟩ := hback
    simp only at he
    split at he
    rotate_left
    · cases he
    rename_i lr' hlr
    split at he
    · cases he
    rename_i hbusy
    have hβ4 : k4.β cx.δ st.m = some (k.w.heap.size + 1) := by
      show k3.β cx.δ st.m = _
      rw [hleft.ext.lv cx.δ _ (by omega)]; exact hβ2
    obtain ⟨l', hl', hrel'⟩ : ObjRel P pol k4 cx.δ st.m (k.w.heap.size + 1) (.loop lr') := by
      rw [← hlr]; exact rel1.store _ _ _ hβ4
    have hns : l'.state ≠ .busy := by
      rw [hrel'.state]
      cases hs : lr'.state <;> simp [stateOf]
      exact hbusy hs
    have hf2 : fr2.finish v = { fr2 with todo := .endRangeFunc (k.w.heap.size + 1) :: mk } := rfl
    rw [hf2] at steps
    have hst5 := st_endRangeFunc (P := P) (cs := cl c) (w := k4.w) (fr := { fr2 with todo := .endRangeFunc (k.w.heap.size + 1) :: mk }) (k := mk) hfin rfl hl' hns
    have hb5 := hb4.setLoop (l' := { l' with state := .exhausted }) (o := .none) hβ4 hl' trivial
    let fr5 : Frame := { fr2 with todo := (l'.pending.map Go.Item.code).toList ++ mk }
    have steps5 : Steps P (lone fr (cl c) k.w) (lone fr5 (cl c) (setObjK k4 (k.w.heap.size + 1) (.loop { l' with state := .exhausted })).w) := steps.trans (.one hst5)
    have hb6 : Base P pol k0 (setObjK k4 (k.w.heap.size + 1) (.loop { l' with state := .exhausted })) cx (Below' st1.m) (Below' st1.nt) { st1 with S := upd2 st1.S cx.δ st.m .none, now := st1.now + 1, low := min st1.low cx.δ } (.mark :: df) fr5 c0 c := hb5.frame rfl rfl rfl rfl rfl
    have fin : ∀ todo, run cx todo (.mark :: df) { st1 with S := upd2 st1.S cx.δ st.m .none, now := st1.now + 1, low := min st1.low cx.δ } = some rt → Todo P pol fr5.tmps.size fr5.todo todo →
        Goes P pol k0 k cx fr c0 c cl rt := by
      intro todo he ht
      obtain ⟨k', fr', c', t1, t2, t3⟩ := HR (fr := fr5) he (cl := cl) HC hb6 U hfin ht
      exact ⟨k', fr', c', steps5.trans t1, t2, t3⟩
    have hpend := hrel'.pending
    split at he
    · rename_i hp
      rw [hp] at hpend
      refine fin kk he ?_
      show Todo P pol fr.tmps.size ((l'.pending.map Go.Item.code).toList ++ mk) kk
      rw [hpend]; exact htodo
    · rename_i id hp
      rw [hp] at hpend
      refine fin _ he ?_
      show Todo P pol fr.tmps.size ((l'.pending.map Go.Item.code).toList ++ mk) _
      rw [hpend]; exact .code (f := f) rfl htodo
    · rename_i hp
      rw [hp] at hpend
      refine fin _ he ?_
      show Todo P pol fr.tmps.size ((l'.pending.map Go.Item.code).toList ++ mk) _
      rw [hpend]; exact .code (f := f) rfl htodo
end
end Go.Mia
namespace Go.Mia
open Go

section
variable {P : Program} {pol : Pol} {k0 k k' : K} {cx : Cx} {st st' : St} {B T : Nat → Prop} {df : List IDefer} {fr fr' c0 c : Frame} {call : CallF} {cl : Frame → List Frame} {run : RunF}

theorem step_ok (GO : GoOk P pol) (HR : RunOk P pol run) (CO : ∀ δ, CallOk P pol δ call) (CD : ∀ δ, CallOkD P pol δ call) : RunOk P pol (stepR run call) := by
  intro cx todo df st rt he k0 k fr c0 c cl HC hb U hm ht
  generalize hmt : fr.todo = mt at ht
  unfold stepR at he
  split at he
  · -- the end
    cases ht
    exact out_ok (CD cx.δ) hb U hm he (.inl ⟨hmt, rfl⟩)
  · -- skip
    cases ht with
    | code h t =>
      rcases tr_skip h with rfl | ⟨l, rfl⟩
      · exact further HR HC hb U hm (st_skip hm hmt) t he
      · exact further HR HC hb U hm (st_label hm hmt) t he
  · cases ht with
    | inBlock t => exact further HR HC hb U hm (st_inBlock hm hmt) t he
  · cases ht with
    | inScope t => exact further HR HC hb U hm (st_inScope hm hmt) t he
  · cases ht with
    | inLoop h t => exact further HR HC hb U hm (st_inLoop hm hmt) (.code h (.inLoop h t)) he
  · cases ht with
    | code h t =>
      obtain ⟨ca, rfl, h1⟩ := tr_loop h
      exact further HR HC hb U hm (st_loop hm hmt) (.code h1 (.inLoop h1 t)) he
  · cases ht with
    | code h t =>
      obtain ⟨ca, rfl, h1⟩ := tr_scope h
      exact further HR HC hb U hm (st_scope hm hmt) (.code h1 (.inScope t)) he
  · cases ht with
    | code h t =>
      obtain ⟨ca, rfl, h1⟩ := tr_block h
      exact further HR HC hb U hm (st_block hm hmt) (.code h1 (.inBlock t)) he
  · cases ht with
    | code h t =>
      obtain ⟨ca, cb, rfl, h1, h2⟩ := tr_seq h
      exact further HR HC hb U hm (st_seq hm hmt) (.code h1 (.code h2 t)) he
  · cases ht with
    | code h t =>
      obtain ⟨cx', ca, cb, rfl, h0, h1, h2⟩ := tr_cond h
      have vg := (opnd_val (a := actOf fr) h0 fun s _ => hb.rel.val s).rep
      rw [← eval_actOf] at vg
      split at he
      · rename_i e
        rw [e] at vg
        exact further HR HC hb U hm (st_cond (t := true) hm hmt (Rep.inv_bool vg)) (.code h1 t) he
      · rename_i e
        rw [e] at vg
        exact further HR HC hb U hm (st_cond (t := false) hm hmt (Rep.inv_bool vg)) (.code h2 t) he
      · cases he
  · cases ht with
    | code h t =>
      obtain rfl := tr_exit h
      split at he
      · rename_i k' hk
        obtain ⟨l, h1, h2⟩ := t.exit.1 _ hk
        exact further HR HC hb U hm (st_exit hm hmt h1) h2 he
      · rename_i hk
        exact out_ok (CD cx.δ) hb U hm he (.inr (.inr ⟨_, _, hmt, t.exit.2 hk, rfl⟩))
  · cases ht with
    | code h t =>
      obtain rfl := tr_ret h
      exact out_ok (CD cx.δ) hb U hm he (.inr (.inl ⟨_, hmt, rfl⟩))
  · -- a round begins
    cases ht with
    | @beginRound mk _ t =>
      split at he
      · rename_i d i hr
        split at he
        · rename_i r hS
          split at he
          · rename_i hready
            have hrnd := hb.rnd.2
            rw [hr] at hrnd
            obtain ⟨hd, hkind, b, hro, hbd⟩ := hrnd
            obtain ⟨l, hl, hrel⟩ : ObjRel P pol k d i b (.loop r) := by rw [← hS]; exact hb.rel.store d i b hbd
            have hst := st_beginRound (P := P) (cs := cl c) (w := k.w) hm hro hmt hl (by rw [hrel.state, hready]; rfl)
            have ho : ObjRel P pol (setObjK k b (.loop { l with state := .busy })) d i b (.loop { r with state := .busy }) := by
              refine ⟨_, setObjK_eq hl, ?_⟩
              have := (hrel.ext (setLoop_later (l' := { l with state := .busy }) hbd hl)).with_ .busy r.pending
              have e : ({ l with state := stateOf .busy, pending := jumpCode r.pending } : Loop) = { l with state := .busy } := by rw [← hrel.pending]; rfl
              rw [e] at this
              exact this
            have hb1 := hb.setLoop (l' := { l with state := .busy }) (o := .loop { r with state := .busy }) hbd hl ho
            obtain ⟨k', fr', c', s1, s2, s3⟩ := HR (fr := { fr with todo := mk }) (cl := cl) he HC (hb1.frame rfl rfl rfl rfl rfl) U hm t
            exact ⟨k', fr', c', .head hst s1, s2, s3⟩
          · cases he
        · cases he
      · cases he
  · -- a region
    cases ht with
    | code h t =>
      obtain ⟨id, ops, draw, rfl, h1⟩ := tr_region h
      split at he
      · cases he
      · rename_i r hrun
        have := region_ok (cl := cl) GO (CO cx.δ) HC h1 hb hm hmt hrun
        obtain ⟨k1, fr1, c1, s1, q1, q2, q3, hkind, q5, q6, q7⟩ := this
        have hlen := (region_facts h1).1
        rw [hlen] at he q5
        have hb1 : Base P pol k0 k1 cx (Below' (r.st.m + ops.size)) (Below' (r.st.nt + ops.size)) { r.st with m := r.st.m + ops.size, nt := r.st.nt + ops.size } r.df fr1 c0 c1 := by
          have := q5.same (st' := { r.st with m := r.st.m + ops.size, nt := r.st.nt + ops.size }) rfl rfl rfl rfl rfl rfl rfl
          rw [q6, q7]
          rw [q6, q7] at this
          exact this
        obtain ⟨k', fr', c', s2, s3, s4⟩ := HR (cl := cl) he (by rw [hkind.1]; exact HC) hb1 U q1 (by rw [q2, q3]; exact t)
        rw [hkind.1] at s4
        exact ⟨k', fr', c', s1.trans s2, s3.trans hkind.2, s4⟩
      · rename_i v r hrun
        have := region_ok (cl := cl) GO (CO cx.δ) HC h1 hb hm hmt hrun
        obtain ⟨k1, fr1, c1, v', s1, q1, q2, q3, hkind, q5⟩ := this
        obtain ⟨t', x, hv⟩ := q3
        split at he
        · rename_i di hro
          split at he
          · rename_i hdf
            split at he
            · rename_i hp
              simp only [Option.some.injEq] at he
              subst he
              have hrnd := q5.rnd
              have hk1 : fr1.kind = .normal := by have := hrnd.2; rw [hro] at this; exact this.2.1
              obtain ⟨fn, hfn⟩ := Option.isSome_iff_exists.1 hrnd.1
              have hd : fr1.defers = [] := by
                have := q5.defs
                rw [hdf] at this
                generalize fr1.defers = ds at this
                cases this
                rfl
              have hrec : r.st.recd = false := by
                rcases q5.pend.recd.2 with h1 | h1
                · exact h1.2
                · rw [hk1] at h1; cases h1
              have hl := q5.left (t := none) U (.pan v)
              refine ⟨k1, fr1, c1, s1, hkind.2, forget k1 cx.δ none, hl, q5.pend.recd.1, fun cs => ⟨_, st_raise q1 hd hfn, fun _ => ⟨hrec, v', rfl, q2.laterC forget_laterC hp, hp, t', x, hv⟩, fun e => ?_⟩, fun e => by rw [hro] at e; cases e⟩
              rw [← hkind.1, hk1] at e; cases e
            · cases he
          · cases he
        · rename_i hro
          obtain ⟨k', fr', c', s2, s3, s4⟩ := leave_ok (cl := cl) (CD cx.δ) hro U he q5 ⟨v', t', x, hv, q1, q2⟩
          rw [hkind.1] at s4
          exact ⟨k', fr', c', s1.trans s2, s3.trans hkind.2, s4⟩
  · -- a loop over a function
    cases ht with
    | code h t =>
      obtain ⟨cg, cps, ca, cb, rfl, h1, h2, h3, h4, h5⟩ := tr_range h
      split at he
      · cases he
      · rename_i hro
        split at he
        · cases he
        · rename_i r hc
          exact range_ok HR HC (CO cx.δ) (CD cx.δ) hb U hm hmt h1 h2 h3 h4 h5 t hro hc he
end

/-- Frames run as the reading says. -/
theorem R_ok {P : Program} {pol : Pol} {ft : FT} (GO : GoOk P pol) (hft : FtOk P pol ft) : ∀ n, RunOk P pol (R ft n)
  | 0 => fun h => by cases h
  | n + 1 => step_ok GO (R_ok GO hft n) (fun _ => mkCall_ok hft (R_ok GO hft n)) (fun _ => mkCall_okD hft (R_ok GO hft n))
end Go.Mia
