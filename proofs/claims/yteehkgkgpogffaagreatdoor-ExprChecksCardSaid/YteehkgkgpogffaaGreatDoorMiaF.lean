import Derived.Below
import Derived.Test.YteehkgkgpogffaaGreatDoorMiaA
import Derived.Test.YteehkgkgpogffaaGreatDoorMiaE
set_option linter.unusedSimpArgs false
set_option linter.unusedVariables false
set_option linter.unusedSectionVars false
namespace Go.Mia
open Go

/-! ### More fuel tells the same -/
def LeC (c c' : CallF) : Prop := ∀ kd f args S δ rt, c kd f args S δ = some rt → c' kd f args S δ = some rt
def LeR (r r' : RunF) : Prop := ∀ cx todo df st rt, r cx todo df st = some rt → r' cx todo df st = some rt

theorem stepW_mono {c c' : CallF} (h : LeC c c') {cx : Cx} {j : Nat} {o : IOper} {r : RSt} {x : RSt ⊕ (D × RSt)} (he : stepW c cx j o r = some x) : stepW c' cx j o r = some x := by
  unfold stepW at he ⊢
  split at he
  · split at he
    · cases he
    · rename_i rt hc
      rw [h _ _ _ _ _ _ hc]
      exact he
  · exact he
  · exact he
  · exact he
  · exact he
theorem stepO_mono {c c' : CallF} (h : LeC c c') {cx : Cx} {j : Nat} {o : IOper} {r : RSt} {x : RSt ⊕ (D × RSt)} (he : stepO c cx j o r = some x) : stepO c' cx j o r = some x := by
  unfold stepO at he ⊢
  split at he
  · cases he
  · exact stepW_mono h he
  · exact he
theorem runL_mono {c c' : CallF} (h : LeC c c') {cx : Cx} : ∀ {l : List (Nat × IOper)} {r : RSt} {x : Stop}, runL c cx l r = some x → runL c' cx l r = some x
  | [], r, x, he => he
  | (j, o) :: rest, r, x, he => by
    simp only [runL] at he ⊢
    cases hs : stepO c cx j o r with
    | none => rw [hs] at he; cases he
    | some y =>
      rw [hs] at he
      rw [stepO_mono h hs]
      cases y with
      | inl r' => exact runL_mono h he
      | inr p => exact he
theorem leave_mono {c c' : CallF} (h : LeC c c') {cx : Cx} : ∀ {df : List IDefer} {l : Leave} {st : St} {x : Ret}, leave c cx df l st = some x → leave c' cx df l st = some x
  | [], .ret, st, x, he => he
  | [], .pan v, st, x, he => he
  | .mark :: df, l, st, x, he => by
    simp only [leave] at he ⊢
    exact leave_mono h he
  | .call f args :: df, l, st, x, he => by
    simp only [leave] at he ⊢
    split at he
    · cases he
    · rename_i rt hc
      rw [h _ _ _ _ _ _ hc]
      simp only
      split at he
      · cases he
      · exact leave_mono h he
theorem outOf_mono {c c' : CallF} (h : LeC c c') {cx : Cx} {df : List IDefer} {st : St} {j : Option Jump} {x : Ret} (he : outOf c cx df st j = some x) : outOf c' cx df st j = some x := by
  unfold outOf at he ⊢
  split at he
  · exact he
  · split at he
    · cases he
    · exact leave_mono h he
theorem loopBack_mono {r r' : RunF} {c c' : CallF} (hr : LeR r r') (h : LeC c c') {cx : Cx} {k : List Item} {df : List IDefer} {st : St} {l : Nat} {o : Out} {x : Ret} (he : loopBack r c cx k df st l o = some x) : loopBack r' c' cx k df st l o = some x := by
  cases o with
  | pan v => exact leave_mono h he
  | ret d =>
    simp only [loopBack] at he ⊢
    split at he
    · split at he
      · cases he
      · rename_i hb
        rw [if_neg hb]
        split at he <;> exact hr _ _ _ _ _ he
    · cases he
theorem stepR_mono {r r' : RunF} {c c' : CallF} (hr : LeR r r') (h : LeC c c') {cx : Cx} {todo : List Item} {df : List IDefer} {st : St} {x : Ret} (he : stepR r c cx todo df st = some x) : stepR r' c' cx todo df st = some x := by
  unfold stepR at he ⊢
  split at he
  · exact outOf_mono h he
  · exact hr _ _ _ _ _ he
  · exact hr _ _ _ _ _ he
  · exact hr _ _ _ _ _ he
  · exact hr _ _ _ _ _ he
  · exact hr _ _ _ _ _ he
  · exact hr _ _ _ _ _ he
  · exact hr _ _ _ _ _ he
  · exact hr _ _ _ _ _ he
  · split at he
    · exact hr _ _ _ _ _ he
    · exact hr _ _ _ _ _ he
    · cases he
  · split at he
    · exact hr _ _ _ _ _ he
    · exact outOf_mono h he
  · exact outOf_mono h he
  · split at he
    · split at he
      · split at he
        · rename_i hb
          rw [if_pos hb]; exact hr _ _ _ _ _ he
        · cases he
      · cases he
    · cases he
  · split at he
    · cases he
    · rename_i hq; rw [runL_mono h hq]; exact hr _ _ _ _ _ he
    · rename_i v rr hq
      rw [runL_mono h hq]
      simp only
      split at he
      · exact he
      · exact leave_mono h he
  · split at he
    · cases he
    · split at he
      · cases he
      · rename_i rt hc
        rw [h _ _ _ _ _ _ hc]
        exact loopBack_mono hr h he
theorem mkCall_mono {ft : FT} {r r' : RunF} (hr : LeR r r') : LeC (mkCall ft r) (mkCall ft r') := by
  intro kd f args S δ rt he
  unfold mkCall at he ⊢
  split at he
  · split at he
    · split at he
      · rename_i hl
        rw [if_pos hl]
        split at he
        · rename_i hi
          rw [if_pos hi]
          split at he
          · rename_i rt' hrt
            rw [hr _ _ _ _ _ hrt]; exact he
          · cases he
        · rename_i hi
          rw [if_neg hi]
          exact hr _ _ _ _ _ he
      · cases he
    · exact he
    · cases he
  · split at he
    · split at he
      · rename_i hl; rw [if_pos hl]; exact hr _ _ _ _ _ he
      · cases he
    · cases he
  · cases he

theorem R_succ (ft : FT) : ∀ n, LeR (R ft n) (R ft (n + 1))
  | 0 => fun _ _ _ _ _ h => by cases h
  | n + 1 => fun _ _ _ _ _ h => stepR_mono (R_succ ft n) (mkCall_mono (R_succ ft n)) h
theorem R_le (ft : FT) {n m : Nat} (h : n ≤ m) : LeR (R ft n) (R ft m) := by
  induction h with
  | refl => exact fun _ _ _ _ _ h => h
  | step h ih => exact fun _ _ _ _ _ h => R_succ ft _ _ _ _ _ _ (ih _ _ _ _ _ h)

/-! ### As much fuel as it takes -/
open Classical in
noncomputable def W (ft : FT) : RunF := fun cx todo df st => if h : ∃ rt n, R ft n cx todo df st = some rt then some h.choose else none
noncomputable def C (ft : FT) : CallF := mkCall ft (W ft)

theorem W_iff {ft : FT} {cx : Cx} {todo : List Item} {df : List IDefer} {st : St} {rt : Ret} : W ft cx todo df st = some rt ↔ ∃ n, R ft n cx todo df st = some rt := by
  unfold W
  constructor
  · intro h
    split at h
    · rename_i hx
      simp only [Option.some.injEq] at h
      rw [← h]
      exact hx.choose_spec
    · cases h
  · intro ⟨n, h⟩
    have hx : ∃ rt n, R ft n cx todo df st = some rt := ⟨rt, n, h⟩
    rw [dif_pos hx]
    obtain ⟨m, hm⟩ := hx.choose_spec
    have h1 := R_le ft (Nat.le_max_left n m) _ _ _ _ _ h
    have h2 := R_le ft (Nat.le_max_right n m) _ _ _ _ _ hm
    rw [h1] at h2
    exact h2.symm
theorem R_W (ft : FT) (n : Nat) : LeR (R ft n) (W ft) := fun _ _ _ _ _ h => W_iff.2 ⟨n, h⟩

/-- a call needs but so much fuel -/
theorem C_fin {ft : FT} {kd : Option (Option D)} {f : D} {args : List D} {S : Store} {δ : Nat} {rt : Ret} (h : C ft kd f args S δ = some rt) : ∃ n, mkCall ft (R ft n) kd f args S δ = some rt := by
  unfold C mkCall at h
  unfold mkCall
  split at h
  · split at h
    · split at h
      · rename_i hl
        split at h
        · rename_i hi
          split at h
          · rename_i rt' hrt
            obtain ⟨n, hn⟩ := W_iff.1 hrt
            exact ⟨n, by simp only [*, if_true]⟩
          · cases h
        · rename_i hi
          obtain ⟨n, hn⟩ := W_iff.1 h
          exact ⟨n, by rw [if_pos hl, if_neg hi]; exact hn⟩
      · cases h
    · exact ⟨0, by simp only [*]⟩
    · cases h
  · split at h
    · split at h
      · rename_i hl
        obtain ⟨n, hn⟩ := W_iff.1 h
        exact ⟨n, by simp only [*]; simp⟩
      · cases h
    · cases h
  · cases h

def CN (ft : FT) (n : Nat) : CallF := mkCall ft (R ft n)
theorem CN_le (ft : FT) {n m : Nat} (h : n ≤ m) : LeC (CN ft n) (CN ft m) := mkCall_mono (R_le ft h)

theorem stepO_fin {ft : FT} {cx : Cx} {j : Nat} {o : IOper} {r : RSt} {x : RSt ⊕ (D × RSt)} (he : stepO (C ft) cx j o r = some x) : ∃ n, stepO (CN ft n) cx j o r = some x := by
  unfold stepO at he
  unfold stepO
  split at he
  · cases he
  · rename_i hw
    unfold stepW at he
    split at he
    · rename_i own f args ho
      split at he
      · cases he
      · rename_i rt hc
        obtain ⟨n, hn⟩ := C_fin hc
        refine ⟨n, ?_⟩
        unfold stepW
        rw [ho]
        simp only
        unfold CN
        rw [hn]
        exact he
    all_goals
      refine ⟨0, ?_⟩
      unfold stepW
      simp only [*]
  · exact ⟨0, he⟩
theorem runL_fin {ft : FT} {cx : Cx} : ∀ {l : List (Nat × IOper)} {r : RSt} {x : Stop}, runL (C ft) cx l r = some x → ∃ n, runL (CN ft n) cx l r = some x
  | [], r, x, he => ⟨0, he⟩
  | (j, o) :: rest, r, x, he => by
    simp only [runL] at he
    cases hs : stepO (C ft) cx j o r with
    | none => rw [hs] at he; cases he
    | some y =>
      rw [hs] at he
      obtain ⟨n, hn⟩ := stepO_fin hs
      cases y with
      | inl r' =>
        obtain ⟨m, hm⟩ := runL_fin he
        refine ⟨max n m, ?_⟩
        simp only [runL, stepO_mono (CN_le ft (Nat.le_max_left n m)) hn]
        exact runL_mono (CN_le ft (Nat.le_max_right n m)) hm
      | inr p => exact ⟨n, by simp only [runL, hn]; exact he⟩
theorem leave_fin {ft : FT} {cx : Cx} : ∀ {df : List IDefer} {l : Leave} {st : St} {x : Ret}, leave (C ft) cx df l st = some x → ∃ n, leave (CN ft n) cx df l st = some x
  | [], .ret, st, x, he => ⟨0, he⟩
  | [], .pan v, st, x, he => ⟨0, he⟩
  | .mark :: df, l, st, x, he => by
    simp only [leave] at he ⊢
    exact leave_fin he
  | .call f args :: df, l, st, x, he => by
    simp only [leave] at he ⊢
    split at he
    · cases he
    · rename_i rt hc
      obtain ⟨n, hn⟩ := C_fin hc
      split at he
      · cases he
      · rename_i d ho
        obtain ⟨m, hm⟩ := leave_fin he
        refine ⟨max n m, ?_⟩
        have h1 : CN ft (max n m) _ f args st.S (cx.δ + 1) = some rt := CN_le ft (Nat.le_max_left n m) _ _ _ _ _ _ hn
        simp only [h1, ho]
        exact leave_mono (CN_le ft (Nat.le_max_right n m)) hm
theorem outOf_fin {ft : FT} {cx : Cx} {df : List IDefer} {st : St} {j : Option Jump} {x : Ret} (he : outOf (C ft) cx df st j = some x) : ∃ n, outOf (CN ft n) cx df st j = some x := by
  unfold outOf at he
  split at he
  · rename_i hr
    exact ⟨0, by unfold outOf; simp only [hr]; exact he⟩
  · rename_i hr
    split at he
    · cases he
    · rename_i hj
      obtain ⟨n, hn⟩ := leave_fin he
      refine ⟨n, ?_⟩
      unfold outOf
      simp only [hr]
      exact hn
theorem loopBack_fin {ft : FT} {cx : Cx} {k : List Item} {df : List IDefer} {st : St} {l : Nat} {o : Out} {x : Ret} (he : loopBack (W ft) (C ft) cx k df st l o = some x) : ∃ n, loopBack (R ft n) (CN ft n) cx k df st l o = some x := by
  cases o with
  | pan v => exact leave_fin he
  | ret d =>
    simp only [loopBack] at he ⊢
    split at he
    · split at he
      · cases he
      · rename_i hb
        split at he <;> (obtain ⟨n, hn⟩ := W_iff.1 he; exact ⟨n, by simp only [hb, if_false]; exact hn⟩)
    · cases he

/-- The reading with as much fuel as it takes: its equation. -/
theorem W_eq (ft : FT) (cx : Cx) (todo : List Item) (df : List IDefer) (st : St) : W ft cx todo df st = stepR (W ft) (C ft) cx todo df st := by
  apply Option.ext
  intro rt
  constructor
  · intro h
    obtain ⟨n, hn⟩ := W_iff.1 h
    cases n with
    | zero => cases hn
    | succ n => exact stepR_mono (R_W ft n) (mkCall_mono (R_W ft n)) hn
  · intro h
    have key : ∃ n, stepR (R ft n) (CN ft n) cx todo df st = some rt := by
      have of : ∀ {cx todo df st}, W ft cx todo df st = some rt → ∃ n, R ft n cx todo df st = some rt := fun h => W_iff.1 h
      unfold stepR at h ⊢
      split at h
      · exact outOf_fin h
      · exact of h
      · exact of h
      · exact of h
      · exact of h
      · exact of h
      · exact of h
      · exact of h
      · exact of h
      · split at h
        · exact of h
        · exact of h
        · cases h
      · split at h
        · exact of h
        · exact outOf_fin h
      · exact outOf_fin h
      · split at h
        · split at h
          · split at h
            · rename_i hb
              obtain ⟨n, hn⟩ := of h
              exact ⟨n, by simp only [hb, if_true]; exact hn⟩
            · cases h
          · cases h
        · cases h
      · split at h
        · cases h
        · rename_i rr hq
          obtain ⟨n, hn⟩ := runL_fin hq
          obtain ⟨m, hm⟩ := of h
          exact ⟨max n m, by rw [runL_mono (CN_le ft (Nat.le_max_left n m)) hn]; exact R_le ft (Nat.le_max_right n m) _ _ _ _ _ hm⟩
        · rename_i v rr hq
          obtain ⟨n, hn⟩ := runL_fin hq
          split at h
          · rename_i di hro
            exact ⟨n, by rw [hn]; simp only; exact h⟩
          · rename_i hro
            obtain ⟨m, hm⟩ := leave_fin h
            exact ⟨max n m, by rw [runL_mono (CN_le ft (Nat.le_max_left n m)) hn]; simp only; exact leave_mono (CN_le ft (Nat.le_max_right n m)) hm⟩
      · split at h
        · cases h
        · split at h
          · cases h
          · rename_i r hc
            obtain ⟨n, hn⟩ := C_fin hc
            obtain ⟨m, hm⟩ := loopBack_fin h
            refine ⟨max n m, ?_⟩
            have h1 := CN_le ft (Nat.le_max_left n m) _ _ _ _ _ _ hn
            rw [h1]
            exact loopBack_mono (R_le ft (Nat.le_max_right n m)) (CN_le ft (Nat.le_max_right n m)) hm
    obtain ⟨n, hn⟩ := key
    exact W_iff.2 ⟨n + 1, hn⟩
end Go.Mia
namespace Go.Mia
open Go Go.RowKit

/-- a world in which no boxes are known -/
def K0 (w : World) : K := ⟨w, fun _ _ => none, fun _ => none⟩

theorem K0.good (w : World) : Good (K0 w) := ⟨fun _ _ _ _ _ h => (by cases h), fun _ _ _ h => (by cases h), fun _ _ _ h => (by cases h), fun _ _ _ _ _ h => (by cases h), fun _ _ _ _ _ h => (by cases h), fun _ _ _ _ h => (by cases h)⟩
theorem K0.tops (w : World) (δ : Nat) : Tops (K0 w) δ := ⟨fun _ _ _ => rfl, fun _ _ _ => rfl, fun _ _ _ _ => rfl⟩

/-- A function of which the reading says that it answers true is called, and answers true. -/
theorem law_calls {P : Program} {pol : Pol} {ft : FT} (GO : GoOk P pol) (hft : FtOk P pol ft) {f : FuncId} {fn : IFunc} (hf : ft f = some (.ir fn)) {args : List D} {vs : List Value} {w : World} (hr : Reps (K0 w) vs args) {b : Bool}
    (h : C ft none (.fn f [] []) args S0 1 = some ⟨.ret (.bool b), false, 1, none⟩) : Calls P f vs.toArray w fun e w' => e = .returned (.bool b) ∧ Below w.heap.size w w' := by
  obtain ⟨n, hn⟩ := C_fin h
  unfold mkCall at hn
  simp only [hf, List.nil_append, List.append_nil] at hn
  split at hn
  · rename_i hl
    replace hn : ∃ rt, R ft n ⟨1, fn.own, fn.results, none⟩ [.code fn.body] [] (initSt (args.map D.degr) S0 1 none) = some rt ∧ rt.out = .ret (.bool b) := by
      split at hn
      · split at hn
        · rename_i rt hrt
          refine ⟨rt, hrt, ?_⟩
          unfold isoRet at hn
          split at hn
          · split at hn
            · rename_i d ho
              split at hn
              · simp only [Option.some.injEq, Ret.mk.injEq, Out.ret.injEq] at hn
                rw [ho, hn.1]
              · cases hn
            · split at hn <;> simp at hn
          · cases hn
        · cases hn
      · exact ⟨_, hn, rfl⟩
    obtain ⟨rt, hn, hout⟩ := hn
    have htr : trFunc P pol f = some fn := hft f _ hf
    have hp : Pend (K0 w) none false .normal (Frame.enter P f vs.toArray .normal) (Frame.enter P f vs.toArray .normal) := .inl ⟨rfl, .inl ⟨rfl, rfl⟩, .inl ⟨rfl, rfl⟩, fun fr hk cs => by unfold tryRecover; rw [hk]⟩
    obtain ⟨b1, b2, b3⟩ := entered (S := S0) (δ := 0) htr hr (K0.good w) (K0.tops w 0) (fun d i b hb => by cases hb) hl hp
    intro cs
    obtain ⟨k1, fr', c', s1, s2, k', s3, s4, s5, s6⟩ := R_ok GO hft n hn (cl := fun _ => cs) (.inl rfl) b1 (fun _ _ _ => rfl) b2 b3
    obtain ⟨e1, v, e2, e3⟩ := s6 rfl rfl _ hout
    have hv := Rep.inv_bool e3
    subst hv
    have E := s3.ext
    refine ⟨.returned (.bool b), k1.w, fr', ⟨rfl, ?_⟩, s1, s2, e2⟩
    rw [← e1]
    exact ⟨E.os, E.tape, E.output, E.size, fun x hx => E.other x hx (fun _ _ h => by cases h) (fun _ _ h => by cases h)⟩
  · cases hn

/-! ### What lies in memory, read -/
section
variable {H : Type} {enc : TypeId × Value → H} {P : Program} {w : World} {spare : Nat → Bool} {held : Bool}

theorem K0.const {b off : Nat} {v : Value} (h : w.cell? ⟨b, off, none⟩ = some v) : (K0 w).Const b off v := ⟨h, fun _ _ h => (by cases h), fun _ _ h => (by cases h)⟩

theorem read_bool {n : Nat} {t : TypeId} {cs : List Value} {x : DataW H × List MemPlace} (hu : P.underlying t = some .bool) (h : DataW.trod enc P w 0 spare held n t cs = some x) : ∃ b, cs = [.bool b] := by
  cases n with
  | zero => cases h
  | succ n =>
    simp only [DataW.trod, hu] at h
    split at h <;> first | (cases h; done) | simp_all
theorem read_int {n : Nat} {t : TypeId} {kd : IntKind} {cs : List Value} {x : DataW H × List MemPlace} (hu : P.underlying t = some (.int kd)) (h : DataW.trod enc P w 0 spare held n t cs = some x) : ∃ z, cs = [.int kd z] ∧ kd.min ≤ z ∧ z ≤ kd.max := by
  cases n with
  | zero => cases h
  | succ n =>
    simp only [DataW.trod, hu] at h
    split at h
    all_goals try (simp_all; done)
    all_goals try (cases h; done)
    rename_i h1
    simp only [Option.some.injEq, TypeDesc.int.injEq] at h1
    subst h1
    split at h
    · rename_i hw
      obtain ⟨rfl, hw⟩ := hw
      simp only [Lit.wf, Bool.and_eq_true, decide_eq_true_eq] at hw
      exact ⟨_, rfl, hw⟩
    · cases h
theorem read_str {n : Nat} {t : TypeId} {cs : List Value} {x : DataW H × List MemPlace} (hu : P.underlying t = some .string) (h : DataW.trod enc P w 0 spare held n t cs = some x) : ∃ s : List UInt8, cs = [.string ⟨s.toArray⟩] ∧ s.length ≤ maxLen := by
  cases n with
  | zero => cases h
  | succ n =>
    simp only [DataW.trod, hu] at h
    split at h
    all_goals try (simp_all; done)
    all_goals try (cases h; done)
    rename_i s h1
    split at h
    · rename_i hw
      exact ⟨s.data.toList, by cases s; simp, hw⟩
    · cases h

theorem cells_get {a : Addr} {n : Nat} {cs : List Value} (h : w.cells? 0 a n = some cs) : cs.length = n ∧ ∀ j v, cs[j]? = some v → w.cell? (a.add j) = some v := by
  unfold World.cells? at h
  rw [if_pos (Nat.zero_le _)] at h
  refine ⟨by have := mapM_some_length h; simpa using this, fun j v hv => ?_⟩
  have hj : j < n := by have := mapM_some_length h; have h2 := (List.getElem?_eq_some_iff.1 hv).1; simp at this; omega
  have := mapM_some_get h j j (by simp [hj])
  rw [this]; exact hv

theorem cell_add {a : Addr} {n : Nat} {v : Value} (h : w.cell? (a.add n) = some v) : w.cell? ⟨a.block, a.off + n, none⟩ = some v := by
  unfold Addr.add at h
  split at h
  · rename_i e
    subst e
    unfold World.cell? at h ⊢
    split at h
    · rename_i c _ _ hb
      split at h
      · cases h
      · simp only [hb, Nat.add_zero]; simpa using h
    · cases h
  · exact h
theorem add_parts (a : Addr) (n : Nat) : (a.add n).block = a.block ∧ (a.add n).off = a.off + n := by
  unfold Addr.add; split
  · rename_i e; subst e; exact ⟨rfl, rfl⟩
  · exact ⟨rfl, rfl⟩
theorem choose_list {α : Type} {R : Nat → α → Prop} : ∀ n, (∀ i, i < n → ∃ a, R i a) → ∃ l : List α, l.length = n ∧ ∀ i a, l[i]? = some a → R i a
  | 0, _ => ⟨[], rfl, fun i a h => by simp at h⟩
  | n + 1, h => by
    obtain ⟨l, h1, h2⟩ := choose_list n fun i hi => h i (by omega)
    obtain ⟨a, ha⟩ := h n (by omega)
    refine ⟨l ++ [a], by simp [h1], fun i b hb => ?_⟩
    rw [List.getElem?_append] at hb
    split at hb
    · exact h2 i b hb
    · have : i - l.length = 0 := by
        have := (List.getElem?_eq_some_iff.1 hb).1
        simp at this; omega
      rw [this] at hb
      simp at hb
      subst hb
      rw [show i = n by omega]; exact ha

/-- a slice whose elements can be read -/
theorem read_slice {α : Type} {n : Nat} {t e : TypeId} {cs : List Value} {x : DataW H × List MemPlace} {Q : α → Prop} {pack : α → D} {s : Nat} (hu : P.underlying t = some (.slice e)) (hs : P.cellsOf e = s) (hs0 : 0 < s) (hp : ∀ a, (pack a).cells.length = s ∧ (pack a).pure = true ∧ (pack a).flat = true)
    (he : ∀ m cs x, m < n → DataW.trod enc P w 0 spare held m e cs = some x → ∃ a, Q a ∧ Reps (K0 w) cs (pack a).cells) (h : DataW.trod enc P w 0 spare held n t cs = some x) :
    ∃ (l : List α) (v : Value), cs = [v] ∧ (∀ a ∈ l, Q a) ∧ l.length ≤ maxLen ∧ Rep (K0 w) v (.slice .none s (l.map pack)) := by
  cases n with
  | zero => cases h
  | succ n =>
    simp only [DataW.trod, hu] at h
    split at h
    all_goals try (simp_all; done)
    all_goals try (cases h; done)
    · rename_i h1
      exact ⟨[], _, rfl, by simp, by simp, .slice 0 0 (fun _ => undef) rfl (Nat.le_refl _) (by simp) rfl (fun h => by simp at h) (fun j h => by simp at h) (fun j d h => by simp at h)⟩
    · rename_i a len cap h1
      simp only [Option.some.injEq, TypeDesc.slice.injEq] at h1
      subst h1
      split at h
      · rename_i hc
        simp only [Option.bind_eq_some_iff] at h
        obtain ⟨elems, hel, h⟩ := h
        have hlen : elems.length = len := by have := mapM_some_length hel; simpa using this
        -- each element
        have key : ∀ i, i < len → ∃ a', Q a' ∧ ∃ us, Reps (K0 w) us (pack a').cells ∧ us.length = s ∧ ∀ j v, us[j]? = some v → w.cell? ⟨a.block, a.off + (i * s + j), none⟩ = some v := by
          intro i hi
          have := mapM_some_get hel i i (by simp [hi])
          rw [List.getElem?_eq_getElem (by omega)] at this
          simp only [Option.bind_eq_some_iff] at this
          obtain ⟨us, hus, htr⟩ := this
          obtain ⟨a', hq, hr⟩ := he n us _ (Nat.lt_succ_self n) htr
          rw [hs] at hus
          obtain ⟨g1, g2⟩ := cells_get hus
          refine ⟨a', hq, us, hr, g1, fun j v hv => ?_⟩
          have := cell_add (g2 j v hv)
          rw [(add_parts _ _).1, (add_parts _ _).2] at this
          rw [← Nat.add_assoc]; exact this
        obtain ⟨l, hl1, hl2⟩ := choose_list len key
        have hall : ∀ x ∈ l.map pack, x.cells.length = s := fun x hx => by
          obtain ⟨y, _, rfl⟩ := List.mem_map.1 hx; exact (hp y).1
        have hfl : ((l.map pack).flatMap D.cells).length = len * s := by rw [flat_len hall]; simp [hl1]
        -- cell by cell
        have cell : ∀ j, j < len * s → ∃ v d, w.cell? ⟨a.block, a.off + j, none⟩ = some v ∧ ((l.map pack).flatMap D.cells)[j]? = some d ∧ Rep (K0 w) v d := by
          intro j hj
          have hi : j / s < len := Nat.div_lt_of_lt_mul (by rw [Nat.mul_comm]; exact hj)
          have hm : j % s < s := Nat.mod_lt _ hs0
          have hx : l[j / s]? = some (l[j / s]'(by omega)) := List.getElem?_eq_getElem (by omega)
          obtain ⟨hq, us, hr, hul, hcell⟩ := hl2 _ _ hx
          have hj' : j / s * s + j % s = j := by rw [Nat.mul_comm]; exact Nat.div_add_mod j s
          have hfa := flat_at hall (j / s) (j % s) (pack (l[j / s]'(by omega))) (by rw [List.getElem?_map, hx]; rfl) hm
          rw [hj'] at hfa
          have hd : (pack (l[j / s]'(by omega))).cells[j % s]? = some ((pack (l[j / s]'(by omega))).cells[j % s]'(by rw [(hp _).1]; exact hm)) := List.getElem?_eq_getElem _
          have hu2 : us[j % s]? = some (us[j % s]'(by omega)) := List.getElem?_eq_getElem _
          refine ⟨us[j % s]'(by omega), _, ?_, hfa.trans hd, ?_⟩
          · have := hcell _ _ hu2
            rw [hj'] at this; exact this
          · have := hr.2 _ _ hd
            rw [List.getD_eq_getElem?_getD, hu2] at this
            exact this
        refine ⟨l, _, rfl, fun a' ha' => ?_, by rw [hl1]; omega, ?_⟩
        · obtain ⟨i, hi⟩ := List.getElem?_of_mem ha'
          exact (hl2 i a' hi).1
        · refine .slice a.block a.off (fun j => (w.cell? ⟨a.block, a.off + j, none⟩).getD undef) (by simp [hl1]) hc.2.1 (by simp) (elemsOk_of fun x hx => ?_) (fun h0 => ?_) (fun j hj => ?_) (fun j d hd => ?_)
          · obtain ⟨y, _, rfl⟩ := List.mem_map.1 hx; exact hp y
          · -- the address has no spot
            have := mapM_some_get hel 0 0 (by simp [h0])
            rw [List.getElem?_eq_getElem (by omega)] at this
            simp only [Option.bind_eq_some_iff] at this
            obtain ⟨us, hus, htr⟩ := this
            rw [hs] at hus
            obtain ⟨g1, g2⟩ := cells_get hus
            have hu2 : us[0]? = some (us[0]'(by omega)) := List.getElem?_eq_getElem _
            have := g2 0 _ hu2
            simp only [Nat.zero_mul] at this
            unfold Addr.add at this
            simp only [if_true] at this
            unfold World.cell? at this
            split at this
            · split at this
              · cases this
              · rename_i hsp
                have : a.spot = none := by cases hsa : a.spot with | none => rfl | some x => rw [hsa] at hsp; simp at hsp
                obtain ⟨ab, ao, asp⟩ := a
                simp only at this
                subst this
                rfl
            · cases this
          · rw [hfl] at hj
            obtain ⟨v, d, h1, _, _⟩ := cell j hj
            exact K0.const (by simp only [h1]; rfl)
          · have hj : j < len * s := by rw [← hfl]; exact (List.getElem?_eq_some_iff.1 hd).1
            obtain ⟨v, d', h1, h2, h3⟩ := cell j hj
            rw [hd] at h2
            simp only [Option.some.injEq] at h2
            subst h2
            simp only [h1]
            exact h3
      · cases h
end
end Go.Mia
namespace Go.Mia
open Go

section
variable {P : Program}

theorem eqIn_slice {T e : TypeId} (d : Nat) (hu : P.underlying T = some (.slice e)) (a : Option Addr) (len cap : Nat) (w : World) : (Op.equalIn (d + 1) T (.slice a len cap) (.slice none 0 0)).run P w = .ok a.isNone w := by
  cases a <;> simp [Op.equalIn, run_underlying hu]
theorem eq_slice_nil {T e : TypeId} (hu : P.underlying T = some (.slice e)) (a : Option Addr) (len cap : Nat) (w : World) : (binOp .eql T (.slice a len cap) (.slice none 0 0)).run P w = .ok (.bool a.isNone) w :=
  (eql_of rfl rfl (eqIn_slice 9999 hu a len cap w)).1

/-- one operation of a region that gives a value -/
theorem st_val {fr : Frame} {cs : List Frame} {w w' : World} {k : List Go.Item} {ops : Array Oper} {i : Nat} {rest : List Nat} {o : Oper} {v : Value} (hm : fr.mode = .run) (ht : fr.todo = .inRegion ops (i :: rest) :: k) (ho : ops[i]? = some o) (hg : o.guard = none) (hd : ∀ c, o.op ≠ .defer c)
    (hx : (execOp fr.eval o).run P w = .ok (.value v) w') : step P (lone fr cs w) = .next (lone { fr with tmps := putT fr.tmps o.dst v, todo := .inRegion ops rest :: k } cs w') := by
  have hw : Region.wanted o (yielded ops fr.tmps) = true := by unfold Region.wanted; rw [hg]
  have := st_value (cs := cs) hm ht ho hw (.inr hd) hx (.inl rfl)
  rw [this, finish_in ht ho]

/-- the text of slices.Clone -/
structure IsClone (P : Program) (g : FuncId) (T ty : TypeId) : Prop where
  ex : ∃ (fn : Func) (i0 i1 i2 i3 : Nat) (o0 o1 o2 o3 o4 o5 o6 o7 : Oper) (u : TypeId), P.funcs[g]? = some fn ∧ fn.name ≠ "runtime.NumGoroutine" ∧ fn.results = #[.tmp 2] ∧ fn.ntmps = 8 ∧
    fn.body = some (.seq (.region i0 #[o0] false) (.seq (.seq (.region i1 #[o1, o2] false) (.cond (.tmp 4) (.seq (.region i2 #[o3] false) .ret) .skip)) (.seq (.region i3 #[o4, o5, o6, o7] false) .ret))) ∧
    (o0.op = .assign (.const (.slice none 0 0)) ∧ o0.dst = some 2 ∧ o0.guard = none) ∧ (o1.op = .move (.tmp 0) ∧ o1.dst = some 3 ∧ o1.guard = none) ∧ (o2.op = .binOp .eql T (.tmp 3) (.const (.slice none 0 0)) u ∧ o2.dst = some 4 ∧ o2.guard = none) ∧
    (o3.op = .assign (.const (.slice none 0 0)) ∧ o3.dst = some 2 ∧ o3.guard = none) ∧ (o4.op = .buildSlice T 0 #[] ∧ o4.dst = some 5 ∧ o4.guard = none) ∧ (o5.op = .move (.tmp 0) ∧ o5.dst = some 6 ∧ o5.guard = none) ∧
    (o6.op = .call { callee := .builtin .append, args := #[.tmp 5, .tmp 6], argTypes := #[T, T] } ∧ o6.dst = some 7 ∧ o6.guard = none ∧ o6.type = ty) ∧ (o7.op = .assign (.tmp 7) ∧ o7.dst = some 2 ∧ o7.guard = none)

def cloneFr (g : FuncId) (tm : Array Value) (td : List Go.Item) : Frame := { fn := g, tmps := tm, todo := td, defers := [], mode := .run, kind := .normal, roundOf := none }

/-- slices.Clone, of a nil slice and of another one -/
theorem clone_run {g : FuncId} {T e ty : TypeId} (h : IsClone P g T ty) (hu : P.underlying T = some (.slice e)) {ad : Option Addr} {len cap : Nat} {w : World} :
    (callFunc g #[.slice ad len cap]).run P w = .ok (.enter g #[.slice ad len cap]) w ∧
    (ad = none → ∀ (c : Frame) (cs : List Frame), Steps P (lone (Frame.enter P g #[.slice ad len cap] .normal) (c :: cs) w) (lone (c.finish (.slice none 0 0)) cs w)) ∧
    (ad ≠ none → ∀ {w1 w2 : World} {v0 v' : Value}, (Instr.buildSlice T 0 #[]).run P w = .ok v0 w1 → (Builtin.append_ #[T, T] ty #[v0, .slice ad len cap]).run P w1 = .ok v' w2 →
      ∀ (c : Frame) (cs : List Frame), Steps P (lone (Frame.enter P g #[.slice ad len cap] .normal) (c :: cs) w) (lone (c.finish v') cs w2)) := by
  obtain ⟨fn, i0, i1, i2, i3, o0, o1, o2, o3, o4, o5, o6, o7, u, hf, hn, hres, hnt, hbody, ⟨a0, b0, c0⟩, ⟨a1, b1, c1⟩, ⟨a2, b2, c2⟩, ⟨a3, b3, c3⟩, ⟨a4, b4, c4⟩, ⟨a5, b5, c5⟩, ⟨a6, b6, c6, d6⟩, ⟨a7, b7, c7⟩⟩ := h.ex
  have hent : Frame.enter P g #[.slice ad len cap] .normal = cloneFr g #[.slice ad len cap, undef, undef, undef, undef, undef, undef, undef] [.code (.seq (.region i0 #[o0] false) (.seq (.seq (.region i1 #[o1, o2] false) (.cond (.tmp 4) (.seq (.region i2 #[o3] false) .ret) .skip)) (.seq (.region i3 #[o4, o5, o6, o7] false) .ret)))] := by
    unfold Frame.enter cloneFr
    simp [hf, hbody, hnt]
  refine ⟨run_callFunc hf hn hbody, fun hnone c cs => ?_, fun hsome w1 w2 v0 v' hb ha c cs => ?_⟩
  · subst hnone
    rw [hent]
    refine .head (st_seq rfl rfl) ?_
    refine .head (st_region rfl rfl) ?_
    refine .head (st_val (o := o0) (i := 0) (v := .slice none 0 0) (w' := w) rfl rfl rfl c0 (by rw [a0]; simp) (by simp [execOp, a0, Frame.eval])) ?_
    refine .head (st_region_end rfl rfl) ?_
    refine .head (st_seq rfl rfl) ?_
    refine .head (st_seq rfl rfl) ?_
    refine .head (st_region rfl rfl) ?_
    refine .head (st_val (o := o1) (i := 0) (v := .slice none len cap) (w' := w) rfl rfl rfl c1 (by rw [a1]; simp) (by simp [execOp, a1, Frame.eval, cloneFr, putT, b0])) ?_
    refine .head (st_val (o := o2) (i := 1) (v := .bool true) (w' := w) rfl rfl rfl c2 (by rw [a2]; simp) (by
      have := eq_slice_nil (P := P) hu none len cap w
      simp [execOp, a2, Frame.eval, cloneFr, putT, b0, b1, eqGuard, this])) ?_
    refine .head (st_region_end rfl rfl) ?_
    refine .head (st_cond (t := true) rfl rfl (by simp [Frame.eval, cloneFr, putT, b0, b1, b2])) ?_
    refine .head (st_seq rfl rfl) ?_
    refine .head (st_region rfl rfl) ?_
    refine .head (st_val (o := o3) (i := 0) (v := .slice none 0 0) (w' := w) rfl rfl rfl c3 (by rw [a3]; simp) (by simp [execOp, a3, Frame.eval])) ?_
    refine .head (st_region_end rfl rfl) ?_
    refine .head (st_ret rfl rfl rfl) ?_
    exact .one (st_return rfl rfl hf (by rw [results_tmp hres]; simp [cloneFr, putT, b0, b1, b2, b3]) rfl)
  · rw [hent]
    have hsn : ad.isNone = false := by cases ad <;> simp_all
    refine .head (st_seq rfl rfl) ?_
    refine .head (st_region rfl rfl) ?_
    refine .head (st_val (o := o0) (i := 0) (v := .slice none 0 0) (w' := w) rfl rfl rfl c0 (by rw [a0]; simp) (by simp [execOp, a0, Frame.eval])) ?_
    refine .head (st_region_end rfl rfl) ?_
    refine .head (st_seq rfl rfl) ?_
    refine .head (st_seq rfl rfl) ?_
    refine .head (st_region rfl rfl) ?_
    refine .head (st_val (o := o1) (i := 0) (v := .slice ad len cap) (w' := w) rfl rfl rfl c1 (by rw [a1]; simp) (by simp [execOp, a1, Frame.eval, cloneFr, putT, b0])) ?_
    refine .head (st_val (o := o2) (i := 1) (v := .bool false) (w' := w) rfl rfl rfl c2 (by rw [a2]; simp) (by
      have := eq_slice_nil (P := P) hu ad len cap w
      rw [hsn] at this
      simp [execOp, a2, Frame.eval, cloneFr, putT, b0, b1, eqGuard, this])) ?_
    refine .head (st_region_end rfl rfl) ?_
    refine .head (st_cond (t := false) rfl rfl (by simp [Frame.eval, cloneFr, putT, b0, b1, b2])) ?_
    refine .head (st_skip rfl rfl) ?_
    refine .head (st_seq rfl rfl) ?_
    refine .head (st_region rfl rfl) ?_
    refine .head (st_val (o := o4) (i := 0) (v := v0) (w' := w1) rfl rfl rfl c4 (by rw [a4]; simp) (by simp [execOp, a4, hb])) ?_
    refine .head (st_val (o := o5) (i := 1) (v := .slice ad len cap) (w' := w1) rfl rfl rfl c5 (by rw [a5]; simp) (by simp [execOp, a5, Frame.eval, cloneFr, putT, b0, b1, b2, b4])) ?_
    refine .head (st_val (o := o6) (i := 2) (v := v') (w' := w2) rfl rfl rfl c6 (by rw [a6]; simp) (by
      simp [execOp, a6, d6, resolve, invoke, builtin, Frame.eval, cloneFr, putT, b0, b1, b2, b4, b5, ha])) ?_
    refine .head (st_val (o := o7) (i := 3) (v := v') (w' := w2) rfl rfl rfl c7 (by rw [a7]; simp) (by simp [execOp, a7, Frame.eval, cloneFr, putT, b0, b1, b2, b4, b5, b6])) ?_
    refine .head (st_region_end rfl rfl) ?_
    refine .head (st_ret rfl rfl rfl) ?_
    exact .one (st_return rfl rfl hf (by rw [results_tmp hres]; simp [cloneFr, putT, b0, b1, b2, b4, b5, b6, b7]) rfl)

theorem build0_run {T e : TypeId} {i : TypeInfo} (hu : P.underlying T = some (.slice e)) (hi : P.info? e = some i) {w : World} : (Instr.buildSlice T 0 #[]).run P w = .ok (.slice (some ⟨w.heap.size, 0, none⟩) 0 0) (push w (.cells #[] e (0, 0))) := by
  have h0 : (Array.range 0).map (fun _ => (default : Value)) = #[] := by simp
  simp [Instr.buildSlice, run_underlying hu, sizeOf, typeInfo, hi, newRow, h0, Instr.fill]
  rfl

variable {pol : Pol} {k k1 k' : K} {δ j : Nat} {st st' : St} {B T0 : Nat → Prop}

/-- what came before is aside -/
theorem Chg.aside (A : Aside k k1) (hh : ∀ b, b < k.w.heap.size → k1.w.heap[b]? = k.w.heap[b]?) (C : Chg P pol δ j st st' k1 k') : Chg P pol δ j st st' k k' where
  ext := fun low h1 h2 => (A.ext (.refl δ low k) hh).trans (C.ext low h1 h2) h1
  low := C.low
  good := C.good
  β := fun d i h => by rw [C.β d i h, A.β]
  store := fun d i b hb => by
    rcases C.store d i b hb with ⟨h1, h2, h3, h4⟩ | h
    · rw [A.β] at h2
      rw [A.sp] at h4
      exact .inl ⟨h1, h2, h3.trans (A.box d i b h2), h4⟩
    · exact .inr h
  now := by
    rcases C.now with ⟨h1, h2, h3, h4⟩ | h
    · rw [A.sp] at h2
      rw [A.β] at h3
      exact .inl ⟨h1, h2, fun d i b hb => (h3 d i b hb).trans (A.box d i b hb), h4⟩
    · exact .inr h
  tok := by have := C.tok; rw [A.sp] at this; exact this
  dead := by have := C.dead; rw [A.sp] at this; exact this
  tokf := by have := C.tokf; rw [A.sp] at this; exact this
  other := by have := C.other; rw [A.sp] at this; exact this
  lv := by have := C.lv; rw [A.sp] at this; exact this
  tks := by have := C.tks; rw [A.sp] at this; exact this
  m := C.m
  nt := C.nt
  σ := C.σ
  pend := C.pend
  recd := C.recd

theorem Aside.loc (A : Aside k k1) (L : Loc P pol k δ j st B T0) : Loc P pol k1 δ j st B T0 where
  good := A.good L.good
  store := A.store L.store
  fb := by rw [A.β]; exact L.fb
  fc := by rw [A.sp]; exact L.fc
  ft := by rw [A.sp]; exact L.ft
  fl := L.fl
  low := L.low
  has := by rw [A.β]; exact L.has
  nB := L.nB
  nT := L.nT

/-- a box of no block -/
theorem Chg.noBlock (L : Loc P pol k δ j st B T0) {o : Obj} : Chg P pol δ j st { st with S := upd2 st.S δ (st.m + j) o } k k :=
  { Chg.refl (P := P) (pol := pol) (δ := δ) (j := j) (st := st) L.good with
    ext := fun low _ _ => Ext.refl δ low k
    store := fun d i b hb => by
      left
      have hne : ¬ (d = δ ∧ i = st.m + j) := fun e => by rw [e.1, e.2, L.fb] at hb; cases hb
      exact ⟨by simp only [upd2, if_neg hne], hb, rfl, fun _ => rfl⟩
    now := .inl ⟨rfl, fun _ _ _ _ => rfl, fun _ _ _ _ => rfl, rfl⟩
    tok := fun t _ h => ⟨h, rfl⟩
    dead := fun t _ h h' => by
      rcases h' with h' | h'
      · exact h'
      · have h2 : st.live t = false := h
        rw [h2] at h'; cases h'
    tokf := fun _ _ _ => rfl }
end
end Go.Mia
namespace Go.Mia
open Go

section
variable {P : Program} {pol : Pol} {k k1 k' : K} {δ j f : Nat} {st st' : St} {B T0 : Nat → Prop} {a : Act} {o : Oper}

theorem sliceInfo_of {T e e' : TypeId} {i : TypeInfo} {s bytes : Nat} (hu : P.underlying T = some (.slice e)) (hi : P.info? e = some i) (h : sliceInfo P T = some (e', s, bytes)) : e' = e ∧ s = i.size ∧ bytes = i.bytes := by
  unfold sliceInfo at h
  rw [hu] at h
  simp only [hi, Option.map_some, Option.some.injEq, Prod.mk.injEq] at h
  exact ⟨h.1.symm, h.2.1.symm, h.2.2.symm⟩

/-- slices.Clone is done by the machine -/
theorem clone_ok {g : FuncId} {T e ty : TypeId} {i : TypeInfo} {z : Value} {s bytes : Nat} {vec : Bool} {x : Opnd} {d : D} (hC : IsClone P g T ty) (hT : AppTy P T T e i z s bytes) {args : Array Operand} {ats : Array TypeId}
    (ho : o.op = .call { callee := .value (.func g), args, argTypes := ats }) (ha : opnds P ats.toList args.toList = some [x]) (L : Loc P pol k δ j st B T0) (hv : ∀ s ∈ x.slots, Val k δ st B T0 (a.tmps.getD s undef) (st.σ s))
    (he : evalOp δ j (.clone vec g s bytes x) st = some (d, st')) :
    ∃ y fr0 v k', (execOp a.eval o).run P k.w = .ok y k.w ∧ Enters P y .normal fr0 ∧ (∀ (c : Frame) (cs : List Frame), Steps P (lone fr0 (c :: cs) k.w) (lone (c.finish v) cs k'.w)) ∧ Gives P pol δ j k st B T0 v k' d st' := by
  have hr := opnds_reps (a := a) (k := k) (δ := δ) (st := st) (B := B) (T := T0) ha (fun s' hs' => hv s' (by simpa using hs'))
  simp only [evs] at hr
  obtain ⟨v, hargs⟩ : ∃ v, args.toList.map a.eval = [v] := List.length_eq_one_iff.1 (by rw [hr.1]; rfl)
  rw [hargs] at hr
  have hrx := hr.head
  have hcall : execOp a.eval o = callFunc g #[v] := by
    rw [exec_call ho, map_arr, hargs]
    unfold callOf Deferred.ofValue
    simp [Act.eval, invoke]
  have he' : appendOp δ j vec false s bytes (.slice .full s []) (ev st.σ x) st = some (d, st') := he
  have hu := hT.ht
  -- the value
  obtain ⟨ad, len, cap, rfl, hemp⟩ : ∃ ad len cap, v = .slice ad len cap ∧ (ad = none → srcOf st.S false (ev st.σ x) = none ∨ ∃ s1, srcOf st.S false (ev st.σ x) = some (s1, [])) := by
    have hsrc : ∃ p, srcOf st.S false (ev st.σ x) = some p := by
      simp only [appendOp] at he'
      cases hs : srcOf st.S false (ev st.σ x) with
      | none => rw [hs] at he'; cases he'
      | some p => exact ⟨p, rfl⟩
    obtain ⟨p, hp⟩ := hsrc
    generalize ev st.σ x = dx at hrx hp
    cases hrx with
    | @slice tk s1 xs _ len cap b off vs hl hle hf he ha hc hr =>
      refine ⟨_, _, _, rfl, fun hn => .inr ?_⟩
      subst hn
      have : xs = [] := by
        cases hx : xs with
        | nil => rfl
        | cons y ys =>
          have : 0 < len := by rw [hl, hx]; simp
          have := ha this
          cases this
      subst this
      exact ⟨_, rfl⟩
    | @vsl d' i' off len s1 c _ cap hle hc ha =>
      refine ⟨_, _, _, rfl, fun hn => .inr ?_⟩
      subst hn
      have hc0 : c = 0 := by
        cases Nat.eq_zero_or_pos c with
        | inl h => exact h
        | inr h => obtain ⟨b, _, e⟩ := ha h; cases e
      have hl0 : len = 0 := by omega
      subst hl0
      simp only [srcOf] at hp ⊢
      split at hp
      · split at hp
        · rename_i hcond
          rw [if_pos hcond]
          exact ⟨_, rfl⟩
        · cases hp
      · cases hp
    | _ => simp [srcOf] at hp
  obtain ⟨r1, r2, r3⟩ := clone_run (P := P) (len := len) (cap := cap) (ad := ad) (w := k.w) hC hu
  refine ⟨.enter g #[.slice ad len cap], Frame.enter P g #[.slice ad len cap] .normal, ?_⟩
  rw [hcall]
  cases hn : ad with
  | none =>
    subst hn
    rcases hemp rfl with h0 | ⟨s1, h0⟩
    · simp only [appendOp, h0] at he'; cases he'
    · simp only [appendOp, h0] at he'
      split at he'
      · have hnil : Rep k (.slice none 0 0) (.slice .full s []) := .slice 0 0 (fun _ => undef) rfl (Nat.le_refl _) (fun _ => rfl) rfl (fun h => absurd h (by omega)) (fun j h => by simp at h) (fun j d h => by simp at h)
        have hfull : ∀ tk s' xs', D.slice .full s [] = .slice tk s' xs' → tk = .full ∨ tk = .none := fun tk s' xs' e => by injection e with e1; exact .inl e1.symm
        cases vec with
        | false =>
          simp only [if_false, Bool.false_eq_true, and_self, if_true, Option.some.injEq, Prod.mk.injEq] at he'
          obtain ⟨rfl, rfl⟩ := he'
          exact ⟨.slice none 0 0, k, r1, .enter, r2 rfl, ⟨.refl L.good, hnil, .plain hfull, .plain hfull, fun _ => L.ft⟩⟩
        | true =>
          simp only [if_true, and_self, List.append_nil, List.flatMap_nil, List.map_nil, List.length_nil, Nat.add_zero, Option.some.injEq, Prod.mk.injEq] at he'
          obtain ⟨rfl, rfl⟩ := he'
          refine ⟨.slice none 0 0, k, r1, .enter, r2 rfl, ⟨Chg.noBlock L, .vsl (Nat.le_refl _) (Nat.le_refl _) (fun h => absurd h (by omega)), .plain (by simp), .plain (by simp), fun _ => L.ft⟩⟩
      · cases he'
  | some a0 =>
    have hne : ad ≠ none := by rw [hn]; simp
    rw [← hn]
    let kk : K := { k with w := push k.w (.cells #[] e (0, 0)) }
    have A : Aside k kk := ⟨rfl, rfl, by show _ ≤ (push k.w _).heap.size; rw [push_size]; omega, fun b cs e' fr hb => push_old _ _ (Array.getElem?_eq_some_iff.1 hb).1, fun d i b hb => push_old _ _ (L.good.lt d i b hb), rfl, rfl, rfl⟩
    have hb := build0_run (P := P) (w := k.w) hu hT.hi
    have hfull : ∀ tk s' xs', D.slice .full s [] = .slice tk s' xs' → tk = .full ∨ tk = .none := fun tk s' xs' e => by injection e with e1; exact .inl e1.symm
    have hv0 : Val kk δ st B T0 (.slice (some ⟨k.w.heap.size, 0, none⟩) 0 0) (.slice .full s []) :=
      .plain (.slice 0 0 (fun _ => undef) rfl (Nat.le_refl _) (fun _ => rfl) rfl (fun h => absurd h (by omega)) (fun j h => by simp at h) (fun j d h => by simp at h)) hfull
    obtain ⟨v', k', happ, G⟩ := append_ok (ty := ty) (A.loc L) hT hv0 (hrx.later A.later) he'
    exact ⟨v', k', r1, .enter, fun c cs => r3 hne hb happ c cs, ⟨G.chg.aside A fun b hb => push_old _ _ hb, G.rep, G.tk, G.name, G.no⟩⟩
end
end Go.Mia
namespace Go.Mia
open Go

/-- an operation that nothing guards -/
def OpIs' (o : Oper) (op : Op) (dst : Nat) : Prop := o.op = op ∧ o.dst = some dst ∧ o.guard = none

/-- the text of slices.Grow -/
structure IsGrow (P : Program) (g : FuncId) (T I ty : TypeId) : Prop where
  ex : ∃ (fn : Func) (i0 i1 i2 i3 i4 i5 i6 : Nat) (a0 a1 a2 p0 p1 b0 b1 b2 b3 b4 b5 b6 b7 c0 c1 d0 d1 d2 d3 d4 d5 d6 d7 d8 d9 e0 e1 : Oper) (u1 u2 u3 u4 : TypeId), P.funcs[g]? = some fn ∧ fn.name ≠ "runtime.NumGoroutine" ∧ fn.results = #[.tmp 4] ∧ fn.ntmps = 27 ∧
    fn.body = some (.seq (.region i0 #[a0] false) (.seq (.seq (.region i1 #[a1, a2] false) (.cond (.tmp 6) (.region i2 #[p0, p1] false) .skip)) (.seq (.seq (.region i3 #[b0, b1, b2, b3, b4, b5, b6, b7] false) (.seq (.region i4 #[c0, c1] false) (.cond (.tmp 16) (.region i5 #[d0, d1, d2, d3, d4, d5, d6, d7, d8, d9] false) .skip))) (.seq (.region i6 #[e0, e1] false) .ret)))) ∧
    OpIs' a0 (.assign (.const (.slice none 0 0))) 4 ∧ OpIs' a1 (.move (.tmp 1)) 5 ∧ OpIs' a2 (.binOp .lss I (.tmp 5) (.const (.int .i64 0)) u1) 6 ∧
    OpIs' b0 (.move (.tmp 1)) 8 ∧ OpIs' b1 (.move (.tmp 0)) 9 ∧ OpIs' b2 (.call { callee := .builtin .cap, args := #[.tmp 9], argTypes := #[T] }) 10 ∧ OpIs' b3 (.move (.tmp 0)) 11 ∧ OpIs' b4 (.call { callee := .builtin .len, args := #[.tmp 11], argTypes := #[T] }) 12 ∧
    OpIs' b5 (.binOp .sub I (.tmp 10) (.tmp 12) u2) 13 ∧ OpIs' b6 (.binOp .sub I (.tmp 8) (.tmp 13) u3) 14 ∧ OpIs' b7 (.assign (.tmp 14)) 1 ∧
    OpIs' c0 (.move (.tmp 1)) 15 ∧ OpIs' c1 (.binOp .gtr I (.tmp 15) (.const (.int .i64 0)) u4) 16 ∧
    OpIs' d0 (.move (.tmp 0)) 17 ∧ OpIs' d1 (.move (.tmp 0)) 18 ∧ OpIs' d2 (.call { callee := .builtin .cap, args := #[.tmp 18], argTypes := #[T] }) 19 ∧ OpIs' d3 (.slice T (.tmp 17) none (some (.tmp 19)) none) 20 ∧ OpIs' d4 (.move (.tmp 1)) 21 ∧
    OpIs' d5 (.call { callee := .builtin .append, args := #[.tmp 20, .tmp 21], argTypes := #[T, I] }) 22 ∧ d5.type = ty ∧ OpIs' d6 (.move (.tmp 0)) 23 ∧ OpIs' d7 (.call { callee := .builtin .len, args := #[.tmp 23], argTypes := #[T] }) 24 ∧ OpIs' d8 (.slice T (.tmp 22) none (some (.tmp 24)) none) 25 ∧ OpIs' d9 (.assign (.tmp 25)) 0 ∧
    OpIs' e0 (.move (.tmp 0)) 26 ∧ OpIs' e1 (.assign (.tmp 26)) 4

section
variable {P : Program}

theorem run_append_zeros {w : World} {t u ty e : TypeId} {i : TypeInfo} {z : Value} {ku : IntKind} (ht : P.underlying t = some (.slice e)) (hu : P.underlying u = some (.int ku)) (hi : P.info? e = some i) (hz : i.zero = some z) {ba : Option Addr} {m : Nat}
    (hm : 0 < m) (hb : m * i.bytes ≤ LIM) (hl : m ≤ LIM) (h0 : i.bytes ≠ 0) (h1 : i.bytes ≤ 1048576) (hs0 : i.size ≠ 0) :
    (Builtin.append_ #[t, u] ty #[.slice ba 0 0, .int .i64 (m : Int)]).run P w =
      .ok (.slice (some ⟨w.heap.size, 0, none⟩) m (grownCap w m 0 e)) (push w.drew (.cells (Builtin.zeroCells z.cells m ++ Builtin.zeroCells z.cells (grownCap w m 0 e - m)) e (0, 0))) := by
  have hn : ¬ (m ≤ 0) := by omega
  have h48 : ¬ (281474976710656 < Builtin.nextslicecap m 0 * i.bytes) := by have := fits_lim (need := m) (old := 0) (by omega) (by simpa using hb) h1; omega
  have hw : IntKind.i64.wrap (m : Int) = (m : Int) := by
    unfold IntKind.wrap
    simp only [IntKind.bits, IntKind.signed, Bool.true_and, decide_eq_true_eq, Nat.reduceSub, Int.reducePow, ge_iff_le]
    unfold LIM at hl
    split <;> omega
  have hb2 : ¬ ((281474976710656 : Int) < (m : Int) * (i.bytes : Int)) := by
    have e : (m : Int) * (i.bytes : Int) = ((m * i.bytes : Nat) : Int) := (Int.natCast_mul _ _).symm
    rw [e]; unfold LIM at hb; omega
  have hmx : ¬ ((9223372036854775807 : Int) < (m : Int)) := by unfold LIM at hl; omega
  have hms : ¬ (m = 0 ∨ i.size = 0) := by omega
  have hlt0 : ¬ ((m : Int) < 0) := by omega
  have hm0 : m ≠ 0 := by omega
  have hprod : ¬ (m * i.size = 0) := fun h => (Nat.mul_eq_zero.1 h).elim hm0 hs0
  have hfo : ∀ w' : World, (Builtin.firstCells i.size 0 (.slice ba 0 0)).run P w' = .ok #[] w' := by
    intro w'
    cases ba <;> simp [Builtin.firstCells, Builtin.lenOf, loadCells, loadCellsFrom]
  simp [Builtin.append_, run_underlying ht, run_underlying hu, sizeOf, typeInfo, zeroValue, hi, hz, hn, h48, hw, hb2, hmx, hms, hlt0, hm0, hs0, hprod, asInt, asIntOf, Question.forced, hfo, newRow, grownCap]
  rfl

theorem sub_run {x y : Int} (hx : 0 ≤ x) (hx2 : x ≤ LIM) (hy : 0 ≤ y) (hy2 : y ≤ LIM) {I : TypeId} {w : World} : (binOp .sub I (.int .i64 x) (.int .i64 y)).run P w = .ok (.int .i64 (x - y)) w := by
  have hw : IntKind.i64.wrap (x - y) = x - y := by
    unfold IntKind.wrap
    simp only [IntKind.bits, IntKind.signed, Bool.true_and, decide_eq_true_eq, Nat.reduceSub, Int.reducePow, ge_iff_le]
    unfold LIM at hx2 hy2
    split <;> omega
  simp [binOp, Op.intArith, hw]

theorem slice_head {T e : TypeId} {i : TypeInfo} (hu : P.underlying T = some (.slice e)) (hi : P.info? e = some i) {ad : Option Addr} {len cap : Nat} {w : World} : (Instr.sliceAt T (.slice ad len cap) none (some (.int .i64 0)) none).run P w = .ok (.slice ad 0 cap) w := by
  have hb := run_bounds (P := P) (isSlice := true) (len := len) (cap := cap) (l := 0) (h := 0) (m := cap) (lo := none) (hi := some (.int .i64 0)) (mx := none) (.inl ⟨rfl, rfl⟩) (.inr ⟨.i64, 0, rfl, by omega, rfl⟩) (.inl ⟨rfl, rfl⟩) (by omega) (by omega) (by omega) (by simp) w
  have ha : ad.map (fun x => x.add (0 * i.size)) = ad := by
    cases ad <;> simp [Addr.add]
  simp [Instr.sliceAt, run_underlying hu, Instr.slice, hb, sizeOf, typeInfo, hi]
  intro _
  cases ad <;> simp [Addr.add]

/-- slices.Grow of a slice without room -/
theorem grow_run {g : FuncId} {T I e ty : TypeId} {ku : IntKind} {i : TypeInfo} {z : Value} (h : IsGrow P g T I ty) (hu : P.underlying T = some (.slice e)) (hI : P.underlying I = some (.int ku)) (hi : P.info? e = some i) {ad : Option Addr} {m : Nat} {w : World} (hl : m ≤ LIM) :
    (callFunc g #[.slice ad 0 0, .int .i64 (m : Int)]).run P w = .ok (.enter g #[.slice ad 0 0, .int .i64 (m : Int)]) w ∧
    (m = 0 → ∀ (c : Frame) (cs : List Frame), Steps P (lone (Frame.enter P g #[.slice ad 0 0, .int .i64 (m : Int)] .normal) (c :: cs) w) (lone (c.finish (.slice ad 0 0)) cs w)) ∧
    (0 < m → ∀ {w1 : World} {a1 : Addr} {cap : Nat}, m ≤ cap → (Builtin.append_ #[T, I] ty #[.slice ad 0 0, .int .i64 (m : Int)]).run P w = .ok (.slice (some a1) m cap) w1 →
      ∀ (c : Frame) (cs : List Frame), Steps P (lone (Frame.enter P g #[.slice ad 0 0, .int .i64 (m : Int)] .normal) (c :: cs) w) (lone (c.finish (.slice (some a1) 0 cap)) cs w1)) := by
  obtain ⟨fn, i0, i1, i2, i3, i4, i5, i6, a0, a1, a2, p0, p1, b0, b1, b2, b3, b4, b5, b6, b7, c0, c1, d0, d1, d2, d3, d4, d5, d6, d7, d8, d9, e0, e1, u1, u2, u3, u4, hf, hn, hres, hnt, hbody,
    ⟨A0, A0', A0''⟩, ⟨A1, A1', A1''⟩, ⟨A2, A2', A2''⟩, ⟨B0, B0', B0''⟩, ⟨B1, B1', B1''⟩, ⟨B2, B2', B2''⟩, ⟨B3, B3', B3''⟩, ⟨B4, B4', B4''⟩, ⟨B5, B5', B5''⟩, ⟨B6, B6', B6''⟩, ⟨B7, B7', B7''⟩, ⟨C0, C0', C0''⟩, ⟨C1, C1', C1''⟩,
    ⟨D0, D0', D0''⟩, ⟨D1, D1', D1''⟩, ⟨D2, D2', D2''⟩, ⟨D3, D3', D3''⟩, ⟨D4, D4', D4''⟩, ⟨D5, D5', D5''⟩, hty, ⟨D6, D6', D6''⟩, ⟨D7, D7', D7''⟩, ⟨D8, D8', D8''⟩, ⟨D9, D9', D9''⟩, ⟨E0, E0', E0''⟩, ⟨E1, E1', E1''⟩⟩ := h.ex
  have hent : Frame.enter P g #[.slice ad 0 0, .int .i64 (m : Int)] .normal = cloneFr g #[.slice ad 0 0, .int .i64 (m : Int), undef, undef, undef, undef, undef, undef, undef, undef, undef, undef, undef, undef, undef, undef, undef, undef, undef, undef, undef, undef, undef, undef, undef, undef, undef]
      [.code (.seq (.region i0 #[a0] false) (.seq (.seq (.region i1 #[a1, a2] false) (.cond (.tmp 6) (.region i2 #[p0, p1] false) .skip)) (.seq (.seq (.region i3 #[b0, b1, b2, b3, b4, b5, b6, b7] false) (.seq (.region i4 #[c0, c1] false) (.cond (.tmp 16) (.region i5 #[d0, d1, d2, d3, d4, d5, d6, d7, d8, d9] false) .skip))) (.seq (.region i6 #[e0, e1] false) .ret))))] := by
    unfold Frame.enter cloneFr
    simp [hf, hbody, hnt]
  have hm0 : ¬ ((m : Int) < 0) := by omega
  have s0 := fun (w : World) => sub_run (P := P) (x := 0) (y := 0) (by omega) (by unfold LIM; omega) (by omega) (by unfold LIM; omega) (I := I) (w := w)
  have s1 := fun (w : World) => sub_run (P := P) (x := (m : Int)) (y := 0) (by omega) (by omega) (by omega) (by unfold LIM; omega) (I := I) (w := w)
  simp only [Int.sub_zero, Int.sub_self] at s0 s1
  refine ⟨run_callFunc hf hn hbody, fun h0 c cs => ?_, fun h0 w1 ad1 cap hcap hap c cs => ?_⟩
  · rw [hent]
    refine .head (st_seq rfl rfl) ?_
    refine .head (st_region rfl rfl) ?_
    refine .head (st_val (o := a0) (i := 0) (v := .slice none 0 0) (w' := w) rfl rfl rfl A0'' (by simp [A0]) (by simp [execOp, A0, Frame.eval])) ?_
    refine .head (st_region_end rfl rfl) ?_
    refine .head (st_seq rfl rfl) ?_
    refine .head (st_seq rfl rfl) ?_
    refine .head (st_region rfl rfl) ?_
    refine .head (st_val (o := a1) (i := 0) (v := .int .i64 (m : Int)) (w' := w) rfl rfl rfl A1'' (by simp [A1]) (by simp [execOp, A1, Frame.eval, cloneFr, putT, A0'])) ?_
    refine .head (st_val (o := a2) (i := 1) (v := .bool false) (w' := w) rfl rfl rfl A2'' (by simp [A2]) (by simp [execOp, A2, Frame.eval, cloneFr, putT, A0', A1', eqGuard, binOp, Op.intCmp, hm0])) ?_
    refine .head (st_region_end rfl rfl) ?_
    refine .head (st_cond (t := false) rfl rfl (by simp [Frame.eval, cloneFr, putT, A0', A1', A2'])) ?_
    refine .head (st_skip rfl rfl) ?_
    refine .head (st_seq rfl rfl) ?_
    refine .head (st_seq rfl rfl) ?_
    refine .head (st_region rfl rfl) ?_
    refine .head (st_val (o := b0) (i := 0) (v := .int .i64 (m : Int)) (w' := w) rfl rfl rfl B0'' (by simp [B0]) (by simp [execOp, B0, Frame.eval, cloneFr, putT, A0', A1', A2'])) ?_
    refine .head (st_val (o := b1) (i := 1) (v := .slice ad 0 0) (w' := w) rfl rfl rfl B1'' (by simp [B1]) (by simp [execOp, B1, Frame.eval, cloneFr, putT, A0', A1', A2', B0'])) ?_
    refine .head (st_val (o := b2) (i := 2) (v := .int .i64 0) (w' := w) rfl rfl rfl B2'' (by simp [B2]) (by simp [execOp, B2, Frame.eval, cloneFr, putT, A0', A1', A2', B0', B1', resolve, invoke, builtin, Builtin.cap_, run_underlying hu, goInt])) ?_
    refine .head (st_val (o := b3) (i := 3) (v := .slice ad 0 0) (w' := w) rfl rfl rfl B3'' (by simp [B3]) (by simp [execOp, B3, Frame.eval, cloneFr, putT, A0', A1', A2', B0', B1', B2'])) ?_
    refine .head (st_val (o := b4) (i := 4) (v := .int .i64 0) (w' := w) rfl rfl rfl B4'' (by simp [B4]) (by simp [execOp, B4, Frame.eval, cloneFr, putT, A0', A1', A2', B0', B1', B2', B3', resolve, invoke, builtin, Builtin.len_, run_underlying hu, goInt])) ?_
    refine .head (st_val (o := b5) (i := 5) (v := .int .i64 0) (w' := w) rfl rfl rfl B5'' (by simp [B5]) (by simp [execOp, B5, Frame.eval, cloneFr, putT, A0', A1', A2', B0', B1', B2', B3', B4', eqGuard, s0])) ?_
    refine .head (st_val (o := b6) (i := 6) (v := .int .i64 (m : Int)) (w' := w) rfl rfl rfl B6'' (by simp [B6]) (by simp [execOp, B6, Frame.eval, cloneFr, putT, A0', A1', A2', B0', B1', B2', B3', B4', B5', eqGuard, s1])) ?_
    refine .head (st_val (o := b7) (i := 7) (v := .int .i64 (m : Int)) (w' := w) rfl rfl rfl B7'' (by simp [B7]) (by simp [execOp, B7, Frame.eval, cloneFr, putT, A0', A1', A2', B0', B1', B2', B3', B4', B5', B6'])) ?_
    refine .head (st_region_end rfl rfl) ?_
    refine .head (st_seq rfl rfl) ?_
    refine .head (st_region rfl rfl) ?_
    refine .head (st_val (o := c0) (i := 0) (v := .int .i64 (m : Int)) (w' := w) rfl rfl rfl C0'' (by simp [C0]) (by simp [execOp, C0, Frame.eval, cloneFr, putT, A0', A1', A2', B0', B1', B2', B3', B4', B5', B6', B7'])) ?_
    refine .head (st_val (o := c1) (i := 1) (v := .bool false) (w' := w) rfl rfl rfl C1'' (by simp [C1]) (by simp [execOp, C1, Frame.eval, cloneFr, putT, A0', A1', A2', B0', B1', B2', B3', B4', B5', B6', B7', C0', eqGuard, binOp, Op.intCmp, h0])) ?_
    refine .head (st_region_end rfl rfl) ?_
    refine .head (st_cond (t := false) rfl rfl (by simp [Frame.eval, cloneFr, putT, A0', A1', A2', B0', B1', B2', B3', B4', B5', B6', B7', C0', C1'])) ?_
    refine .head (st_skip rfl rfl) ?_
    refine .head (st_seq rfl rfl) ?_
    refine .head (st_region rfl rfl) ?_
    refine .head (st_val (o := e0) (i := 0) (v := .slice ad 0 0) (w' := w) rfl rfl rfl E0'' (by simp [E0]) (by simp [execOp, E0, Frame.eval, cloneFr, putT, A0', A1', A2', B0', B1', B2', B3', B4', B5', B6', B7', C0', C1'])) ?_
    refine .head (st_val (o := e1) (i := 1) (v := .slice ad 0 0) (w' := w) rfl rfl rfl E1'' (by simp [E1]) (by simp [execOp, E1, Frame.eval, cloneFr, putT, A0', A1', A2', B0', B1', B2', B3', B4', B5', B6', B7', C0', C1', E0'])) ?_
    refine .head (st_region_end rfl rfl) ?_
    refine .head (st_ret rfl rfl rfl) ?_
    exact .one (st_return rfl rfl hf (by rw [results_tmp hres]; simp [cloneFr, putT, A0', A1', A2', B0', B1', B2', B3', B4', B5', B6', B7', C0', C1', E0', E1']) rfl)
  · rw [hent]
    have h0' : (0 : Int) < (m : Int) := by omega
    have hs1 : (Instr.sliceAt T (.slice ad 0 0) none (some (.int .i64 0)) none).run P w = .ok (.slice ad 0 0) w := slice_head hu hi
    have hs2 : (Instr.sliceAt T (.slice (some ad1) m cap) none (some (.int .i64 0)) none).run P w1 = .ok (.slice (some ad1) 0 cap) w1 := slice_head hu hi
    refine .head (st_seq rfl rfl) ?_
    refine .head (st_region rfl rfl) ?_
    refine .head (st_val (o := a0) (i := 0) (v := .slice none 0 0) (w' := w) rfl rfl rfl A0'' (by simp [A0]) (by simp [execOp, A0, Frame.eval])) ?_
    refine .head (st_region_end rfl rfl) ?_
    refine .head (st_seq rfl rfl) ?_
    refine .head (st_seq rfl rfl) ?_
    refine .head (st_region rfl rfl) ?_
    refine .head (st_val (o := a1) (i := 0) (v := .int .i64 (m : Int)) (w' := w) rfl rfl rfl A1'' (by simp [A1]) (by simp [execOp, A1, Frame.eval, cloneFr, putT, A0'])) ?_
    refine .head (st_val (o := a2) (i := 1) (v := .bool false) (w' := w) rfl rfl rfl A2'' (by simp [A2]) (by simp [execOp, A2, Frame.eval, cloneFr, putT, A0', A1', eqGuard, binOp, Op.intCmp, hm0])) ?_
    refine .head (st_region_end rfl rfl) ?_
    refine .head (st_cond (t := false) rfl rfl (by simp [Frame.eval, cloneFr, putT, A0', A1', A2'])) ?_
    refine .head (st_skip rfl rfl) ?_
    refine .head (st_seq rfl rfl) ?_
    refine .head (st_seq rfl rfl) ?_
    refine .head (st_region rfl rfl) ?_
    refine .head (st_val (o := b0) (i := 0) (v := .int .i64 (m : Int)) (w' := w) rfl rfl rfl B0'' (by simp [B0]) (by simp [execOp, B0, Frame.eval, cloneFr, putT, A0', A1', A2'])) ?_
    refine .head (st_val (o := b1) (i := 1) (v := .slice ad 0 0) (w' := w) rfl rfl rfl B1'' (by simp [B1]) (by simp [execOp, B1, Frame.eval, cloneFr, putT, A0', A1', A2', B0'])) ?_
    refine .head (st_val (o := b2) (i := 2) (v := .int .i64 0) (w' := w) rfl rfl rfl B2'' (by simp [B2]) (by simp [execOp, B2, Frame.eval, cloneFr, putT, A0', A1', A2', B0', B1', resolve, invoke, builtin, Builtin.cap_, run_underlying hu, goInt])) ?_
    refine .head (st_val (o := b3) (i := 3) (v := .slice ad 0 0) (w' := w) rfl rfl rfl B3'' (by simp [B3]) (by simp [execOp, B3, Frame.eval, cloneFr, putT, A0', A1', A2', B0', B1', B2'])) ?_
    refine .head (st_val (o := b4) (i := 4) (v := .int .i64 0) (w' := w) rfl rfl rfl B4'' (by simp [B4]) (by simp [execOp, B4, Frame.eval, cloneFr, putT, A0', A1', A2', B0', B1', B2', B3', resolve, invoke, builtin, Builtin.len_, run_underlying hu, goInt])) ?_
    refine .head (st_val (o := b5) (i := 5) (v := .int .i64 0) (w' := w) rfl rfl rfl B5'' (by simp [B5]) (by simp [execOp, B5, Frame.eval, cloneFr, putT, A0', A1', A2', B0', B1', B2', B3', B4', eqGuard, s0])) ?_
    refine .head (st_val (o := b6) (i := 6) (v := .int .i64 (m : Int)) (w' := w) rfl rfl rfl B6'' (by simp [B6]) (by simp [execOp, B6, Frame.eval, cloneFr, putT, A0', A1', A2', B0', B1', B2', B3', B4', B5', eqGuard, s1])) ?_
    refine .head (st_val (o := b7) (i := 7) (v := .int .i64 (m : Int)) (w' := w) rfl rfl rfl B7'' (by simp [B7]) (by simp [execOp, B7, Frame.eval, cloneFr, putT, A0', A1', A2', B0', B1', B2', B3', B4', B5', B6'])) ?_
    refine .head (st_region_end rfl rfl) ?_
    refine .head (st_seq rfl rfl) ?_
    refine .head (st_region rfl rfl) ?_
    refine .head (st_val (o := c0) (i := 0) (v := .int .i64 (m : Int)) (w' := w) rfl rfl rfl C0'' (by simp [C0]) (by simp [execOp, C0, Frame.eval, cloneFr, putT, A0', A1', A2', B0', B1', B2', B3', B4', B5', B6', B7'])) ?_
    refine .head (st_val (o := c1) (i := 1) (v := .bool true) (w' := w) rfl rfl rfl C1'' (by simp [C1]) (by simp [execOp, C1, Frame.eval, cloneFr, putT, A0', A1', A2', B0', B1', B2', B3', B4', B5', B6', B7', C0', eqGuard, binOp, Op.intCmp, h0', h0])) ?_
    refine .head (st_region_end rfl rfl) ?_
    refine .head (st_cond (t := true) rfl rfl (by simp [Frame.eval, cloneFr, putT, A0', A1', A2', B0', B1', B2', B3', B4', B5', B6', B7', C0', C1'])) ?_
    refine .head (st_region rfl rfl) ?_
    refine .head (st_val (o := d0) (i := 0) (v := .slice ad 0 0) (w' := w) rfl rfl rfl D0'' (by simp [D0]) (by simp [execOp, D0, Frame.eval, cloneFr, putT, A0', A1', A2', B0', B1', B2', B3', B4', B5', B6', B7', C0', C1'])) ?_
    refine .head (st_val (o := d1) (i := 1) (v := .slice ad 0 0) (w' := w) rfl rfl rfl D1'' (by simp [D1]) (by simp [execOp, D1, Frame.eval, cloneFr, putT, A0', A1', A2', B0', B1', B2', B3', B4', B5', B6', B7', C0', C1', D0'])) ?_
    refine .head (st_val (o := d2) (i := 2) (v := .int .i64 0) (w' := w) rfl rfl rfl D2'' (by simp [D2]) (by simp [execOp, D2, Frame.eval, cloneFr, putT, A0', A1', A2', B0', B1', B2', B3', B4', B5', B6', B7', C0', C1', D0', D1', resolve, invoke, builtin, Builtin.cap_, run_underlying hu, goInt])) ?_
    refine .head (st_val (o := d3) (i := 3) (v := .slice ad 0 0) (w' := w) rfl rfl rfl D3'' (by simp [D3]) (by simp [execOp, D3, Frame.eval, cloneFr, putT, A0', A1', A2', B0', B1', B2', B3', B4', B5', B6', B7', C0', C1', D0', D1', D2', hs1])) ?_
    refine .head (st_val (o := d4) (i := 4) (v := .int .i64 (m : Int)) (w' := w) rfl rfl rfl D4'' (by simp [D4]) (by simp [execOp, D4, Frame.eval, cloneFr, putT, A0', A1', A2', B0', B1', B2', B3', B4', B5', B6', B7', C0', C1', D0', D1', D2', D3'])) ?_
    refine .head (st_val (o := d5) (i := 5) (v := .slice (some ad1) m cap) (w' := w1) rfl rfl rfl D5'' (by simp [D5]) (by simp [execOp, D5, Frame.eval, cloneFr, putT, A0', A1', A2', B0', B1', B2', B3', B4', B5', B6', B7', C0', C1', D0', D1', D2', D3', D4', resolve, invoke, builtin, hty, hap])) ?_
    refine .head (st_val (o := d6) (i := 6) (v := .slice ad 0 0) (w' := w1) rfl rfl rfl D6'' (by simp [D6]) (by simp [execOp, D6, Frame.eval, cloneFr, putT, A0', A1', A2', B0', B1', B2', B3', B4', B5', B6', B7', C0', C1', D0', D1', D2', D3', D4', D5'])) ?_
    refine .head (st_val (o := d7) (i := 7) (v := .int .i64 0) (w' := w1) rfl rfl rfl D7'' (by simp [D7]) (by simp [execOp, D7, Frame.eval, cloneFr, putT, A0', A1', A2', B0', B1', B2', B3', B4', B5', B6', B7', C0', C1', D0', D1', D2', D3', D4', D5', D6', resolve, invoke, builtin, Builtin.len_, run_underlying hu, goInt])) ?_
    refine .head (st_val (o := d8) (i := 8) (v := .slice (some ad1) 0 cap) (w' := w1) rfl rfl rfl D8'' (by simp [D8]) (by simp [execOp, D8, Frame.eval, cloneFr, putT, A0', A1', A2', B0', B1', B2', B3', B4', B5', B6', B7', C0', C1', D0', D1', D2', D3', D4', D5', D6', D7', hs2])) ?_
    refine .head (st_val (o := d9) (i := 9) (v := .slice (some ad1) 0 cap) (w' := w1) rfl rfl rfl D9'' (by simp [D9]) (by simp [execOp, D9, Frame.eval, cloneFr, putT, A0', A1', A2', B0', B1', B2', B3', B4', B5', B6', B7', C0', C1', D0', D1', D2', D3', D4', D5', D6', D7', D8'])) ?_
    refine .head (st_region_end rfl rfl) ?_
    refine .head (st_seq rfl rfl) ?_
    refine .head (st_region rfl rfl) ?_
    refine .head (st_val (o := e0) (i := 0) (v := .slice (some ad1) 0 cap) (w' := w1) rfl rfl rfl E0'' (by simp [E0]) (by simp [execOp, E0, Frame.eval, cloneFr, putT, A0', A1', A2', B0', B1', B2', B3', B4', B5', B6', B7', C0', C1', D0', D1', D2', D3', D4', D5', D6', D7', D8', D9'])) ?_
    refine .head (st_val (o := e1) (i := 1) (v := .slice (some ad1) 0 cap) (w' := w1) rfl rfl rfl E1'' (by simp [E1]) (by simp [execOp, E1, Frame.eval, cloneFr, putT, A0', A1', A2', B0', B1', B2', B3', B4', B5', B6', B7', C0', C1', D0', D1', D2', D3', D4', D5', D6', D7', D8', D9', E0'])) ?_
    refine .head (st_region_end rfl rfl) ?_
    refine .head (st_ret rfl rfl rfl) ?_
    exact .one (st_return rfl rfl hf (by rw [results_tmp hres]; simp [cloneFr, putT, A0', A1', A2', B0', B1', B2', B3', B4', B5', B6', B7', C0', C1', D0', D1', D2', D3', D4', D5', D6', D7', D8', D9', E0', E1']) rfl)
end
end Go.Mia
namespace Go.Mia
open Go

section
variable {P : Program} {pol : Pol} {k k1 k' : K} {δ j f : Nat} {st st' : St} {B T0 : Nat → Prop} {a : Act} {o : Oper}

theorem zeroCells_get (zc : Array Value) (n s : Nat) (hs : zc.size = s) : ∀ jj, jj < n * s → (Builtin.zeroCells zc n)[jj]? = some (zc.getD (jj % s) undef) := by
  intro jj hj
  have hs0 : 0 < s := Nat.pos_of_ne_zero fun e => by subst e; simp at hj
  have hm : jj % s < zc.size := by rw [hs]; exact Nat.mod_lt _ hs0
  subst hs
  simp only [Builtin.zeroCells, Array.getElem?_map, Array.getElem?_range, hj, if_true, Option.map_some]
  congr 1
  rw [Array.getD_eq_getD_getElem?, Array.getElem?_eq_getElem hm]
  simp [getElem!_pos, hm]

/-- slices.Grow is done by the machine -/
theorem grow_ok {g : FuncId} {T I e ty : TypeId} {ku : IntKind} {i : TypeInfo} {z : Value} {s bytes : Nat} {zs : List D} {x n : Opnd} {d : D} (hG : IsGrow P g T I ty) (hT : AppTy P T T e i z s bytes) (hI : P.underlying I = some (.int ku)) (hs0 : s ≠ 0) (hzs : zeroT P e = some zs) (hzl : zs.length = s)
    {args : Array Operand} {ats : Array TypeId} (ho : o.op = .call { callee := .value (.func g), args, argTypes := ats }) (ha : opnds P ats.toList args.toList = some [x, n]) (L : Loc P pol k δ j st B T0)
    (hv : ∀ s ∈ x.slots ++ n.slots, Val k δ st B T0 (a.tmps.getD s undef) (st.σ s)) (he : evalOp δ j (.grow g s bytes zs x n) st = some (d, st')) :
    ∃ y fr0 v k', (execOp a.eval o).run P k.w = .ok y k.w ∧ Enters P y .normal fr0 ∧ (∀ (c : Frame) (cs : List Frame), Steps P (lone fr0 (c :: cs) k.w) (lone (c.finish v) cs k'.w)) ∧ Gives P pol δ j k st B T0 v k' d st' := by
  have hr := opnds_reps (a := a) (k := k) (δ := δ) (st := st) (B := B) (T := T0) ha (fun s' hs' => hv s' (by simpa using hs'))
  simp only [evs] at hr
  obtain ⟨v, u, hargs⟩ : ∃ v u, args.toList.map a.eval = [v, u] := by
    have h2 := hr.1
    match hm : args.toList.map a.eval, h2 with
    | [v, u], _ => exact ⟨v, u, rfl⟩
  rw [hargs] at hr
  have hrx := hr.head
  have hrn := hr.tail.head
  have hcall : execOp a.eval o = callFunc g #[v, u] := by
    rw [exec_call ho, map_arr, hargs]
    unfold callOf Deferred.ofValue
    simp [Act.eval, invoke]
  simp only [evalOp] at he
  unfold growOp at he
  split at he
  · rename_i s1 zz e1 e2
    rw [e1] at hrx
    rw [e2] at hrn
    split at he
    · rename_i hc
      obtain ⟨hz0, hzb, hzm⟩ := hc
      simp only [Option.some.injEq, Prod.mk.injEq] at he
      obtain ⟨rfl, rfl⟩ := he
      have hu2 := Rep.inv_int hrn
      obtain ⟨m, rfl⟩ : ∃ m : Nat, zz = (m : Int) := ⟨zz.toNat, by omega⟩
      simp only [Int.toNat_natCast] at hzb hzm ⊢
      obtain ⟨ad, rfl⟩ : ∃ ad, v = .slice ad 0 0 := by
        cases hrx with
        | slice b off vs hl hle hf he ha hc hr =>
          have h1 := hf rfl
          simp at hl
          subst hl
          subst h1
          exact ⟨_, rfl⟩
      subst hu2
      obtain ⟨r1, r2, r3⟩ := grow_run (P := P) (z := z) (ad := ad) (m := m) (w := k.w) hG hT.ht hI hT.hi hzm
      refine ⟨.enter g #[.slice ad 0 0, .int .i64 (m : Int)], Frame.enter P g #[.slice ad 0 0, .int .i64 (m : Int)] .normal, ?_⟩
      rw [hcall]
      cases Nat.eq_zero_or_pos m with
      | inl hm0 =>
        subst hm0
        refine ⟨.slice ad 0 0, k, r1, .enter, r2 rfl, ⟨Chg.noBlock L, .vsl (Nat.le_refl _) (Nat.le_refl _) (fun h => absurd h (by omega)), .plain (by simp), .plain (by simp), fun _ => L.ft⟩⟩
      | inr hm0 =>
        have hsz := hT.hs
        have hby := hT.hb
        subst hsz hby
        obtain ⟨hzz, hd⟩ := zeros_rep L hzs hT.hi hT.hz
        have hcap := grownCap_ge k.w m 0 e
        have happ := run_append_zeros (P := P) (w := k.w) (ty := ty) (ba := ad) hT.ht hI hT.hi hT.hz hm0 hzb hzm hT.b0 hT.b1 hs0
        let cv : Array Value := Builtin.zeroCells z.cells m ++ Builtin.zeroCells z.cells (grownCap k.w m 0 e - m)
        have hcsz : cv.size = grownCap k.w m 0 e * i.size := by
          simp only [cv, Array.size_append, size_zeroCells, hT.zs]
          rw [← Nat.add_mul]; congr 1; omega
        have hcg : ∀ jj, jj < m * i.size → cv[jj]? = some (z.cells.getD (jj % i.size) undef) := by
          intro jj hj
          show (Builtin.zeroCells z.cells m ++ _)[jj]? = _
          rw [Array.getElem?_append_left (by rw [size_zeroCells, hT.zs]; exact hj)]
          exact zeroCells_get z.cells m i.size hT.zs jj hj
        have hds := replicate_flat_get zs m
        rw [hzl] at hds
        have C := chg_newBox L (w0 := k.w.drew) ⟨rfl, rfl, rfl, rfl⟩ (cs := cv) (e := e) (fr := (0, 0)) (ds := (List.replicate m zs).flatten) (sp' := k.sp) (live' := st.live) ?_ (by omega) ?_ ?_ (fun h r hh => ⟨h, hh⟩) L.good.spinj (fun _ _ _ => rfl) (fun _ _ _ _ => rfl) (fun t _ h => ⟨h, rfl⟩)
          (fun t _ h h' => by
            rcases h' with h' | h'
            · exact h'
            · simp_all)
          (fun _ _ _ => rfl) ?_
        · refine ⟨.slice (some ⟨k.w.heap.size, 0, none⟩) 0 (grownCap k.w m 0 e), _, r1, .enter, fun c cs => r3 hm0 hcap happ c cs, ⟨C, .vsl (Nat.zero_le _) hcap (fun _ => ⟨k.w.heap.size, by simp [updβ], rfl⟩), .plain (by simp), .plain (by simp), fun _ => L.ft⟩⟩
        · rw [replicate_flat_len, hcsz, hzl]; exact Nat.mul_le_mul_right _ hcap
        · intro jj dd hdd
          have hlt := (List.getElem?_eq_some_iff.1 hdd).1
          rw [replicate_flat_len, hzl] at hlt
          rw [hds jj hlt] at hdd
          rw [Array.getD_eq_getD_getElem?, hcg jj hlt]
          exact (hd _ dd hdd).rep
        · intro dd hdd
          obtain ⟨l, hl, hdl⟩ := List.mem_flatten.1 hdd
          obtain ⟨_, rfl⟩ := List.mem_replicate.1 hl
          obtain ⟨jj, hj⟩ := List.getElem?_of_mem hdl
          exact ⟨(hd jj dd hj).one, (hd jj dd hj).up δ⟩
        · intro jj dd hdd
          refine .plain ?_ (L.fc jj)
          obtain ⟨l, hl, hdl⟩ := List.mem_flatten.1 (List.mem_of_getElem? hdd)
          obtain ⟨_, rfl⟩ := List.mem_replicate.1 hl
          obtain ⟨jj, hj⟩ := List.getElem?_of_mem hdl
          exact LitOk.plain (hd jj dd hj)
    · cases he
  · cases he

/-- Clone and Grow of a program, by a table -/
theorem go_ok (hC : ∀ g, pol.clones.contains g = true → ∃ T e ty i z, IsClone P g T ty ∧ paramT P g = T ∧ AppTy P T T e i z i.size i.bytes) (hG : ∀ g, pol.grows.contains g = true → ∃ T I e ty ku i z, IsGrow P g T I ty ∧ paramT P g = T ∧ AppTy P T T e i z i.size i.bytes ∧ P.underlying I = some (.int ku) ∧ i.size ≠ 0) : GoOk P pol := by
  intro δ j f k st st' B T0 a o op d hga L hv he
  cases hga with
  | recov => simp [evalOp] at he
  | call => simp [evalOp] at he
  | defer => simp [evalOp] at he
  | panic => simp [evalOp] at he
  | clone h ha hc hs =>
    obtain ⟨T, e, ty, i, z, h1, h2, h3⟩ := hC _ hc
    rw [h2] at hs
    obtain ⟨rfl, rfl, rfl⟩ := sliceInfo_of h3.ht h3.hi hs
    exact clone_ok h1 h3 h ha L hv he
  | grow h ha hc hs hz hl =>
    obtain ⟨T, I, e, ty, ku, i, z, h1, h2, h3, h4, h5⟩ := hG _ hc
    rw [h2] at hs
    obtain ⟨rfl, rfl, rfl⟩ := sliceInfo_of h3.ht h3.hi hs
    exact grow_ok h1 h3 h4 h5 hz hl h ha L hv he
end
end Go.Mia
namespace Go.Mia
open Go

/-- an operation of a region in the text's order -/
def op (dst : Option Nat) (o : IOp) (g : Option (Nat × Bool)) : IOper := { dst, op := o, guard := g }
/-- one of a region that draws -/
def opx (dst : Option Nat) (o : IOp) (g : Option (Nat × Bool)) (iso pok tiso un : Bool) (past : Nat) (near : List Nat) : IOper := { dst, op := o, guard := g, iso, pok, tiso, un, past, near }

/-! ### Code -/
section
variable {ft : FT} {cx : Cx} {k : List Item} {df : List IDefer} {st : St} {a b : IC}

@[simp] theorem W_skip : W ft cx (.code .skip :: k) df st = W ft cx k df st := W_eq ..
@[simp] theorem W_inBlock {id : Nat} : W ft cx (.inBlock id :: k) df st = W ft cx k df st := W_eq ..
@[simp] theorem W_inScope : W ft cx (.inScope :: k) df st = W ft cx k df st := W_eq ..
theorem W_inLoop : W ft cx (.inLoop b :: k) df st = W ft cx (.code b :: .inLoop b :: k) df st := W_eq ..
@[simp] theorem W_loop : W ft cx (.code (.loop b) :: k) df st = W ft cx (.inLoop b :: k) df st := by rw [W_inLoop, W_eq]; rfl
@[simp] theorem W_scope : W ft cx (.code (.scope b) :: k) df st = W ft cx (.code b :: .inScope :: k) df st := W_eq ..
@[simp] theorem W_block {id : Nat} : W ft cx (.code (.block id b) :: k) df st = W ft cx (.code b :: .inBlock id :: k) df st := W_eq ..
@[simp] theorem W_seq : W ft cx (.code (.seq a b) :: k) df st = W ft cx (.code a :: .code b :: k) df st := W_eq ..

def condW (d : D) (x y : Option Ret) : Option Ret :=
  match d with
  | .bool true => x
  | .bool false => y
  | _ => none
theorem W_cond {c : Opnd} : W ft cx (.code (.cond c a b) :: k) df st = condW (ev st.σ c) (W ft cx (.code a :: k) df st) (W ft cx (.code b :: k) df st) := W_eq ..
theorem condW_bool {c : Bool} {x y : Option Ret} : condW (.bool c) x y = if c = true then x else y := by cases c <;> rfl
theorem condW_true {x y : Option Ret} : condW (.bool true) x y = x := rfl
theorem condW_false {x y : Option Ret} : condW (.bool false) x y = y := rfl

@[simp] theorem W_cond_true {c : Opnd} (h : ev st.σ c = .bool true) : W ft cx (.code (.cond c a b) :: k) df st = W ft cx (.code a :: k) df st := by rw [W_cond, h]; rfl
@[simp] theorem W_cond_false {c : Opnd} (h : ev st.σ c = .bool false) : W ft cx (.code (.cond c a b) :: k) df st = W ft cx (.code b :: k) df st := by rw [W_cond, h]; rfl

noncomputable def exitW (ft : FT) (cx : Cx) (df : List IDefer) (st : St) (id : Nat) : Option (List Item) → Option Ret
  | some k => W ft cx k df st
  | none => outOf (C ft) cx df st (some (.exit id))
@[simp] theorem W_exit {id : Nat} : W ft cx (.code (.exit id) :: k) df st = exitW ft cx df st id (exitTo id k) := by
  rw [W_eq]; simp only [stepR]; unfold exitW; split <;> rename_i h <;> simp only [h]
@[simp] theorem exitW_some {id : Nat} : exitW ft cx df st id (some k) = W ft cx k df st := rfl
@[simp] theorem exitTo_here {id : Nat} : exitTo id (.inBlock id :: k) = some k := by simp [exitTo]
@[simp] theorem exitTo_other {id id' : Nat} (h : (id' = id) = False) : exitTo id (.inBlock id' :: k) = exitTo id k := by
  have : ¬ id' = id := by rw [h]; exact fun x => x
  simp [exitTo, this]
@[simp] theorem exitTo_code {id : Nat} {c : IC} : exitTo id (.code c :: k) = exitTo id k := rfl
@[simp] theorem exitTo_inLoop {id : Nat} {c : IC} : exitTo id (.inLoop c :: k) = exitTo id k := rfl
@[simp] theorem exitTo_inScope {id : Nat} : exitTo id (.inScope :: k) = exitTo id k := rfl
@[simp] theorem exitTo_begin {id : Nat} : exitTo id (.beginRound :: k) = exitTo id k := rfl
@[simp] theorem W_ret : W ft cx (.code .ret :: k) df st = outOf (C ft) cx df st (some .ret) := W_eq ..
theorem W_nil : W ft cx [] df st = outOf (C ft) cx df st none := W_eq ..

/-- behind a region -/
noncomputable def regW (ft : FT) (cx : Cx) (k : List Item) (n : Nat) : Option Stop → Option Ret
  | none => none
  | some (.run r) => W ft cx k r.df { r.st with m := r.st.m + n, nt := r.st.nt + n }
  | some (.pan v r) => match cx.round with
    | some _ => match r.df with
      | [] => if v.pure then some (retOf cx r.st (.pan v)) else none
      | _ => none
    | none => leave (C ft) cx r.df (.pan v) r.st
@[simp] theorem regW_run {n : Nat} {r : RSt} : regW ft cx k n (some (.run r)) = W ft cx k r.df { r.st with m := r.st.m + n, nt := r.st.nt + n } := rfl
theorem regW_pan {n : Nat} {r : RSt} {v : D} {δ : Nat} {own : Bool} {res : List IRes} : regW ft ⟨δ, own, res, none⟩ k n (some (.pan v r)) = leave (C ft) ⟨δ, own, res, none⟩ r.df (.pan v) r.st := rfl
@[simp] theorem W_region {ops : List IOper} : W ft cx (.code (.region ops) :: k) df st = regW ft cx k ops.length (runL (C ft) cx (number 0 ops) ⟨st, df, fun _ => none⟩) := by
  rw [W_eq]
  simp only [stepR]
  cases h : runL (C ft) cx (number 0 ops) ⟨st, df, fun _ => none⟩ with
  | none => rfl
  | some x => cases x <;> rfl
end

/-! ### Operations -/
section
variable {call : CallF} {cx : Cx} {j : Nat} {r : RSt} {σ : Nat → D} {t : Nat} {d : D}

def nextL (f : RSt → Option Stop) : Option (RSt ⊕ (D × RSt)) → Option Stop
  | none => none
  | some (.inl r) => f r
  | some (.inr (v, r)) => some (.pan v r)
@[simp] theorem runL_nil : runL call cx [] r = some (.run r) := rfl
@[simp] theorem runL_cons {o : IOper} {rest : List (Nat × IOper)} : runL call cx ((j, o) :: rest) r = nextL (runL call cx rest) (stepO call cx j o r) := by
  simp only [runL]; unfold nextL; split <;> rename_i h <;> simp only [h]
@[simp] theorem nextL_inl {f : RSt → Option Stop} : nextL f (some (.inl r)) = f r := rfl
@[simp] theorem nextL_inr {f : RSt → Option Stop} {v : D} : nextL f (some (.inr (v, r))) = some (.pan v r) := rfl

@[simp] theorem upd_same : upd σ t d t = d := by simp [upd]
@[simp] theorem upd_ne {t' : Nat} (h : (t' = t) = False) : upd σ t d t' = σ t' := by
  have : ¬ t' = t := by rw [h]; exact fun x => x
  simp [upd, this]

end

/-! ### One operation, kind by kind -/
section
variable {call : CallF} {cx : Cx} {j : Nat} {st : St} {df : List IDefer} {lg : Nat → Option (Nat × Nat)} {dst : Option Nat} {g : Option (Nat × Bool)}

/-- is it done -/
def guardG (σ : Nat → D) : Option (Nat × Bool) → Option Bool
  | none => some true
  | some (t, b) => match σ t with
    | .bool c => some (c == b)
    | .tup [] => some false
    | _ => none
/-- what an operation makes of the frame -/
def doneG (st : St) (df : List IDefer) (lg : Nat → Option (Nat × Nat)) (dst : Option Nat) : Option (D × St) → Option (RSt ⊕ (D × RSt))
  | none => none
  | some (d, s) => some (.inl ⟨putD s dst d, df, lg⟩)
def whenG (st : St) (df : List IDefer) (lg : Nat → Option (Nat × Nat)) (dst : Option Nat) (x : Option (RSt ⊕ (D × RSt))) : Option Bool → Option (RSt ⊕ (D × RSt))
  | none => none
  | some true => x
  | some false => some (.inl ⟨putD st dst (.tup []), df, lg⟩)
/-- a value that changes nothing -/
def valG (st : St) (df : List IDefer) (lg : Nat → Option (Nat × Nat)) (dst : Option Nat) : Option D → Option (RSt ⊕ (D × RSt))
  | none => none
  | some d => some (.inl ⟨putD st dst d, df, lg⟩)

@[simp] theorem stepO_op {o : IOp} : stepO call cx j (op dst o g) ⟨st, df, lg⟩ = whenG st df lg dst (stepW call cx j (op dst o g) ⟨st, df, lg⟩) (guardG st.σ g) := by
  unfold stepO
  have : wanted st (op dst o g) = guardG st.σ g := by
    unfold wanted guardG op
    cases g with
    | none => rfl
    | some p => obtain ⟨t, b⟩ := p; rfl
  simp only [this]
  unfold whenG
  split <;> rename_i h <;> simp only [h] <;> rfl
@[simp] theorem guardG_none {σ : Nat → D} : guardG σ none = some true := rfl
theorem guardG_some {σ : Nat → D} {t : Nat} {b : Bool} : guardG σ (some (t, b)) = (match σ t with
    | .bool c => some (c == b)
    | .tup [] => some false
    | _ => none) := rfl
@[simp] theorem whenG_true {x : Option (RSt ⊕ (D × RSt))} : whenG st df lg dst x (some true) = x := rfl
@[simp] theorem whenG_false {x : Option (RSt ⊕ (D × RSt))} : whenG st df lg dst x (some false) = some (.inl ⟨putD st dst (.tup []), df, lg⟩) := rfl
@[simp] theorem valG_some {d : D} : valG st df lg dst (some d) = some (.inl ⟨putD st dst d, df, lg⟩) := rfl
@[simp] theorem putD_some {t : Nat} {d : D} : putD st (some t) d = { st with σ := upd st.σ t d } := rfl
@[simp] theorem putD_none {d : D} : putD st none d = st := rfl

/-- what matches make of a value -/
def toIntD (k : IntKind) : D → Option D
  | .int _ n => some (.int k (k.wrap n))
  | _ => none
def sameD : D → Option D
  | .str s => some (.str s)
  | _ => none
def mkID (t : TypeId) (d : D) : Option D := if d.pure then some (.iface t d) else none
def sliceX (s : Nat) (x : D) (l : Option Nat) (h m : Option (Option Nat)) : Option D :=
  match l, h, m with
  | some l, some h, some m => sliceD s x l h m
  | _, _, _ => none
def minmaxD (m : Bool) : List D → Option D
  | .int k n :: ds => foldMM m (.int k n) ds
  | _ => none
def buildSlD (s : Nat) (ds : List D) : Option D := if elemsOk s ds then some (.slice .full s ds) else none
def bytesStrD (S : Store) (x : D) : Option D :=
  match srcOf S false x with
  | some (_, ys) => (bytesOf ys).map .str
  | none => none

theorem valG_of {o : IOp} {x : Option D} (hp : stepW call cx j (op dst o g) ⟨st, df, lg⟩ = (stepPlain cx.δ j (op dst o g) ⟨st, df, lg⟩).map .inl) (h : evalOp cx.δ j o st = x.map (·, st)) : stepW call cx j (op dst o g) ⟨st, df, lg⟩ = valG st df lg dst x := by
  rw [hp]
  have : stepPlain cx.δ j (op dst o g) ⟨st, df, lg⟩ = (evalOp cx.δ j o st).map fun p => ⟨putD p.2 dst p.1, df, lg⟩ := rfl
  rw [this, h]
  cases x <;> rfl
theorem doneG_of {o : IOp} (hp : stepW call cx j (op dst o g) ⟨st, df, lg⟩ = (stepPlain cx.δ j (op dst o g) ⟨st, df, lg⟩).map .inl) : stepW call cx j (op dst o g) ⟨st, df, lg⟩ = doneG st df lg dst (evalOp cx.δ j o st) := by
  rw [hp]
  have : stepPlain cx.δ j (op dst o g) ⟨st, df, lg⟩ = (evalOp cx.δ j o st).map fun p => ⟨putD p.2 dst p.1, df, lg⟩ := rfl
  rw [this]
  cases evalOp cx.δ j o st <;> rfl
@[simp] theorem w_mv {x : Opnd} : stepW call cx j (op dst (.mv x) g) ⟨st, df, lg⟩ = valG st df lg dst (some (ev st.σ x)) := valG_of rfl (rfl)
@[simp] theorem w_pick {c a b : Opnd} : stepW call cx j (op dst (.pick c a b) g) ⟨st, df, lg⟩ = valG st df lg dst (pickD (ev st.σ c) (ev st.σ a) (ev st.σ b)) := valG_of rfl (rfl)
@[simp] theorem w_load {a : Bool} {s : Nat} {x : Opnd} : stepW call cx j (op dst (.load a s x) g) ⟨st, df, lg⟩ = valG st df lg dst (loadOp a s (ev st.σ x) st) := valG_of rfl (rfl)
@[simp] theorem w_nilck {x : Opnd} : stepW call cx j (op dst (.nilck x) g) ⟨st, df, lg⟩ = valG st df lg dst (nilckD (ev st.σ x)) := valG_of rfl (rfl)
@[simp] theorem w_bin {o : BinOp} {x y : Opnd} : stepW call cx j (op dst (.bin o x y) g) ⟨st, df, lg⟩ = valG st df lg dst (binD o (ev st.σ x) (ev st.σ y)) := valG_of rfl (rfl)
@[simp] theorem w_eq {n : Bool} {k : EqK} {x y : Opnd} : stepW call cx j (op dst (.eq n k x y) g) ⟨st, df, lg⟩ = valG st df lg dst ((eqD k (ev st.σ x) (ev st.σ y)).map fun b => .bool (n != b)) := valG_of rfl (by simp only [evalOp]; cases eqD k (ev st.σ x) (ev st.σ y) <;> rfl)
@[simp] theorem w_un {o : UnOp} {x : Opnd} : stepW call cx j (op dst (.un o x) g) ⟨st, df, lg⟩ = valG st df lg dst (unD o (ev st.σ x)) := valG_of rfl (rfl)
@[simp] theorem w_toInt {k : IntKind} {x : Opnd} : stepW call cx j (op dst (.toInt k x) g) ⟨st, df, lg⟩ = valG st df lg dst (toIntD k (ev st.σ x)) := valG_of rfl (by simp only [evalOp]; cases ev st.σ x <;> rfl)
@[simp] theorem w_same {x : Opnd} : stepW call cx j (op dst (.same x) g) ⟨st, df, lg⟩ = valG st df lg dst (sameD (ev st.σ x)) := valG_of rfl (by simp only [evalOp]; cases ev st.σ x <;> rfl)
@[simp] theorem w_mkI {t : TypeId} {x : Opnd} : stepW call cx j (op dst (.mkI t x) g) ⟨st, df, lg⟩ = valG st df lg dst (mkID t (ev st.σ x).degr) := valG_of rfl (by simp only [evalOp, mkID]; split <;> rfl)
@[simp] theorem w_mkF {f : FuncId} {a b : List Opnd} : stepW call cx j (op dst (.mkF f a b) g) ⟨st, df, lg⟩ = valG st df lg dst (some (.fn f ((evs st.σ a).map D.degr) ((evs st.σ b).map D.degr))) := valG_of rfl (rfl)
@[simp] theorem w_slice {s : Nat} {x : Opnd} {a b c : Option Opnd} : stepW call cx j (op dst (.slice s x a b c) g) ⟨st, df, lg⟩ = valG st df lg dst (sliceX s (ev st.σ x) (optNat st.σ 0 a) (optNat' st.σ b) (optNat' st.σ c)) := valG_of rfl (by simp only [evalOp]; cases optNat st.σ 0 a <;> cases optNat' st.σ b <;> cases optNat' st.σ c <;> rfl)
@[simp] theorem w_fld {o : Nat} {x : Opnd} : stepW call cx j (op dst (.fld o x) g) ⟨st, df, lg⟩ = valG st df lg dst (fldD o (ev st.σ x)) := valG_of rfl (rfl)
@[simp] theorem w_fldv {a : Bool} {o s : Nat} {x : Opnd} : stepW call cx j (op dst (.fldv a o s x) g) ⟨st, df, lg⟩ = valG st df lg dst (fldvD a o s (ev st.σ x)) := valG_of rfl (rfl)
@[simp] theorem w_idx {a : Option Nat} {s : Nat} {x i : Opnd} : stepW call cx j (op dst (.idx a s x i) g) ⟨st, df, lg⟩ = valG st df lg dst ((asNat (ev st.σ i)).bind (idxD a s (ev st.σ x))) := valG_of rfl (by simp only [evalOp]; cases asNat (ev st.σ i) <;> rfl)
@[simp] theorem w_idxs {x i : Opnd} : stepW call cx j (op dst (.idxs x i) g) ⟨st, df, lg⟩ = valG st df lg dst ((asNat (ev st.σ i)).bind (idxsD (ev st.σ x))) := valG_of rfl (by simp only [evalOp]; cases asNat (ev st.σ i) <;> rfl)
@[simp] theorem w_idxa {a : Bool} {n s : Nat} {x i : Opnd} : stepW call cx j (op dst (.idxa a n s x i) g) ⟨st, df, lg⟩ = valG st df lg dst ((asNat (ev st.σ i)).bind fun i => if i < n then fldvD a (i * s) s (ev st.σ x) else none) := valG_of rfl (by simp only [evalOp]; cases asNat (ev st.σ i) with | none => rfl | some n => simp only [Option.bind_some]; split <;> rfl)
@[simp] theorem w_ext {x : Opnd} {i : Nat} : stepW call cx j (op dst (.ext x i) g) ⟨st, df, lg⟩ = valG st df lg dst (extD i (ev st.σ x)) := valG_of rfl (rfl)
@[simp] theorem w_tas {t : TypeId} {z : D} {ok : Bool} {x : Opnd} : stepW call cx j (op dst (.tas t z ok x) g) ⟨st, df, lg⟩ = valG st df lg dst (tasD t z ok (ev st.σ x)) := valG_of rfl (rfl)
@[simp] theorem w_len {k : LenK} {x : Opnd} : stepW call cx j (op dst (.len k x) g) ⟨st, df, lg⟩ = valG st df lg dst ((lenD k (ev st.σ x)).map fun (n : Nat) => D.int .i64 (n : Int)) := valG_of rfl (by simp only [evalOp]; cases lenD k (ev st.σ x) <;> rfl)
@[simp] theorem w_minmax {m : Bool} {xs : List Opnd} : stepW call cx j (op dst (.minmax m xs) g) ⟨st, df, lg⟩ = valG st df lg dst (minmaxD m (evs st.σ xs)) := valG_of rfl (by simp only [evalOp]; cases evs st.σ xs with | nil => rfl | cons d ds => cases d <;> rfl)
@[simp] theorem w_build {zs : List D} {ps : List (Nat × Nat × Opnd)} : stepW call cx j (op dst (.build zs ps) g) ⟨st, df, lg⟩ = valG st df lg dst ((fills zs (ps.map fun p => (p.1, p.2.1, ev st.σ p.2.2))).map .agg) := valG_of rfl (by simp only [evalOp]; cases fills zs (ps.map fun p => (p.1, p.2.1, ev st.σ p.2.2)) <;> rfl)
@[simp] theorem w_buildSl {s : Nat} {es : List Opnd} : stepW call cx j (op dst (.buildSl s es) g) ⟨st, df, lg⟩ = valG st df lg dst (buildSlD s ((evs st.σ es).map D.degr)) := valG_of rfl (by simp only [evalOp, buildSlD]; split <;> rfl)
@[simp] theorem w_bytesStr {x : Opnd} : stepW call cx j (op dst (.bytesStr x) g) ⟨st, df, lg⟩ = valG st df lg dst (bytesStrD st.S (ev st.σ x)) := valG_of rfl (by simp only [evalOp, bytesStrD]; cases srcOf st.S false (ev st.σ x) with | none => rfl | some p => obtain ⟨a, b⟩ := p; simp only; cases bytesOf b <;> rfl)
@[simp] theorem w_alloc {zs : List D} : stepW call cx j (op dst (.alloc zs) g) ⟨st, df, lg⟩ = doneG st df lg dst (evalOp cx.δ j (.alloc zs) st) := doneG_of rfl
@[simp] theorem w_box {x : Opnd} : stepW call cx j (op dst (.box x) g) ⟨st, df, lg⟩ = doneG st df lg dst (evalOp cx.δ j (.box x) st) := doneG_of rfl
@[simp] theorem w_store {s : Nat} {a x : Opnd} : stepW call cx j (op dst (.store s a x) g) ⟨st, df, lg⟩ = doneG st df lg dst (evalOp cx.δ j (.store s a x) st) := doneG_of rfl
@[simp] theorem w_strBytes {x : Opnd} : stepW call cx j (op dst (.strBytes x) g) ⟨st, df, lg⟩ = doneG st df lg dst (evalOp cx.δ j (.strBytes x) st) := doneG_of rfl
@[simp] theorem w_mkSl {s b : Nat} {zs : List D} {n : Opnd} : stepW call cx j (op dst (.mkSl s b zs n) g) ⟨st, df, lg⟩ = doneG st df lg dst (evalOp cx.δ j (.mkSl s b zs n) st) := doneG_of rfl
@[simp] theorem w_mkCap {s b : Nat} {n : Opnd} : stepW call cx j (op dst (.mkCap s b n) g) ⟨st, df, lg⟩ = doneG st df lg dst (evalOp cx.δ j (.mkCap s b n) st) := doneG_of rfl
@[simp] theorem w_append {v t : Bool} {s b : Nat} {x y : Opnd} : stepW call cx j (op dst (.append v t s b x y) g) ⟨st, df, lg⟩ = doneG st df lg dst (evalOp cx.δ j (.append v t s b x y) st) := doneG_of rfl
@[simp] theorem w_clone {v : Bool} {f : FuncId} {s b : Nat} {x : Opnd} : stepW call cx j (op dst (.clone v f s b x) g) ⟨st, df, lg⟩ = doneG st df lg dst (evalOp cx.δ j (.clone v f s b x) st) := doneG_of rfl
@[simp] theorem w_grow {f : FuncId} {s b : Nat} {zs : List D} {x n : Opnd} : stepW call cx j (op dst (.grow f s b zs x n) g) ⟨st, df, lg⟩ = doneG st df lg dst (evalOp cx.δ j (.grow f s b zs x n) st) := doneG_of rfl
@[simp] theorem w_clear {zs : List D} {x : Opnd} : stepW call cx j (op dst (.clear zs x) g) ⟨st, df, lg⟩ = doneG st df lg dst (evalOp cx.δ j (.clear zs x) st) := doneG_of rfl
@[simp] theorem doneG_some {d : D} {s' : St} : doneG st df lg dst (some (d, s')) = some (.inl ⟨putD s' dst d, df, lg⟩) := rfl

/-- behind a call -/
def callG (st : St) (df : List IDefer) (lg : Nat → Option (Nat × Nat)) (dst : Option Nat) (j : Nat) (own : Bool) : Option Ret → Option (RSt ⊕ (D × RSt))
  | none => none
  | some rt =>
    let st' : St := match rt.S' with | none => st | some S' => { st with S := S', now := st.now + 1, low := min st.low rt.low }
    match rt.out with
    | .ret d => if own then some (.inl ⟨putD (adopt j st' d).2 dst (adopt j st' d).1, df, lg⟩) else some (.inl ⟨putD st' dst d.degr, df, lg⟩)
    | .pan v => some (.inr (v, ⟨st', df, lg⟩))
@[simp] theorem w_call {own : Bool} {f : Opnd} {args : List Opnd} : stepW call cx j (op dst (.call own f args) g) ⟨st, df, lg⟩ = callG st df lg dst j own (call none (ev st.σ f) ((evs st.σ args).map D.degr) st.S (cx.δ + 1)) := by
  unfold stepW callG
  simp only [op, if_true]
  cases call none (ev st.σ f) ((evs st.σ args).map D.degr) st.S (cx.δ + 1) with
  | none => rfl
  | some rt =>
    simp only [stepCall, afterCall]
    cases rt.S' <;> simp only [if_true] <;> cases rt.out <;> rfl
@[simp] theorem callG_ret {d : D} {δ : Nat} : callG st df lg dst j false (some ⟨.ret d, false, δ, none⟩) = some (.inl ⟨putD st dst d.degr, df, lg⟩) := rfl
@[simp] theorem callG_own {d : D} {δ : Nat} : callG st df lg dst j true (some ⟨.ret d, false, δ, none⟩) = some (.inl ⟨putD (adopt j st d).2 dst (adopt j st d).1, df, lg⟩) := rfl
@[simp] theorem callG_pan {own : Bool} {v : D} {δ : Nat} : callG st df lg dst j own (some ⟨.pan v, false, δ, none⟩) = some (.inr (v, ⟨st, df, lg⟩)) := rfl
@[simp] theorem w_panic {x : Opnd} {t : TypeId} {v : D} (h : ev st.σ x = .iface t v) : stepW call cx j (op dst (.panic x) g) ⟨st, df, lg⟩ = some (.inr (.iface t v, ⟨st, df, lg⟩)) := by
  unfold stepW
  simp only [op, h, if_true]
end

@[simp] theorem ev_tmp {σ : Nat → D} {t : Nat} : ev σ (.tmp t) = σ t := rfl
@[simp] theorem ev_const {σ : Nat → D} {d : D} : ev σ (.const d) = d := rfl
@[simp] theorem evs_nil {σ : Nat → D} : evs σ [] = [] := rfl
@[simp] theorem evs_cons {σ : Nat → D} {x : Opnd} {xs : List Opnd} : evs σ (x :: xs) = ev σ x :: evs σ xs := rfl
@[simp] theorem number_nil {n : Nat} : number n [] = [] := rfl
@[simp] theorem number_cons {n : Nat} {o : IOper} {os : List IOper} : number n (o :: os) = (n, o) :: number (n + 1) os := rfl

/-- slots -/
def env : List D → Nat → D
  | [], _ => .undef
  | d :: _, 0 => d
  | _ :: l, i + 1 => env l i
@[simp] theorem env_zero {d : D} {l : List D} : env (d :: l) 0 = d := rfl
@[simp] theorem env_succ {d : D} {l : List D} {i : Nat} : env (d :: l) (i + 1) = env l i := rfl
@[simp] theorem env_nil {i : Nat} : env [] i = .undef := rfl
theorem env_eq : ∀ (l : List D) (i : Nat), (l[i]?).getD .undef = env l i
  | [], i => by simp
  | d :: l, 0 => by simp
  | d :: l, i + 1 => by simpa using env_eq l i
@[simp] theorem initSt_eq {args : List D} {S : Store} {δ : Nat} {p : Option D} : initSt args S δ p = { σ := env args, S, m := 0, live := fun _ => false, nt := 0, now := 0, low := δ, pend := p, recd := false } := by
  unfold initSt
  congr 1
  funext i
  exact env_eq args i

@[simp] theorem upd2_same {S : Store} {d i : Nat} {o : Obj} : upd2 S d i o d i = o := by simp [upd2]
theorem upd2_ne {S : Store} {d i d' i' : Nat} {o : Obj} (h : ¬ (d' = d ∧ i' = i)) : upd2 S d i o d' i' = S d' i' := by simp only [upd2, if_neg h]
@[simp] theorem upd2_ne_i {S : Store} {d i i' : Nat} {o : Obj} (h : (i' = i) = False) : upd2 S d i o d i' = S d i' := upd2_ne (by rw [h]; exact fun x => x.2)
@[simp] theorem upd2_upd2 {S : Store} {d i : Nat} {o o' : Obj} : upd2 (upd2 S d i o) d i o' = upd2 S d i o' := by
  funext d' i'
  unfold upd2
  split <;> rfl
end Go.Mia
namespace Go.Mia
open Go

/-- cells that hold no pointers to boxes at their top -/
def D.simple : D → Bool
  | .bool _ | .int .. | .str _ | .nilp | .cptr _ | .slice .. | .nilf | .nili => true
  | _ => false
theorem expD_simple {S : Store} {δ n : Nat} {d : D} (h : d.simple = true) : expD S δ (n + 1) d = some d := by
  cases d <;> first | rfl | cases h
theorem expDs_simple {S : Store} {δ : Nat} : ∀ {ds : List D} {n : Nat}, ds.all D.simple = true → ds.length + 2 ≤ n → expDs S δ n ds = some ds
  | [], n, _, hn => by
    obtain ⟨m, rfl⟩ : ∃ m, n = m + 1 := ⟨n - 1, by omega⟩
    rfl
  | d :: ds, n, h, hn => by
    simp only [List.all_cons, Bool.and_eq_true] at h
    obtain ⟨m, rfl⟩ : ∃ m, n = m + 2 := ⟨n - 2, by simp at hn; omega⟩
    simp only [expDs, expD_simple h.1, expDs_simple h.2 (show ds.length + 2 ≤ m + 1 by simp at hn; omega)]
theorem expD_agg {S : Store} {δ n : Nat} {cs : List D} (h : cs.all D.simple = true) (hn : cs.length + 3 ≤ n) : expD S δ n (.agg cs) = some (.agg cs) := by
  obtain ⟨m, rfl⟩ : ∃ m, n = m + 1 := ⟨n - 1, by omega⟩
  simp only [expD, expDs_simple h (show cs.length + 2 ≤ m by omega), Option.map_some]

section
variable {ft : FT} {δ : Nat} {own : Bool} {res : List IRes} {st : St}

def isoB (δ : Nat) : Option Ret → Option Ret
  | some rt => isoRet δ rt
  | none => none
theorem C_iso {f : FuncId} {fn : IFunc} {first cap args : List D} {S : Store} (hf : ft f = some (.ir fn)) (hl : (first ++ args ++ cap).length ≤ fn.nt) (hp : D.pures (first ++ args ++ cap) = true) :
    C ft none (.fn f first cap) args S δ = isoB δ (W ft ⟨1, fn.own, fn.results, none⟩ [.code fn.body] [] (initSt ((first ++ args ++ cap).map D.degr) S0 1 none)) := by
  unfold C mkCall
  simp only [hf, if_pos hl, Option.isNone_none, Bool.true_and, hp, if_true]
  unfold isoB
  rfl

/-- the answer of a call -/
def ansG (δ : Nat) : Option D → Option Ret
  | some d => if d.pureR then some ⟨.ret d, false, δ, none⟩ else none
  | none => none
@[simp] theorem fin_ret (h1 : st.low = 1) (h2 : st.recd = false) : isoB δ (outOf (C ft) ⟨1, own, res, none⟩ [] st (some .ret)) = ansG δ (resultD ⟨1, own, res, none⟩ st) := by
  simp only [outOf, leave]
  cases resultD ⟨1, own, res, none⟩ st with
  | none => rfl
  | some d =>
    simp only [Option.map_some, isoB, isoRet, retOf, h1, h2, ansG]
    rfl
@[simp] theorem fin_nil (h1 : st.low = 1) (h2 : st.recd = false) : isoB δ (outOf (C ft) ⟨1, own, res, none⟩ [] st none) = ansG δ (resultD ⟨1, own, res, none⟩ st) := by
  simp only [outOf, leave]
  cases resultD ⟨1, own, res, none⟩ st with
  | none => rfl
  | some d =>
    simp only [Option.map_some, isoB, isoRet, retOf, h1, h2, ansG]
    rfl
@[simp] theorem ansG_some {d : D} : ansG δ (some d) = if d.pureR = true then some ⟨.ret d, false, δ, none⟩ else none := rfl
@[simp] theorem isoB_ite {c : Prop} [Decidable c] {x y : Option Ret} : isoB δ (if c then x else y) = if c then isoB δ x else isoB δ y := by split <;> rfl

/-- the first slots of a frame -/
theorem init_σ {args : List D} {S : Store} {p : Option D} {i : Nat} : (initSt args S δ p).σ i = (args[i]?).getD .undef := rfl
end

attribute [simp] evalOp allocSt fills setCells storeOp D.upto D.uptos resultD allRes oneRes ofCells D.pure D.pures nilckD eqPtr eqFn eqIf eqInt eqStr eqBool eqD unD
  toIntD sameD mkID sliceX minmaxD buildSlD bytesStrD fldD fldvD idxD idxsD extD tasD pickD lenD asNat optNat optNat' sliceD cutTk takeRight newTok appendOp srcOf elemsOk guardG_some
@[simp] theorem degr1_undef  : (D.undef).degr1 = (D.undef) := rfl
@[simp] theorem degr_undef  : (D.undef).degr = (D.undef) := rfl
@[simp] theorem isVal_undef  : (D.undef).isVal = false := rfl
@[simp] theorem pureR_undef  : (D.undef).pureR = (D.undef).pure := rfl
@[simp] theorem isAgg_undef  : (D.undef).isAgg = false := rfl
@[simp] theorem flat_undef  : (D.undef).flat = true := rfl
@[simp] theorem fullOr_undef  : fullOr (D.undef) = (D.undef) := rfl
@[simp] theorem lend1_undef  {x y z w : Nat} : lend1 x y z w (D.undef) = (D.undef) := rfl
@[simp] theorem keepD_undef  {own : Bool} {live : Nat → Bool} : keepD own live (D.undef) = (D.undef).degr := rfl
@[simp] theorem settle_undef  {live : Nat → Bool} : settle live (D.undef) = ([(D.undef)], live) := rfl
@[simp] theorem degr1_bool {b : Bool} : (D.bool b).degr1 = (D.bool b) := rfl
@[simp] theorem degr_bool {b : Bool} : (D.bool b).degr = (D.bool b) := rfl
@[simp] theorem isVal_bool {b : Bool} : (D.bool b).isVal = true := rfl
@[simp] theorem pureR_bool {b : Bool} : (D.bool b).pureR = (D.bool b).pure := rfl
@[simp] theorem isAgg_bool {b : Bool} : (D.bool b).isAgg = false := rfl
@[simp] theorem flat_bool {b : Bool} : (D.bool b).flat = true := rfl
@[simp] theorem fullOr_bool {b : Bool} : fullOr (D.bool b) = (D.bool b) := rfl
@[simp] theorem lend1_bool {b : Bool} {x y z w : Nat} : lend1 x y z w (D.bool b) = (D.bool b) := rfl
@[simp] theorem keepD_bool {b : Bool} {own : Bool} {live : Nat → Bool} : keepD own live (D.bool b) = (D.bool b).degr := rfl
@[simp] theorem settle_bool {b : Bool} {live : Nat → Bool} : settle live (D.bool b) = ([(D.bool b)], live) := rfl
@[simp] theorem degr1_int {k : IntKind} {n : Int} : (D.int k n).degr1 = (D.int k n) := rfl
@[simp] theorem degr_int {k : IntKind} {n : Int} : (D.int k n).degr = (D.int k n) := rfl
@[simp] theorem isVal_int {k : IntKind} {n : Int} : (D.int k n).isVal = true := rfl
@[simp] theorem pureR_int {k : IntKind} {n : Int} : (D.int k n).pureR = (D.int k n).pure := rfl
@[simp] theorem isAgg_int {k : IntKind} {n : Int} : (D.int k n).isAgg = false := rfl
@[simp] theorem flat_int {k : IntKind} {n : Int} : (D.int k n).flat = true := rfl
@[simp] theorem fullOr_int {k : IntKind} {n : Int} : fullOr (D.int k n) = (D.int k n) := rfl
@[simp] theorem lend1_int {k : IntKind} {n : Int} {x y z w : Nat} : lend1 x y z w (D.int k n) = (D.int k n) := rfl
@[simp] theorem keepD_int {k : IntKind} {n : Int} {own : Bool} {live : Nat → Bool} : keepD own live (D.int k n) = (D.int k n).degr := rfl
@[simp] theorem settle_int {k : IntKind} {n : Int} {live : Nat → Bool} : settle live (D.int k n) = ([(D.int k n)], live) := rfl
@[simp] theorem degr1_str {s : List UInt8} : (D.str s).degr1 = (D.str s) := rfl
@[simp] theorem degr_str {s : List UInt8} : (D.str s).degr = (D.str s) := rfl
@[simp] theorem isVal_str {s : List UInt8} : (D.str s).isVal = true := rfl
@[simp] theorem pureR_str {s : List UInt8} : (D.str s).pureR = (D.str s).pure := rfl
@[simp] theorem isAgg_str {s : List UInt8} : (D.str s).isAgg = false := rfl
@[simp] theorem flat_str {s : List UInt8} : (D.str s).flat = true := rfl
@[simp] theorem fullOr_str {s : List UInt8} : fullOr (D.str s) = (D.str s) := rfl
@[simp] theorem lend1_str {s : List UInt8} {x y z w : Nat} : lend1 x y z w (D.str s) = (D.str s) := rfl
@[simp] theorem keepD_str {s : List UInt8} {own : Bool} {live : Nat → Bool} : keepD own live (D.str s) = (D.str s).degr := rfl
@[simp] theorem settle_str {s : List UInt8} {live : Nat → Bool} : settle live (D.str s) = ([(D.str s)], live) := rfl
@[simp] theorem degr1_nilp  : (D.nilp).degr1 = (D.nilp) := rfl
@[simp] theorem degr_nilp  : (D.nilp).degr = (D.nilp) := rfl
@[simp] theorem isVal_nilp  : (D.nilp).isVal = true := rfl
@[simp] theorem pureR_nilp  : (D.nilp).pureR = (D.nilp).pure := rfl
@[simp] theorem isAgg_nilp  : (D.nilp).isAgg = false := rfl
@[simp] theorem flat_nilp  : (D.nilp).flat = true := rfl
@[simp] theorem fullOr_nilp  : fullOr (D.nilp) = (D.nilp) := rfl
@[simp] theorem lend1_nilp  {x y z w : Nat} : lend1 x y z w (D.nilp) = (D.nilp) := rfl
@[simp] theorem keepD_nilp  {own : Bool} {live : Nat → Bool} : keepD own live (D.nilp) = (D.nilp).degr := rfl
@[simp] theorem settle_nilp  {live : Nat → Bool} : settle live (D.nilp) = ([(D.nilp)], live) := rfl
@[simp] theorem degr1_ptr {d i o : Nat} : (D.ptr d i o).degr1 = (D.ptr d i o) := rfl
@[simp] theorem degr_ptr {d i o : Nat} : (D.ptr d i o).degr = (D.ptr d i o) := rfl
@[simp] theorem isVal_ptr {d i o : Nat} : (D.ptr d i o).isVal = true := rfl
@[simp] theorem pureR_ptr {d i o : Nat} : (D.ptr d i o).pureR = (D.ptr d i o).pure := rfl
@[simp] theorem isAgg_ptr {d i o : Nat} : (D.ptr d i o).isAgg = false := rfl
@[simp] theorem flat_ptr {d i o : Nat} : (D.ptr d i o).flat = true := rfl
@[simp] theorem fullOr_ptr {d i o : Nat} : fullOr (D.ptr d i o) = (D.ptr d i o) := rfl
@[simp] theorem lend1_ptr {d i o : Nat} {x y z w : Nat} : lend1 x y z w (D.ptr d i o) = (D.ptr d i o) := rfl
@[simp] theorem keepD_ptr {d i o : Nat} {own : Bool} {live : Nat → Bool} : keepD own live (D.ptr d i o) = (D.ptr d i o).degr := rfl
@[simp] theorem settle_ptr {d i o : Nat} {live : Nat → Bool} : settle live (D.ptr d i o) = ([(D.ptr d i o)], live) := rfl
@[simp] theorem degr1_cptr {cs : List D} : (D.cptr cs).degr1 = (D.cptr cs) := rfl
@[simp] theorem degr_cptr {cs : List D} : (D.cptr cs).degr = (D.cptr cs) := rfl
@[simp] theorem isVal_cptr {cs : List D} : (D.cptr cs).isVal = true := rfl
@[simp] theorem pureR_cptr {cs : List D} : (D.cptr cs).pureR = (D.cptr cs).pure := rfl
@[simp] theorem isAgg_cptr {cs : List D} : (D.cptr cs).isAgg = false := rfl
@[simp] theorem flat_cptr {cs : List D} : (D.cptr cs).flat = true := rfl
@[simp] theorem fullOr_cptr {cs : List D} : fullOr (D.cptr cs) = (D.cptr cs) := rfl
@[simp] theorem lend1_cptr {cs : List D} {x y z w : Nat} : lend1 x y z w (D.cptr cs) = (D.cptr cs) := rfl
@[simp] theorem keepD_cptr {cs : List D} {own : Bool} {live : Nat → Bool} : keepD own live (D.cptr cs) = (D.cptr cs).degr := rfl
@[simp] theorem settle_cptr {cs : List D} {live : Nat → Bool} : settle live (D.cptr cs) = ([(D.cptr cs)], live) := rfl
@[simp] theorem degr1_slice {tk : Tk} {s : Nat} {xs : List D} : (D.slice tk s xs).degr1 = D.slice .none s xs := rfl
@[simp] theorem degr_slice {tk : Tk} {s : Nat} {xs : List D} : (D.slice tk s xs).degr = D.slice .none s xs := rfl
@[simp] theorem isVal_slice {tk : Tk} {s : Nat} {xs : List D} : (D.slice tk s xs).isVal = true := rfl
@[simp] theorem pureR_slice {tk : Tk} {s : Nat} {xs : List D} : (D.slice tk s xs).pureR = (D.slice tk s xs).pure := rfl
@[simp] theorem isAgg_slice {tk : Tk} {s : Nat} {xs : List D} : (D.slice tk s xs).isAgg = false := rfl
@[simp] theorem flat_slice {tk : Tk} {s : Nat} {xs : List D} : (D.slice tk s xs).flat = true := rfl
@[simp] theorem degr1_vsl {a b c d e f : Nat} : (D.vsl a b c d e f).degr1 = (D.vsl a b c d e f) := rfl
@[simp] theorem degr_vsl {a b c d e f : Nat} : (D.vsl a b c d e f).degr = (D.vsl a b c d e f) := rfl
@[simp] theorem isVal_vsl {a b c d e f : Nat} : (D.vsl a b c d e f).isVal = true := rfl
@[simp] theorem pureR_vsl {a b c d e f : Nat} : (D.vsl a b c d e f).pureR = (D.vsl a b c d e f).pure := rfl
@[simp] theorem isAgg_vsl {a b c d e f : Nat} : (D.vsl a b c d e f).isAgg = false := rfl
@[simp] theorem flat_vsl {a b c d e f : Nat} : (D.vsl a b c d e f).flat = true := rfl
@[simp] theorem fullOr_vsl {a b c d e f : Nat} : fullOr (D.vsl a b c d e f) = (D.vsl a b c d e f) := rfl
@[simp] theorem lend1_vsl {a b c d e f : Nat} {x y z w : Nat} : lend1 x y z w (D.vsl a b c d e f) = (D.vsl a b c d e f) := rfl
@[simp] theorem keepD_vsl {a b c d e f : Nat} {own : Bool} {live : Nat → Bool} : keepD own live (D.vsl a b c d e f) = (D.vsl a b c d e f).degr := rfl
@[simp] theorem settle_vsl {a b c d e f : Nat} {live : Nat → Bool} : settle live (D.vsl a b c d e f) = ([(D.vsl a b c d e f)], live) := rfl
@[simp] theorem degr1_fn {f : FuncId} {a b : List D} : (D.fn f a b).degr1 = (D.fn f a b) := rfl
@[simp] theorem degr_fn {f : FuncId} {a b : List D} : (D.fn f a b).degr = (D.fn f a b) := rfl
@[simp] theorem isVal_fn {f : FuncId} {a b : List D} : (D.fn f a b).isVal = true := rfl
@[simp] theorem pureR_fn {f : FuncId} {a b : List D} : (D.fn f a b).pureR = (D.fn f a b).pure := rfl
@[simp] theorem isAgg_fn {f : FuncId} {a b : List D} : (D.fn f a b).isAgg = false := rfl
@[simp] theorem flat_fn {f : FuncId} {a b : List D} : (D.fn f a b).flat = true := rfl
@[simp] theorem fullOr_fn {f : FuncId} {a b : List D} : fullOr (D.fn f a b) = (D.fn f a b) := rfl
@[simp] theorem lend1_fn {f : FuncId} {a b : List D} {x y z w : Nat} : lend1 x y z w (D.fn f a b) = (D.fn f a b) := rfl
@[simp] theorem keepD_fn {f : FuncId} {a b : List D} {own : Bool} {live : Nat → Bool} : keepD own live (D.fn f a b) = (D.fn f a b).degr := rfl
@[simp] theorem settle_fn {f : FuncId} {a b : List D} {live : Nat → Bool} : settle live (D.fn f a b) = ([(D.fn f a b)], live) := rfl
@[simp] theorem degr1_yld {a b : Nat} : (D.yld a b).degr1 = (D.yld a b) := rfl
@[simp] theorem degr_yld {a b : Nat} : (D.yld a b).degr = (D.yld a b) := rfl
@[simp] theorem isVal_yld {a b : Nat} : (D.yld a b).isVal = true := rfl
@[simp] theorem pureR_yld {a b : Nat} : (D.yld a b).pureR = (D.yld a b).pure := rfl
@[simp] theorem isAgg_yld {a b : Nat} : (D.yld a b).isAgg = false := rfl
@[simp] theorem flat_yld {a b : Nat} : (D.yld a b).flat = true := rfl
@[simp] theorem fullOr_yld {a b : Nat} : fullOr (D.yld a b) = (D.yld a b) := rfl
@[simp] theorem lend1_yld {a b : Nat} {x y z w : Nat} : lend1 x y z w (D.yld a b) = (D.yld a b) := rfl
@[simp] theorem keepD_yld {a b : Nat} {own : Bool} {live : Nat → Bool} : keepD own live (D.yld a b) = (D.yld a b).degr := rfl
@[simp] theorem settle_yld {a b : Nat} {live : Nat → Bool} : settle live (D.yld a b) = ([(D.yld a b)], live) := rfl
@[simp] theorem degr1_nilf  : (D.nilf).degr1 = (D.nilf) := rfl
@[simp] theorem degr_nilf  : (D.nilf).degr = (D.nilf) := rfl
@[simp] theorem isVal_nilf  : (D.nilf).isVal = true := rfl
@[simp] theorem pureR_nilf  : (D.nilf).pureR = (D.nilf).pure := rfl
@[simp] theorem isAgg_nilf  : (D.nilf).isAgg = false := rfl
@[simp] theorem flat_nilf  : (D.nilf).flat = true := rfl
@[simp] theorem fullOr_nilf  : fullOr (D.nilf) = (D.nilf) := rfl
@[simp] theorem lend1_nilf  {x y z w : Nat} : lend1 x y z w (D.nilf) = (D.nilf) := rfl
@[simp] theorem keepD_nilf  {own : Bool} {live : Nat → Bool} : keepD own live (D.nilf) = (D.nilf).degr := rfl
@[simp] theorem settle_nilf  {live : Nat → Bool} : settle live (D.nilf) = ([(D.nilf)], live) := rfl
@[simp] theorem degr1_iface {t : TypeId} {v : D} : (D.iface t v).degr1 = (D.iface t v) := rfl
@[simp] theorem degr_iface {t : TypeId} {v : D} : (D.iface t v).degr = (D.iface t v) := rfl
@[simp] theorem isVal_iface {t : TypeId} {v : D} : (D.iface t v).isVal = true := rfl
@[simp] theorem pureR_iface {t : TypeId} {v : D} : (D.iface t v).pureR = (D.iface t v).pure := rfl
@[simp] theorem isAgg_iface {t : TypeId} {v : D} : (D.iface t v).isAgg = false := rfl
@[simp] theorem flat_iface {t : TypeId} {v : D} : (D.iface t v).flat = true := rfl
@[simp] theorem fullOr_iface {t : TypeId} {v : D} : fullOr (D.iface t v) = (D.iface t v) := rfl
@[simp] theorem lend1_iface {t : TypeId} {v : D} {x y z w : Nat} : lend1 x y z w (D.iface t v) = (D.iface t v) := rfl
@[simp] theorem keepD_iface {t : TypeId} {v : D} {own : Bool} {live : Nat → Bool} : keepD own live (D.iface t v) = (D.iface t v).degr := rfl
@[simp] theorem settle_iface {t : TypeId} {v : D} {live : Nat → Bool} : settle live (D.iface t v) = ([(D.iface t v)], live) := rfl
@[simp] theorem degr1_nili  : (D.nili).degr1 = (D.nili) := rfl
@[simp] theorem degr_nili  : (D.nili).degr = (D.nili) := rfl
@[simp] theorem isVal_nili  : (D.nili).isVal = true := rfl
@[simp] theorem pureR_nili  : (D.nili).pureR = (D.nili).pure := rfl
@[simp] theorem isAgg_nili  : (D.nili).isAgg = false := rfl
@[simp] theorem flat_nili  : (D.nili).flat = true := rfl
@[simp] theorem fullOr_nili  : fullOr (D.nili) = (D.nili) := rfl
@[simp] theorem lend1_nili  {x y z w : Nat} : lend1 x y z w (D.nili) = (D.nili) := rfl
@[simp] theorem keepD_nili  {own : Bool} {live : Nat → Bool} : keepD own live (D.nili) = (D.nili).degr := rfl
@[simp] theorem settle_nili  {live : Nat → Bool} : settle live (D.nili) = ([(D.nili)], live) := rfl
@[simp] theorem degr1_agg {cs : List D} : (D.agg cs).degr1 = (D.agg cs) := rfl
@[simp] theorem degr_agg {cs : List D} : (D.agg cs).degr = D.agg (cs.map D.degr1) := rfl
@[simp] theorem isVal_agg {cs : List D} : (D.agg cs).isVal = true := rfl
@[simp] theorem pureR_agg {cs : List D} : (D.agg cs).pureR = (D.agg cs).pure := rfl
@[simp] theorem isAgg_agg {cs : List D} : (D.agg cs).isAgg = true := rfl
@[simp] theorem flat_agg {cs : List D} : (D.agg cs).flat = cs.all fun c => !c.isAgg := rfl
@[simp] theorem fullOr_agg {cs : List D} : fullOr (D.agg cs) = (D.agg cs) := rfl
@[simp] theorem lend1_agg {cs : List D} {x y z w : Nat} : lend1 x y z w (D.agg cs) = (D.agg cs) := rfl
@[simp] theorem keepD_agg {cs : List D} {own : Bool} {live : Nat → Bool} : keepD own live (D.agg cs) = (D.agg cs).degr := rfl
@[simp] theorem degr1_tup {ds : List D} : (D.tup ds).degr1 = (D.tup ds) := rfl
@[simp] theorem degr_tup {ds : List D} : (D.tup ds).degr = (D.tup ds) := rfl
@[simp] theorem isVal_tup {ds : List D} : (D.tup ds).isVal = false := rfl
@[simp] theorem pureR_tup {ds : List D} : (D.tup ds).pureR = D.pures ds := rfl
@[simp] theorem isAgg_tup {ds : List D} : (D.tup ds).isAgg = false := rfl
@[simp] theorem flat_tup {ds : List D} : (D.tup ds).flat = true := rfl
@[simp] theorem fullOr_tup {ds : List D} : fullOr (D.tup ds) = (D.tup ds) := rfl
@[simp] theorem lend1_tup {ds : List D} {x y z w : Nat} : lend1 x y z w (D.tup ds) = (D.tup ds) := rfl
@[simp] theorem keepD_tup {ds : List D} {own : Bool} {live : Nat → Bool} : keepD own live (D.tup ds) = (D.tup ds).degr := rfl
@[simp] theorem settle_tup {ds : List D} {live : Nat → Bool} : settle live (D.tup ds) = ([(D.tup ds)], live) := rfl
@[simp] theorem fullOr_full {s : Nat} {xs : List D} : fullOr (.slice .full s xs) = .slice .full s xs := rfl
@[simp] theorem fullOr_none  {s : Nat} {xs : List D} : fullOr (.slice (.none) s xs) = .slice .none s xs := rfl
@[simp] theorem fullOr_own  {s : Nat} {xs : List D} : fullOr (.slice (.own) s xs) = .slice .none s xs := rfl
@[simp] theorem fullOr_tok {t : Nat} {s : Nat} {xs : List D} : fullOr (.slice (.tok t) s xs) = .slice .none s xs := rfl
@[simp] theorem fullOr_lent {a b c e : Nat} {s : Nat} {xs : List D} : fullOr (.slice (.lent a b c e) s xs) = .slice .none s xs := rfl
@[simp] theorem lend1_none  {s : Nat} {xs : List D} {x y z w : Nat} : lend1 x y z w (.slice (.none) s xs) = .slice (.none) s xs := rfl
@[simp] theorem lend1_full  {s : Nat} {xs : List D} {x y z w : Nat} : lend1 x y z w (.slice (.full) s xs) = .slice (.full) s xs := rfl
@[simp] theorem lend1_tok {t : Nat} {s : Nat} {xs : List D} {x y z w : Nat} : lend1 x y z w (.slice (.tok t) s xs) = .slice (.tok t) s xs := rfl
@[simp] theorem lend1_lent {a b c e : Nat} {s : Nat} {xs : List D} {x y z w : Nat} : lend1 x y z w (.slice (.lent a b c e) s xs) = .slice (.lent a b c e) s xs := rfl
@[simp] theorem lend1_own {s : Nat} {xs : List D} {x y z w : Nat} : lend1 x y z w (.slice .own s xs) = .slice (.lent x y w z) s xs := rfl
@[simp] theorem settle_agg {cs : List D} {live : Nat → Bool} : settle live (.agg cs) = (cs.map fullOr, live) := rfl
@[simp] theorem settle_none  {s : Nat} {xs : List D} {live : Nat → Bool} : settle live (.slice (.none) s xs) = ([fullOr (.slice (.none) s xs)], live) := rfl
@[simp] theorem keepD_none  {s : Nat} {xs : List D} {own : Bool} {live : Nat → Bool} : keepD own live (.slice (.none) s xs) = .slice .none s xs := rfl
@[simp] theorem settle_full  {s : Nat} {xs : List D} {live : Nat → Bool} : settle live (.slice (.full) s xs) = ([fullOr (.slice (.full) s xs)], live) := rfl
@[simp] theorem keepD_full  {s : Nat} {xs : List D} {own : Bool} {live : Nat → Bool} : keepD own live (.slice (.full) s xs) = .slice .none s xs := rfl
@[simp] theorem settle_own  {s : Nat} {xs : List D} {live : Nat → Bool} : settle live (.slice (.own) s xs) = ([fullOr (.slice (.own) s xs)], live) := rfl
@[simp] theorem keepD_own  {s : Nat} {xs : List D} {own : Bool} {live : Nat → Bool} : keepD own live (.slice (.own) s xs) = .slice .none s xs := rfl
@[simp] theorem settle_lent {a b c e : Nat} {s : Nat} {xs : List D} {live : Nat → Bool} : settle live (.slice (.lent a b c e) s xs) = ([fullOr (.slice (.lent a b c e) s xs)], live) := rfl
@[simp] theorem keepD_lent {a b c e : Nat} {s : Nat} {xs : List D} {own : Bool} {live : Nat → Bool} : keepD own live (.slice (.lent a b c e) s xs) = .slice .none s xs := rfl
@[simp] theorem settle_tok {t s : Nat} {xs : List D} {live : Nat → Bool} : settle live (.slice (.tok t) s xs) = if live t = true then ([.slice .own s xs], upd live t false) else ([.slice .none s xs], live) := by simp only [settle]
@[simp] theorem keepD_tok {t s : Nat} {xs : List D} {own : Bool} {live : Nat → Bool} : keepD own live (.slice (.tok t) s xs) = if (own && live t) = true then .slice .own s xs else .slice .none s xs := by simp only [keepD]
def loadC (agg : Bool) (s d i off now : Nat) : Obj → Option D
  | .cells cs => (ofCells agg s ((cs.drop off).take s)).map (lend1 d i now off)
  | _ => none
@[simp] theorem loadC_cells {agg : Bool} {s d i off now : Nat} {cs : List D} : loadC agg s d i off now (.cells cs) = (ofCells agg s ((cs.drop off).take s)).map (lend1 d i now off) := rfl
@[simp] theorem loadOp_ptr {agg : Bool} {s d i off : Nat} {st : St} : loadOp agg s (.ptr d i off) st = loadC agg s d i off st.now (st.S d i) := by
  simp only [loadOp, loadC]
  cases st.S d i <;> rfl
@[simp] theorem loadOp_cons {agg : Bool} {s : Nat} {c : D} {cs : List D} {st : St} : loadOp agg s (.cptr (c :: cs)) st = (ofCells agg s ((c :: cs).take s)).map D.degr := rfl
@[simp] theorem cells_bool {b : Bool} : (D.bool b).cells = [.bool b] := rfl
@[simp] theorem cells_int {k : IntKind} {n : Int} : (D.int k n).cells = [.int k n] := rfl
@[simp] theorem cells_str {s : List UInt8} : (D.str s).cells = [.str s] := rfl
@[simp] theorem cells_nilp : D.nilp.cells = [.nilp] := rfl
@[simp] theorem cells_ptr {d i o : Nat} : (D.ptr d i o).cells = [.ptr d i o] := rfl
@[simp] theorem cells_cptr {cs : List D} : (D.cptr cs).cells = [.cptr cs] := rfl
@[simp] theorem cells_slice {tk : Tk} {s : Nat} {xs : List D} : (D.slice tk s xs).cells = [.slice tk s xs] := rfl
@[simp] theorem cells_vsl {a b c d e f : Nat} : (D.vsl a b c d e f).cells = [.vsl a b c d e f] := rfl
@[simp] theorem cells_fn {f : FuncId} {a b : List D} : (D.fn f a b).cells = [.fn f a b] := rfl
@[simp] theorem cells_yld {a b : Nat} : (D.yld a b).cells = [.yld a b] := rfl
@[simp] theorem cells_nilf : D.nilf.cells = [.nilf] := rfl
@[simp] theorem cells_iface {t : TypeId} {v : D} : (D.iface t v).cells = [.iface t v] := rfl
@[simp] theorem cells_nili : D.nili.cells = [.nili] := rfl
@[simp] theorem cells_agg {cs : List D} : (D.agg cs).cells = cs := rfl
@[simp] theorem simple_bool {b : Bool} : (D.bool b).simple = true := rfl
@[simp] theorem simple_int {k : IntKind} {n : Int} : (D.int k n).simple = true := rfl
@[simp] theorem simple_str {s : List UInt8} : (D.str s).simple = true := rfl
@[simp] theorem simple_nilp : D.nilp.simple = true := rfl
@[simp] theorem simple_cptr {cs : List D} : (D.cptr cs).simple = true := rfl
@[simp] theorem simple_slice {tk : Tk} {s : Nat} {xs : List D} : (D.slice tk s xs).simple = true := rfl
@[simp] theorem simple_nilf : D.nilf.simple = true := rfl
@[simp] theorem simple_nili : D.nili.simple = true := rfl
@[simp] theorem expD_bool {S : Store} {δ : Nat} {b : Bool} : expD S δ FUEL (.bool b) = some (.bool b) := rfl
@[simp] theorem expD_int {S : Store} {δ : Nat} {k : IntKind} {n : Int} : expD S δ FUEL (.int k n) = some (.int k n) := rfl
@[simp] theorem expD_str {S : Store} {δ : Nat} {s : List UInt8} : expD S δ FUEL (.str s) = some (.str s) := rfl
@[simp] theorem expD_nilp {S : Store} {δ : Nat} : expD S δ FUEL .nilp = some .nilp := rfl
@[simp] theorem expD_cptr {S : Store} {δ : Nat} {cs : List D} : expD S δ FUEL (.cptr cs) = some (.cptr cs) := rfl
@[simp] theorem expD_sliceF {S : Store} {δ : Nat} {tk : Tk} {s : Nat} {xs : List D} : expD S δ FUEL (.slice tk s xs) = some (.slice tk s xs) := rfl
@[simp] theorem expD_nilf {S : Store} {δ : Nat} : expD S δ FUEL .nilf = some .nilf := rfl
@[simp] theorem expD_nili {S : Store} {δ : Nat} : expD S δ FUEL .nili = some .nili := rfl
theorem expD_simpleF {S : Store} {δ : Nat} {d : D} (h : d.simple = true) : expD S δ FUEL d = some d := expD_simple (n := 399) h
@[simp] theorem expD_aggF {S : Store} {δ : Nat} {cs : List D} (h : cs.all D.simple = true) (hn : cs.length ≤ 397) : expD S δ FUEL (.agg cs) = some (.agg cs) := expD_agg h (by unfold FUEL; omega)
@[simp] theorem bin_add {k : IntKind} {a b : Int} : binD .add (.int k a) (.int k b) = some (.int k (k.wrap (a + b))) := by simp [binD, binInt]
@[simp] theorem bin_sub {k : IntKind} {a b : Int} : binD .sub (.int k a) (.int k b) = some (.int k (k.wrap (a - b))) := by simp [binD, binInt]
@[simp] theorem bin_mul {k : IntKind} {a b : Int} : binD .mul (.int k a) (.int k b) = some (.int k (k.wrap (a * b))) := by simp [binD, binInt]
@[simp] theorem bin_quo {k : IntKind} {a b : Int} : binD .quo (.int k a) (.int k b) = if b = 0 then none else some (.int k (k.wrap (a.tdiv b))) := by simp [binD, binInt]
@[simp] theorem bin_rem {k : IntKind} {a b : Int} : binD .rem (.int k a) (.int k b) = if b = 0 then none else some (.int k (a.tmod b)) := by simp [binD, binInt]
@[simp] theorem bin_lss {k : IntKind} {a b : Int} : binD .lss (.int k a) (.int k b) = some (.bool (decide (a < b))) := by simp [binD, binInt]
@[simp] theorem bin_leq {k : IntKind} {a b : Int} : binD .leq (.int k a) (.int k b) = some (.bool (decide (a ≤ b))) := by simp [binD, binInt]
@[simp] theorem bin_gtr {k : IntKind} {a b : Int} : binD .gtr (.int k a) (.int k b) = some (.bool (decide (b < a))) := by simp [binD, binInt]
@[simp] theorem bin_geq {k : IntKind} {a b : Int} : binD .geq (.int k a) (.int k b) = some (.bool (decide (b ≤ a))) := by simp [binD, binInt]
theorem wrap64 {n : Int} (h1 : -9223372036854775808 ≤ n) (h2 : n ≤ 9223372036854775807) : IntKind.i64.wrap n = n := by
  unfold IntKind.wrap
  simp only [IntKind.bits, IntKind.signed, Bool.true_and, decide_eq_true_eq, Nat.reduceSub, Int.reducePow, ge_iff_le]
  split <;> omega
end Go.Mia
/- More of the simp set: panics, operations of a drawn region, calls that see the caller's boxes. -/
namespace Go.Mia
open Go

section
variable {ft : FT} {cx : Cx} {k : List Item} {df : List IDefer} {st : St} {call : CallF} {j : Nat} {lg : Nat → Option (Nat × Nat)} {dst : Option Nat} {g : Option (Nat × Bool)} {δ : Nat} {own : Bool} {res : List IRes}

@[simp] theorem W_done : W ft cx [] df st = outOf (C ft) cx df st none := W_nil

/-- a panic's value -/
def panG (st : St) (df : List IDefer) (lg : Nat → Option (Nat × Nat)) : D → Option (RSt ⊕ (D × RSt))
  | .iface t v => some (.inr (.iface t v, ⟨st, df, lg⟩))
  | _ => none
@[simp] theorem panG_iface {t : TypeId} {v : D} : panG st df lg (.iface t v) = some (.inr (.iface t v, ⟨st, df, lg⟩)) := rfl
@[simp] theorem w_panics {x : Opnd} : stepW call cx j (op dst (.panic x) g) ⟨st, df, lg⟩ = panG st df lg (ev st.σ x) := by
  unfold stepW panG
  simp only [op, if_true]
  cases ev st.σ x <;> rfl
attribute [simp] regW_pan

@[simp] theorem isoB_pan {v : D} (h1 : st.low = 1) (h2 : st.recd = false) : isoB δ (leave (C ft) ⟨1, own, res, none⟩ [] (.pan v) st) = if v.pure = true then some ⟨.pan v, false, δ, none⟩ else none := by
  simp only [leave]
  split
  · simp only [isoB, isoRet, retOf, h1, h2]
    rename_i h
    simp [h]
  · rfl

/-! ### Operations of a region that draws -/
theorem stepO_whenG (o : IOper) : stepO call cx j o ⟨st, df, lg⟩ = whenG st df lg o.dst (stepW call cx j o ⟨st, df, lg⟩) (guardG st.σ o.guard) := by
  unfold stepO
  have : wanted st o = guardG st.σ o.guard := by
    unfold wanted guardG
    cases o.guard with
    | none => rfl
    | some p => obtain ⟨t, b⟩ := p; rfl
  simp only [this]
  unfold whenG
  split <;> rename_i h <;> simp only [h] <;> rfl

def plainOp : IOp → Bool
  | .call .. | .panic _ | .recov | .defer .. => false
  | _ => true
@[simp] theorem stepO_opx_iso {o : IOp} {tiso un : Bool} {past : Nat} {near : List Nat} : stepO call cx j (opx dst o g true true tiso un past near) ⟨st, df, lg⟩ = stepO call cx j (op dst o g) ⟨st, df, lg⟩ := by
  rw [stepO_whenG, stepO_op]
  rfl
theorem stepO_opx_plain {o : IOp} {tiso un : Bool} {past : Nat} {near : List Nat} (h : plainOp o = true) : stepO call cx j (opx dst o g true false tiso un past near) ⟨st, df, lg⟩ = stepO call cx j (op dst o g) ⟨st, df, lg⟩ := by
  rw [stepO_whenG, stepO_op]
  congr 1
  unfold stepW
  cases o <;> first | rfl | cases h

def loadG (st : St) (df : List IDefer) (lg : Nat → Option (Nat × Nat)) (dst : Option Nat) : Option D → Option (RSt ⊕ (D × RSt))
  | none => none
  | some d => some (.inl ⟨putD st dst d, df, lg⟩)
@[simp] theorem loadG_some {d : D} : loadG st df lg dst (some d) = some (.inl ⟨putD st dst d, df, lg⟩) := rfl
@[simp] theorem stepO_opx_load {a : Bool} {s : Nat} {x : Opnd} {pok tiso un : Bool} {past : Nat} : stepO call cx j (opx dst (.load a s x) g false pok tiso un past []) ⟨st, df, lg⟩ = whenG st df lg dst (loadG st df (upd lg j (boxOf (ev st.σ x))) dst (loadOp a s (ev st.σ x) (view cx.δ past st))) (guardG st.σ g) := by
  rw [stepO_whenG]
  show whenG st df lg dst _ (guardG st.σ g) = _
  congr 1
  unfold stepW stepPlain loadG
  simp only [opx, nearOk, List.all_nil, if_true]
  cases loadOp a s (ev st.σ x) (view cx.δ past st) <;> rfl
theorem stepO_opx_call_ret {w : Bool} {f : Opnd} {args : List Opnd} {tiso un : Bool} {past : Nat} {near : List Nat} {d : D} {δ' : Nat} (h : call none (ev st.σ f) ((evs st.σ args).map D.degr) (view cx.δ past st).S (cx.δ + 1) = some ⟨.ret d, false, δ', none⟩) :
    stepO call cx j (opx dst (.call false f args) g false w tiso un past near) ⟨st, df, lg⟩ = whenG st df lg dst (some (.inl ⟨putD st dst d.degr, df, lg⟩)) (guardG st.σ g) := by
  rw [stepO_whenG]
  show whenG st df lg dst _ (guardG st.σ g) = _
  congr 1
  unfold stepW
  simp only [opx, h, Bool.false_eq_true, if_false, stepCall, afterCall]
@[simp] theorem view_now {past : Nat} : (view δ past st).now = st.now := rfl
@[simp] theorem view_old {past d i : Nat} (h : ¬ (d = δ ∧ st.m ≤ i)) : (view δ past st).S d i = st.S d i := by
  simp only [view]
  have : (decide (d = δ) && decide (st.m ≤ i)) = false := by simpa using h
  rw [this]; rfl

/-! ### Calls that see the caller's boxes -/
def deepB (x : Option Ret) : Option Ret := x
theorem C_deep {f : FuncId} {fn : IFunc} {first cap args : List D} {S : Store} (hf : ft f = some (.ir fn)) (hl : (first ++ args ++ cap).length ≤ fn.nt) (hp : D.pures (first ++ args ++ cap) = false) :
    C ft none (.fn f first cap) args S δ = deepB (W ft ⟨δ, fn.own, fn.results, none⟩ [.code fn.body] [] (initSt ((first ++ args ++ cap).map D.degr) S δ none)) := by
  unfold C mkCall deepB
  simp only [hf, if_pos hl, Option.isNone_none, Bool.true_and, hp]
  rfl
theorem C_defer {f : FuncId} {fn : IFunc} {first cap args : List D} {S : Store} {v : Option D} (hf : ft f = some (.ir fn)) (hl : (first ++ args ++ cap).length ≤ fn.nt) :
    C ft (some v) (.fn f first cap) args S δ = deepB (W ft ⟨δ, fn.own, fn.results, none⟩ [.code fn.body] [] (initSt ((first ++ args ++ cap).map D.degr) S δ v)) := by
  unfold C mkCall deepB
  simp only [hf, if_pos hl, Option.isNone_some, Bool.false_and]
  rfl
/-- the answer of such a call -/
def deepG (cx : Cx) (st : St) : Option D → Option Ret
  | some d => some (retOf cx st (.ret d))
  | none => none
@[simp] theorem deep_ret : deepB (outOf (C ft) ⟨δ, own, res, none⟩ [] st (some .ret)) = deepG ⟨δ, own, res, none⟩ st (resultD ⟨δ, own, res, none⟩ st) := by
  simp only [outOf, leave, deepB]
  cases resultD ⟨δ, own, res, none⟩ st <;> rfl
@[simp] theorem deep_nil : deepB (outOf (C ft) ⟨δ, own, res, none⟩ [] st none) = deepG ⟨δ, own, res, none⟩ st (resultD ⟨δ, own, res, none⟩ st) := by
  simp only [outOf, leave, deepB]
  cases resultD ⟨δ, own, res, none⟩ st <;> rfl
@[simp] theorem deepG_some {d : D} : deepG cx st (some d) = some ⟨.ret d, st.recd, st.low, if st.low < cx.δ then some (trim cx.δ st.S) else none⟩ := rfl
@[simp] theorem deep_pan {v : D} : deepB (leave (C ft) ⟨δ, own, res, none⟩ [] (.pan v) st) = if v.pure = true then some ⟨.pan v, st.recd, st.low, if st.low < δ then some (trim δ st.S) else none⟩ else none := rfl
@[simp] theorem callG_deep {d : D} {low : Nat} {S' : Store} : callG st df lg dst j false (some ⟨.ret d, false, low, some S'⟩) = some (.inl ⟨putD { st with S := S', now := st.now + 1, low := min st.low low } dst d.degr, df, lg⟩) := rfl
@[simp] theorem callG_deep_own {d : D} {low : Nat} {S' : Store} : callG st df lg dst j true (some ⟨.ret d, false, low, some S'⟩) = some (.inl ⟨putD (adopt j { st with S := S', now := st.now + 1, low := min st.low low } d).2 dst (adopt j { st with S := S', now := st.now + 1, low := min st.low low } d).1, df, lg⟩) := rfl
@[simp] theorem callG_deep_pan {w : Bool} {v : D} {low : Nat} {S' : Store} : callG st df lg dst j w (some ⟨.pan v, false, low, some S'⟩) = some (.inr (v, ⟨{ st with S := S', now := st.now + 1, low := min st.low low }, df, lg⟩)) := rfl
theorem upd2_ne_d {S : Store} {d i d' i' : Nat} {o : Obj} (h : (d' = d) = False) : upd2 S d i o d' i' = S d' i' := upd2_ne (by rw [h]; exact fun x => x.1)
end
end Go.Mia
/- More of the simp set: operations of a drawn region, recover, deferred calls. -/
namespace Go.Mia
open Go

section
variable {ft : FT} {cx : Cx} {k : List Item} {df : List IDefer} {st : St} {call : CallF} {j : Nat} {lg : Nat → Option (Nat × Nat)} {dst : Option Nat} {gg : Option (Nat × Bool)} {δ : Nat} {own : Bool} {res : List IRes}

@[simp] theorem stepO_opx_mv {x : Opnd} {tiso un : Bool} {past : Nat} {near : List Nat} : stepO call cx j (opx dst (.mv x) gg true false tiso un past near) ⟨st, df, lg⟩ = stepO call cx j (op dst (.mv x) gg) ⟨st, df, lg⟩ := stepO_opx_plain rfl
@[simp] theorem stepO_opx_pick {c : Opnd} {a : Opnd} {b : Opnd} {tiso un : Bool} {past : Nat} {near : List Nat} : stepO call cx j (opx dst (.pick c a b) gg true false tiso un past near) ⟨st, df, lg⟩ = stepO call cx j (op dst (.pick c a b) gg) ⟨st, df, lg⟩ := stepO_opx_plain rfl
@[simp] theorem stepO_opx_fld {o : Nat} {x : Opnd} {tiso un : Bool} {past : Nat} {near : List Nat} : stepO call cx j (opx dst (.fld o x) gg true false tiso un past near) ⟨st, df, lg⟩ = stepO call cx j (op dst (.fld o x) gg) ⟨st, df, lg⟩ := stepO_opx_plain rfl
@[simp] theorem stepO_opx_bin {o : BinOp} {x : Opnd} {y : Opnd} {tiso un : Bool} {past : Nat} {near : List Nat} : stepO call cx j (opx dst (.bin o x y) gg true false tiso un past near) ⟨st, df, lg⟩ = stepO call cx j (op dst (.bin o x y) gg) ⟨st, df, lg⟩ := stepO_opx_plain rfl
@[simp] theorem stepO_opx_eq {n : Bool} {k : EqK} {x : Opnd} {y : Opnd} {tiso un : Bool} {past : Nat} {near : List Nat} : stepO call cx j (opx dst (.eq n k x y) gg true false tiso un past near) ⟨st, df, lg⟩ = stepO call cx j (op dst (.eq n k x y) gg) ⟨st, df, lg⟩ := stepO_opx_plain rfl
@[simp] theorem stepO_opx_un {o : UnOp} {x : Opnd} {tiso un : Bool} {past : Nat} {near : List Nat} : stepO call cx j (opx dst (.un o x) gg true false tiso un past near) ⟨st, df, lg⟩ = stepO call cx j (op dst (.un o x) gg) ⟨st, df, lg⟩ := stepO_opx_plain rfl
@[simp] theorem stepO_opx_toInt {k : IntKind} {x : Opnd} {tiso un : Bool} {past : Nat} {near : List Nat} : stepO call cx j (opx dst (.toInt k x) gg true false tiso un past near) ⟨st, df, lg⟩ = stepO call cx j (op dst (.toInt k x) gg) ⟨st, df, lg⟩ := stepO_opx_plain rfl
@[simp] theorem stepO_opx_len {k : LenK} {x : Opnd} {tiso un : Bool} {past : Nat} {near : List Nat} : stepO call cx j (opx dst (.len k x) gg true false tiso un past near) ⟨st, df, lg⟩ = stepO call cx j (op dst (.len k x) gg) ⟨st, df, lg⟩ := stepO_opx_plain rfl
@[simp] theorem stepO_opx_nilck {x : Opnd} {tiso un : Bool} {past : Nat} {near : List Nat} : stepO call cx j (opx dst (.nilck x) gg true false tiso un past near) ⟨st, df, lg⟩ = stepO call cx j (op dst (.nilck x) gg) ⟨st, df, lg⟩ := stepO_opx_plain rfl
@[simp] theorem stepO_opx_same {x : Opnd} {tiso un : Bool} {past : Nat} {near : List Nat} : stepO call cx j (opx dst (.same x) gg true false tiso un past near) ⟨st, df, lg⟩ = stepO call cx j (op dst (.same x) gg) ⟨st, df, lg⟩ := stepO_opx_plain rfl
@[simp] theorem stepO_opx_mkI {t : TypeId} {x : Opnd} {tiso un : Bool} {past : Nat} {near : List Nat} : stepO call cx j (opx dst (.mkI t x) gg true false tiso un past near) ⟨st, df, lg⟩ = stepO call cx j (op dst (.mkI t x) gg) ⟨st, df, lg⟩ := stepO_opx_plain rfl
@[simp] theorem stepO_opx_mkF {f : FuncId} {a : List Opnd} {b : List Opnd} {tiso un : Bool} {past : Nat} {near : List Nat} : stepO call cx j (opx dst (.mkF f a b) gg true false tiso un past near) ⟨st, df, lg⟩ = stepO call cx j (op dst (.mkF f a b) gg) ⟨st, df, lg⟩ := stepO_opx_plain rfl
@[simp] theorem stepO_opx_slice {s : Nat} {x : Opnd} {a : Option Opnd} {b : Option Opnd} {c : Option Opnd} {tiso un : Bool} {past : Nat} {near : List Nat} : stepO call cx j (opx dst (.slice s x a b c) gg true false tiso un past near) ⟨st, df, lg⟩ = stepO call cx j (op dst (.slice s x a b c) gg) ⟨st, df, lg⟩ := stepO_opx_plain rfl
@[simp] theorem stepO_opx_fldv {a : Bool} {o : Nat} {s : Nat} {x : Opnd} {tiso un : Bool} {past : Nat} {near : List Nat} : stepO call cx j (opx dst (.fldv a o s x) gg true false tiso un past near) ⟨st, df, lg⟩ = stepO call cx j (op dst (.fldv a o s x) gg) ⟨st, df, lg⟩ := stepO_opx_plain rfl
@[simp] theorem stepO_opx_idx {a : Option Nat} {s : Nat} {x : Opnd} {i : Opnd} {tiso un : Bool} {past : Nat} {near : List Nat} : stepO call cx j (opx dst (.idx a s x i) gg true false tiso un past near) ⟨st, df, lg⟩ = stepO call cx j (op dst (.idx a s x i) gg) ⟨st, df, lg⟩ := stepO_opx_plain rfl
@[simp] theorem stepO_opx_idxs {x : Opnd} {i : Opnd} {tiso un : Bool} {past : Nat} {near : List Nat} : stepO call cx j (opx dst (.idxs x i) gg true false tiso un past near) ⟨st, df, lg⟩ = stepO call cx j (op dst (.idxs x i) gg) ⟨st, df, lg⟩ := stepO_opx_plain rfl
@[simp] theorem stepO_opx_idxa {a : Bool} {n : Nat} {s : Nat} {x : Opnd} {i : Opnd} {tiso un : Bool} {past : Nat} {near : List Nat} : stepO call cx j (opx dst (.idxa a n s x i) gg true false tiso un past near) ⟨st, df, lg⟩ = stepO call cx j (op dst (.idxa a n s x i) gg) ⟨st, df, lg⟩ := stepO_opx_plain rfl
@[simp] theorem stepO_opx_ext {x : Opnd} {i : Nat} {tiso un : Bool} {past : Nat} {near : List Nat} : stepO call cx j (opx dst (.ext x i) gg true false tiso un past near) ⟨st, df, lg⟩ = stepO call cx j (op dst (.ext x i) gg) ⟨st, df, lg⟩ := stepO_opx_plain rfl
@[simp] theorem stepO_opx_tas {t : TypeId} {z : D} {ok : Bool} {x : Opnd} {tiso un : Bool} {past : Nat} {near : List Nat} : stepO call cx j (opx dst (.tas t z ok x) gg true false tiso un past near) ⟨st, df, lg⟩ = stepO call cx j (op dst (.tas t z ok x) gg) ⟨st, df, lg⟩ := stepO_opx_plain rfl
@[simp] theorem stepO_opx_minmax {m : Bool} {xs : List Opnd} {tiso un : Bool} {past : Nat} {near : List Nat} : stepO call cx j (opx dst (.minmax m xs) gg true false tiso un past near) ⟨st, df, lg⟩ = stepO call cx j (op dst (.minmax m xs) gg) ⟨st, df, lg⟩ := stepO_opx_plain rfl
@[simp] theorem stepO_opx_load1 {a : Bool} {s : Nat} {x : Opnd} {tiso un : Bool} {past : Nat} {near : List Nat} : stepO call cx j (opx dst (.load a s x) gg true false tiso un past near) ⟨st, df, lg⟩ = stepO call cx j (op dst (.load a s x) gg) ⟨st, df, lg⟩ := stepO_opx_plain rfl
@[simp] theorem stepO_opx_store {s : Nat} {a : Opnd} {x : Opnd} {tiso un : Bool} {past : Nat} {near : List Nat} : stepO call cx j (opx dst (.store s a x) gg true false tiso un past near) ⟨st, df, lg⟩ = stepO call cx j (op dst (.store s a x) gg) ⟨st, df, lg⟩ := stepO_opx_plain rfl
@[simp] theorem stepO_opx_box {x : Opnd} {tiso un : Bool} {past : Nat} {near : List Nat} : stepO call cx j (opx dst (.box x) gg true false tiso un past near) ⟨st, df, lg⟩ = stepO call cx j (op dst (.box x) gg) ⟨st, df, lg⟩ := stepO_opx_plain rfl
@[simp] theorem stepO_opx_alloc {zs : List D} {tiso un : Bool} {past : Nat} {near : List Nat} : stepO call cx j (opx dst (.alloc zs) gg true false tiso un past near) ⟨st, df, lg⟩ = stepO call cx j (op dst (.alloc zs) gg) ⟨st, df, lg⟩ := stepO_opx_plain rfl
@[simp] theorem stepO_opx_build {zs : List D} {ps : List (Nat × Nat × Opnd)} {tiso un : Bool} {past : Nat} {near : List Nat} : stepO call cx j (opx dst (.build zs ps) gg true false tiso un past near) ⟨st, df, lg⟩ = stepO call cx j (op dst (.build zs ps) gg) ⟨st, df, lg⟩ := stepO_opx_plain rfl
@[simp] theorem stepO_opx_buildSl {s : Nat} {es : List Opnd} {tiso un : Bool} {past : Nat} {near : List Nat} : stepO call cx j (opx dst (.buildSl s es) gg true false tiso un past near) ⟨st, df, lg⟩ = stepO call cx j (op dst (.buildSl s es) gg) ⟨st, df, lg⟩ := stepO_opx_plain rfl

/-- a call in a drawn region -/
def callQ (st : St) (df : List IDefer) (lg : Nat → Option (Nat × Nat)) (dst : Option Nat) (w : Bool) : Option Ret → Option (RSt ⊕ (D × RSt))
  | some ⟨.ret d, _, _, none⟩ => some (.inl ⟨putD st dst d.degr, df, lg⟩)
  | some ⟨.pan v, _, _, none⟩ => if w then some (.inr (v, ⟨st, df, lg⟩)) else none
  | _ => none
@[simp] theorem callQ_ret {d : D} {r w : Bool} {l : Nat} : callQ st df lg dst w (some ⟨.ret d, r, l, none⟩) = some (.inl ⟨putD st dst d.degr, df, lg⟩) := rfl
@[simp] theorem callQ_pan {d : D} {r : Bool} {l : Nat} : callQ st df lg dst true (some ⟨.pan d, r, l, none⟩) = some (.inr (d, ⟨st, df, lg⟩)) := rfl
@[simp] theorem stepO_opx_call {w : Bool} {f : Opnd} {args : List Opnd} {tiso un : Bool} {past : Nat} {near : List Nat} :
    stepO call cx j (opx dst (.call false f args) gg false w tiso un past near) ⟨st, df, lg⟩ = whenG st df lg dst (callQ st df lg dst w (call none (ev st.σ f) ((evs st.σ args).map D.degr) (view cx.δ past st).S (cx.δ + 1))) (guardG st.σ gg) := by
  rw [stepO_whenG]
  show whenG st df lg dst _ (guardG st.σ gg) = _
  congr 1
  unfold stepW
  simp only [opx, Bool.false_eq_true, if_false]
  cases call none (ev st.σ f) ((evs st.σ args).map D.degr) (view cx.δ past st).S (cx.δ + 1) with
  | none => rfl
  | some rt =>
    obtain ⟨o, r, l, S'⟩ := rt
    cases S' <;> cases o <;> rfl

/-- what recover gives -/
def recG (st : St) (df : List IDefer) (lg : Nat → Option (Nat × Nat)) (dst : Option Nat) : Option D → Option (RSt ⊕ (D × RSt))
  | some v => some (.inl ⟨putD { st with pend := none, recd := true } dst v, df, lg⟩)
  | none => some (.inl ⟨putD st dst .nili, df, lg⟩)
@[simp] theorem recG_some {v : D} : recG st df lg dst (some v) = some (.inl ⟨putD { st with pend := none, recd := true } dst v, df, lg⟩) := rfl
@[simp] theorem recG_none : recG st df lg dst none = some (.inl ⟨putD st dst .nili, df, lg⟩) := rfl
@[simp] theorem w_recov : stepW call ⟨δ, own, res, none⟩ j (op dst .recov gg) ⟨st, df, lg⟩ = recG st df lg dst st.pend := by
  unfold stepW recG
  simp only [op, Option.isNone_none, Bool.and_self, if_true]
  cases st.pend <;> rfl

/-- a call that is put off -/
def deferG (st : St) (df : List IDefer) (lg : Nat → Option (Nat × Nat)) (dst : Option Nat) (args : List D) : D → Option (RSt ⊕ (D × RSt))
  | .fn f a b => some (.inl ⟨putD st dst .undef, .call (.fn f a b) args :: df, lg⟩)
  | _ => none
@[simp] theorem deferG_fn {args a b : List D} {f : FuncId} : deferG st df lg dst args (.fn f a b) = some (.inl ⟨putD st dst .undef, .call (.fn f a b) args :: df, lg⟩) := rfl
@[simp] theorem w_defer {f : Opnd} {args : List Opnd} : stepW call ⟨δ, own, res, none⟩ j (op dst (.defer f args) gg) ⟨st, df, lg⟩ = deferG st df lg dst ((evs st.σ args).map D.degr) (ev st.σ f) := by
  unfold stepW deferG
  simp only [op, Option.isNone_none, Bool.and_self, Bool.true_and]
  cases ev st.σ f <;> rfl

/-- behind a deferred call -/
noncomputable def leaveG (ft : FT) (cx : Cx) (df : List IDefer) (l : Leave) (st : St) : Option Ret → Option Ret
  | none => none
  | some r => match r.out with
    | .pan _ => none
    | .ret _ => leave (C ft) cx df (match l with | .ret => .ret | .pan v => if r.recd then .ret else .pan v) (match r.S' with | none => st | some S' => { st with S := S', now := st.now + 1, low := min st.low r.low })
@[simp] theorem leave_call_ret {f : D} {args : List D} : leave (C ft) cx (.call f args :: df) .ret st = leaveG ft cx df .ret st (C ft (some none) f args st.S (cx.δ + 1)) := by
  simp only [leave, leaveG]
  cases C ft (some none) f args st.S (cx.δ + 1) with
  | none => rfl
  | some r => rfl
@[simp] theorem leave_call_pan {f v : D} {args : List D} : leave (C ft) cx (.call f args :: df) (.pan v) st = leaveG ft cx df (.pan v) st (C ft (some (some v)) f args st.S (cx.δ + 1)) := by
  simp only [leave, leaveG]
  cases C ft (some (some v)) f args st.S (cx.δ + 1) with
  | none => rfl
  | some r => rfl
@[simp] theorem leaveG_ret {d : D} {low : Nat} {rc : Bool} : leaveG ft cx df .ret st (some ⟨.ret d, rc, low, none⟩) = leave (C ft) cx df .ret st := rfl
@[simp] theorem leaveG_retS {d : D} {low : Nat} {rc : Bool} {S' : Store} : leaveG ft cx df .ret st (some ⟨.ret d, rc, low, some S'⟩) = leave (C ft) cx df .ret { st with S := S', now := st.now + 1, low := min st.low low } := rfl
@[simp] theorem leaveG_pan {d v : D} {low : Nat} {S' : Store} : leaveG ft cx df (.pan v) st (some ⟨.ret d, true, low, some S'⟩) = leave (C ft) cx df .ret { st with S := S', now := st.now + 1, low := min st.low low } := rfl
@[simp] theorem outOf_cons {c : IDefer} : outOf (C ft) ⟨δ, own, res, none⟩ (c :: df) st (some .ret) = leave (C ft) ⟨δ, own, res, none⟩ (c :: df) .ret st := rfl
@[simp] theorem outOf_cons_nil {c : IDefer} : outOf (C ft) ⟨δ, own, res, none⟩ (c :: df) st none = leave (C ft) ⟨δ, own, res, none⟩ (c :: df) .ret st := rfl
@[simp] theorem isoB_leave (h1 : st.low = 1) (h2 : st.recd = false) : isoB δ (leave (C ft) ⟨1, own, res, none⟩ [] .ret st) = ansG δ (resultD ⟨1, own, res, none⟩ st) := fin_ret (ft := ft) h1 h2

/-! ### What lies below a level -/
@[simp] theorem trim_own {S : Store} {i : Nat} {o : Obj} : trim δ (upd2 S δ i o) = trim δ S := by
  funext d' i'
  simp only [trim, upd2]
  split
  · rw [if_neg (by omega)]
  · rfl
@[simp] theorem trim_low {S : Store} {d i : Nat} {o : Obj} (h : d < δ) : trim δ (upd2 S d i o) = upd2 (trim δ S) d i o := by
  funext d' i'
  simp only [trim, upd2]
  by_cases h1 : d' = d ∧ i' = i
  · obtain ⟨rfl, rfl⟩ := h1; simp [h]
  · simp [h1]
@[simp] theorem trim_succ {S : Store} : trim δ (trim (δ + 1) S) = trim δ S := by
  funext d' i'
  simp only [trim]
  split
  · rw [if_pos (by omega)]
  · rfl
@[simp] theorem trim_at {S : Store} {d i : Nat} (h : d < δ) : trim δ S d i = S d i := by simp [trim, h]

theorem deepW_then {K : List Item} {ops : List IOper} {n : Nat} {X : Option Ret} {F : (Nat → D) → Prop} (h : ∃ σ' lg', runL (C ft) cx (number 0 ops) ⟨st, [], fun _ => none⟩ = some (.run ⟨{ st with σ := σ' }, [], lg'⟩) ∧ F σ')
    (hK : ∀ σ', F σ' → deepB (W ft cx K [] { st with σ := σ', m := st.m + n, nt := st.nt + n }) = X) : deepB (regW ft cx K n (runL (C ft) cx (number 0 ops) ⟨st, [], fun _ => none⟩)) = X := by
  obtain ⟨σ', lg', h1, h2⟩ := h
  rw [h1]
  exact hK σ' h2
end
end Go.Mia
/- A table of functions. -/
namespace Go.Mia
open Go
def ftOf : List (Nat × IFunc) → FT
  | [], _ => none
  | p :: r, n => if n = p.1 then some (.ir p.2) else ftOf r n
def AllTr (P : Program) (pol : Pol) : List (Nat × IFunc) → Prop
  | [] => True
  | p :: r => trFunc P pol p.1 = some p.2 ∧ AllTr P pol r
theorem ftOf_ok {P : Program} {pol : Pol} : ∀ {l : List (Nat × IFunc)}, AllTr P pol l → FtOk P pol (ftOf l)
  | [], _, f, fe, h => by cases h
  | p :: r, hl, f, fe, h => by
    simp only [ftOf] at h
    split at h
    · rename_i he
      simp only [Option.some.injEq] at h
      subst h he
      exact hl.1
    · exact ftOf_ok hl.2 f fe h
end Go.Mia
