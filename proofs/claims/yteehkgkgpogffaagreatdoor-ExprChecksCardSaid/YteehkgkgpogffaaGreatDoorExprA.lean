import Derived.Test.YteehkgkgpogffaaGreatDoorIrE
import Derived.Test.YteehkgkgpogffaaGreatDoorMiaF
set_option linter.unusedSimpArgs false
set_option linter.unusedVariables false
set_option linter.unusedSectionVars false
/- The program's values in Lean: data, expressions; what they say of each other. -/
namespace Go.Mia
open Go

structure Dat where
  k : Int
  n : Int
  s : List UInt8
  deriving DecidableEq
inductive Ex where
  | mk (op n : Int) (d : Dat) (subs : List Ex)

def Dat.cells (d : Dat) : List D := [.int .i64 d.k, .int .i64 d.n, .str d.s]
def Dat.enc (d : Dat) : D := .agg d.cells
def Dat.null : Dat := ⟨0, 0, []⟩

def Ex.op : Ex → Int | .mk o _ _ _ => o
def Ex.n : Ex → Int | .mk _ n _ _ => n
def Ex.d : Ex → Dat | .mk _ _ d _ => d
def Ex.subs : Ex → List Ex | .mk _ _ _ l => l

def Ex.enc : Ex → D
  | .mk op n d subs => .agg [.int .i64 op, .int .i64 n, .int .i64 d.k, .int .i64 d.n, .str d.s, .slice .none 6 (encs subs)]
where encs : List Ex → List D
  | [] => []
  | e :: es => e.enc :: encs es

theorem Ex.encs_eq (l : List Ex) : Ex.enc.encs l = l.map Ex.enc := by
  induction l with
  | nil => rfl
  | cons e es ih => simp [Ex.enc.encs, ih]

/-- induction over expressions -/
theorem Ex.ind {p : Ex → Prop} (h : ∀ op n d subs, (∀ e ∈ subs, p e) → p (.mk op n d subs)) : ∀ e, p e
  | .mk op n d subs => h op n d subs (go subs)
where go : ∀ l : List Ex, ∀ e ∈ l, p e
  | [], e, he => by cases he
  | x :: xs, e, he => by
    have hx := Ex.ind h x
    have hxs := go xs
    cases he with
    | head => exact hx
    | tail _ he => exact hxs e he

theorem Ex.enc_mk (op n : Int) (d : Dat) (subs : List Ex) : (Ex.mk op n d subs).enc = .agg [.int .i64 op, .int .i64 n, .int .i64 d.k, .int .i64 d.n, .str d.s, .slice .none 6 (subs.map Ex.enc)] := by
  simp only [Ex.enc, Ex.encs_eq]
@[simp] theorem Ex.enc_degr (e : Ex) : e.enc.degr = e.enc := by cases e; simp only [Ex.enc]; rfl
@[simp] theorem Ex.enc_pure (e : Ex) : e.enc.pure = true := by cases e; simp only [Ex.enc]; rfl
@[simp] theorem Ex.enc_pureR (e : Ex) : e.enc.pureR = true := by cases e; simp only [Ex.enc]; rfl
@[simp] theorem Ex.enc_isVal (e : Ex) : e.enc.isVal = true := by cases e; simp only [Ex.enc]; rfl
@[simp] theorem Ex.enc_upto (n : Nat) (e : Ex) : e.enc.upto n = true := by cases e; simp only [Ex.enc]; rfl
@[simp] theorem Ex.enc_flat (e : Ex) : e.enc.flat = true := by cases e; simp only [Ex.enc]; rfl
@[simp] theorem Ex.enc_len (e : Ex) : e.enc.cells.length = 6 := by cases e; simp only [Ex.enc]; rfl
@[simp] theorem Ex.enc_expD {S : Store} {δ : Nat} (e : Ex) : expD S δ FUEL e.enc = some e.enc := by
  cases e; rw [Ex.enc_mk]; exact expD_aggF (by simp) (by simp)
@[simp high] theorem Ex.load_enc {e : Ex} {st : St} : loadOp true 6 (.cptr e.enc.cells) st = some e.enc := by
  cases e
  simp [Ex.enc]
@[simp] theorem Ex.keep_enc {own : Bool} {live : Nat → Bool} (e : Ex) : keepD own live e.enc = e.enc := by cases e; simp only [Ex.enc]; rfl

@[simp] theorem Ex.settle_enc {live : Nat → Bool} (e : Ex) : settle live e.enc = (e.enc.cells, live) := by cases e; simp only [Ex.enc]; rfl
@[simp high] theorem Ex.loadC_enc {d i now : Nat} (e : Ex) : loadC true 6 d i 0 now (.cells e.enc.cells) = some e.enc := by cases e; simp [Ex.enc]
@[simp] theorem Dat.settle_enc {live : Nat → Bool} (d : Dat) : settle live d.enc = (d.enc.cells, live) := rfl
@[simp high] theorem Dat.loadC_enc {a i now : Nat} (d : Dat) : loadC true 3 a i 0 now (.cells d.enc.cells) = some d.enc := by simp [Dat.enc, Dat.cells]
@[simp] theorem Dat.enc_degr (d : Dat) : d.enc.degr = d.enc := rfl
@[simp] theorem Dat.enc_pure (d : Dat) : d.enc.pure = true := rfl
@[simp] theorem Dat.enc_pureR (d : Dat) : d.enc.pureR = true := rfl
@[simp] theorem Dat.enc_isVal (d : Dat) : d.enc.isVal = true := rfl
@[simp] theorem Dat.enc_upto (n : Nat) (d : Dat) : d.enc.upto n = true := rfl
@[simp] theorem Dat.enc_flat (d : Dat) : d.enc.flat = true := rfl
@[simp] theorem Dat.enc_len (d : Dat) : d.enc.cells.length = 3 := rfl
@[simp] theorem Dat.enc_expD {S : Store} {δ : Nat} (d : Dat) : expD S δ FUEL d.enc = some d.enc := expD_aggF (by simp [Dat.cells]) (by simp [Dat.cells])
@[simp high] theorem Dat.load_enc {d : Dat} {st : St} : loadOp true 3 (.cptr d.enc.cells) st = some d.enc := by
  simp [Dat.enc, Dat.cells]
@[simp] theorem Dat.keep_enc {own : Bool} {live : Nat → Bool} (d : Dat) : keepD own live d.enc = d.enc := rfl

/-- a list of whole numbers -/
def encInts (l : List Int) : D := .slice .none 1 (l.map (D.int .i64))
/-- a pair of numbers: a kind, or an error -/
def encKind (p : Int × Int) : D := .agg [.int .i64 p.1, .int .i64 p.2]

theorem drop_get {α : Type} {l r : List α} {i : Nat} {x : α} (h : l.drop i = x :: r) : i < l.length ∧ l[i]? = some x ∧ l.drop (i + 1) = r := by
  refine ⟨?_, ?_, ?_⟩
  · have := congrArg List.length h
    simp at this; omega
  · have := congrArg (·[0]?) h
    simpa using this
  · rw [← List.drop_drop, h]; rfl
theorem drop_nil {α : Type} {l : List α} {i : Nat} (h : l.drop i = []) : ¬ ((i : Int) < (l.length : Int)) := by
  have := congrArg List.length h
  simp at this; omega

/-- an answer -/
abbrev ans (δ : Nat) (d : D) : Option Ret := some ⟨.ret d, false, δ, none⟩
end Go.Mia
/- Arguments of the laws about expressions, as they lie in memory. -/
namespace Go.Mia
open Go Go.RowKit

def in64 (n : Int) : Prop := -9223372036854775808 ≤ n ∧ n ≤ 9223372036854775807

mutual
/-- all numbers of an expression are those of Go's int, all lists as long as they can be -/
def Ex.rng : Ex → Prop
  | .mk op n d subs => in64 op ∧ in64 n ∧ in64 d.k ∧ in64 d.n ∧ d.s.length ≤ maxLen ∧ subs.length ≤ maxLen ∧ rngs subs
def rngs : List Ex → Prop
  | [] => True
  | e :: es => e.rng ∧ rngs es
end
theorem rngs_mem : ∀ {l : List Ex}, rngs l → ∀ e ∈ l, e.rng
  | e :: es, h, x, hx => by
    simp only [rngs] at h
    rcases List.mem_cons.1 hx with rfl | hx
    · exact h.1
    · exact rngs_mem h.2 x hx
theorem rngs_of : ∀ {l : List Ex}, (∀ e ∈ l, e.rng) → rngs l
  | [], _ => trivial
  | e :: es, h => ⟨h e (by simp), rngs_of fun x hx => h x (by simp [hx])⟩

section
variable {H : Type} {enc : TypeId × Value → H} {P : Program} {w : World} {spare : Nat → Bool} {held : Bool}

/-- a struct whose fields can be read -/
theorem read_struct {n : Nat} {t : TypeId} {fs : Array Field} {cs : List Value} {x : DataW H × List MemPlace} (hu : P.underlying t = some (.struct fs)) (h : DataW.trod enc P w 0 spare held (n + 1) t cs = some x) :
    cs.length = P.cellsOf t ∧ ∀ (j : Nat) (f : Field), fs.toList[j]? = some f → ∃ y, DataW.trod enc P w 0 spare held n f.type ((cs.drop f.offset).take (P.cellsOf f.type)) = some y := by
  have key : cs.length = P.cellsOf t ∧ ∃ xs, (fs.toList.mapM fun f => DataW.trod enc P w 0 spare held n f.type ((cs.drop f.offset).take (P.cellsOf f.type))) = some xs := by
    simp only [DataW.trod, hu] at h
    split at h
    · rename_i hl
      rw [Option.map_eq_some_iff] at h
      obtain ⟨xs, h2, _⟩ := h
      exact ⟨hl, xs, h2⟩
    · cases h
  obtain ⟨h1, xs, h2⟩ := key
  refine ⟨h1, fun j f hf => ?_⟩
  have h3 := mapM_some_get h2 j f hf
  have h4 : j < xs.length := by
    have := mapM_some_length h2
    have := (List.getElem?_eq_some_iff.1 hf).1
    omega
  rw [List.getElem?_eq_getElem h4] at h3
  exact ⟨_, h3⟩

/-- the types of an expression -/
structure ExprTy (P : Program) (tI tT tD tS tE : TypeId) : Prop where
  i : P.underlying tI = some (.int .i64)
  s : P.underlying tT = some .string
  d : ∃ fs, P.underlying tD = some (.struct fs) ∧ fs.toList.map (fun f => (f.type, f.offset)) = [(tI, 0), (tI, 1), (tT, 2)]
  l : P.underlying tS = some (.slice tE)
  e : ∃ fs, P.underlying tE = some (.struct fs) ∧ fs.toList.map (fun f => (f.type, f.offset)) = [(tI, 0), (tI, 1), (tD, 2), (tS, 5)]
  ci : P.cellsOf tI = 1
  ct : P.cellsOf tT = 1
  cd : P.cellsOf tD = 3
  cl : P.cellsOf tS = 1
  ce : P.cellsOf tE = 6

theorem field_at {fs : Array Field} {l : List (TypeId × Nat)} (h : fs.toList.map (fun f => (f.type, f.offset)) = l) {j : Nat} {t : TypeId} {o : Nat} (hj : l[j]? = some (t, o)) : ∃ f, fs.toList[j]? = some f ∧ f.type = t ∧ f.offset = o := by
  rw [← h, List.getElem?_map, Option.map_eq_some_iff] at hj
  obtain ⟨f, h1, h2⟩ := hj
  simp only [Prod.mk.injEq] at h2
  exact ⟨f, h1, h2.1, h2.2⟩

variable {tI tT tD tS tE : TypeId}

theorem read_i64 (T : ExprTy P tI tT tD tS tE) {n : Nat} {cs : List Value} {x : DataW H × List MemPlace} (h : DataW.trod enc P w 0 spare held n tI cs = some x) : ∃ z, cs = [.int .i64 z] ∧ in64 z := by
  obtain ⟨z, h1, h2, h3⟩ := read_int T.i h
  refine ⟨z, h1, ?_, ?_⟩
  · simpa [IntKind.min, IntKind.signed, IntKind.bits] using h2
  · simpa [IntKind.max, IntKind.signed, IntKind.bits] using h3

theorem read_dat (T : ExprTy P tI tT tD tS tE) {n : Nat} {cs : List Value} {x : DataW H × List MemPlace} (h : DataW.trod enc P w 0 spare held n tD cs = some x) :
    ∃ d : Dat, in64 d.k ∧ in64 d.n ∧ d.s.length ≤ maxLen ∧ cs = [.int .i64 d.k, .int .i64 d.n, .string ⟨d.s.toArray⟩] := by
  cases n with
  | zero => cases h
  | succ n =>
    obtain ⟨fs, hu, hfs⟩ := T.d
    obtain ⟨hl, hf⟩ := read_struct hu h
    rw [T.cd] at hl
    obtain ⟨a, b, c, rfl⟩ : ∃ a b c, cs = [a, b, c] := by
      rcases cs with _ | ⟨a, _ | ⟨b, _ | ⟨c, _ | ⟨_, _⟩⟩⟩⟩ <;> simp at hl
      exact ⟨a, b, c, rfl⟩
    obtain ⟨f0, g0, t0, o0⟩ := field_at hfs (j := 0) rfl
    obtain ⟨f1, g1, t1, o1⟩ := field_at hfs (j := 1) rfl
    obtain ⟨f2, g2, t2, o2⟩ := field_at hfs (j := 2) rfl
    obtain ⟨y0, r0⟩ := hf 0 f0 g0
    obtain ⟨y1, r1⟩ := hf 1 f1 g1
    obtain ⟨y2, r2⟩ := hf 2 f2 g2
    rw [t0, o0, T.ci] at r0
    rw [t1, o1, T.ci] at r1
    rw [t2, o2, T.ct] at r2
    obtain ⟨z0, e0, b0⟩ := read_i64 T r0
    obtain ⟨z1, e1, b1⟩ := read_i64 T r1
    obtain ⟨s2, e2, b2⟩ := read_str T.s r2
    simp at e0 e1 e2
    subst e0 e1 e2
    exact ⟨⟨z0, z1, s2⟩, b0, b1, b2, rfl⟩

theorem read_expr (T : ExprTy P tI tT tD tS tE) : ∀ (n : Nat) (cs : List Value) (x : DataW H × List MemPlace), DataW.trod enc P w 0 spare held n tE cs = some x → ∃ e : Ex, e.rng ∧ Reps (K0 w) cs e.enc.cells := by
  intro n
  induction n using Nat.strongRecOn with
  | ind n ih =>
    intro cs x h
    cases n with
    | zero => cases h
    | succ n =>
      obtain ⟨fs, hu, hfs⟩ := T.e
      obtain ⟨hl, hf⟩ := read_struct hu h
      rw [T.ce] at hl
      obtain ⟨a, b, c, d, e, f, rfl⟩ : ∃ a b c d e f, cs = [a, b, c, d, e, f] := by
        rcases cs with _ | ⟨a, _ | ⟨b, _ | ⟨c, _ | ⟨d, _ | ⟨e, _ | ⟨f, _ | ⟨_, _⟩⟩⟩⟩⟩⟩⟩ <;> simp at hl
        exact ⟨a, b, c, d, e, f, rfl⟩
      obtain ⟨f0, g0, t0, o0⟩ := field_at hfs (j := 0) rfl
      obtain ⟨f1, g1, t1, o1⟩ := field_at hfs (j := 1) rfl
      obtain ⟨f2, g2, t2, o2⟩ := field_at hfs (j := 2) rfl
      obtain ⟨f3, g3, t3, o3⟩ := field_at hfs (j := 3) rfl
      obtain ⟨y0, r0⟩ := hf 0 f0 g0
      obtain ⟨y1, r1⟩ := hf 1 f1 g1
      obtain ⟨y2, r2⟩ := hf 2 f2 g2
      obtain ⟨y3, r3⟩ := hf 3 f3 g3
      rw [t0, o0, T.ci] at r0
      rw [t1, o1, T.ci] at r1
      rw [t2, o2, T.cd] at r2
      rw [t3, o3, T.cl] at r3
      obtain ⟨z0, e0, b0⟩ := read_i64 T r0
      obtain ⟨z1, e1, b1⟩ := read_i64 T r1
      obtain ⟨dd, k1, k2, k3, e2⟩ := read_dat T r2
      obtain ⟨l, v, e3, hq, hm, hr⟩ := read_slice (Q := Ex.rng) (pack := Ex.enc) (s := 6) T.l T.ce (by omega) (fun e => ⟨Ex.enc_len e, Ex.enc_pure e, Ex.enc_flat e⟩) (fun m cs x hm hx => ih m (by omega) cs x hx) r3
      simp at e0 e1 e2 e3
      obtain ⟨e2, e4, e5⟩ := e2
      subst e0 e1 e2 e3 e4 e5
      refine ⟨.mk z0 z1 dd l, ⟨b0, b1, k1, k2, k3, hm, rngs_of hq⟩, ?_⟩
      rw [Ex.enc_mk]
      exact .cons (.int ..) (.cons (.int ..) (.cons (.int ..) (.cons (.int ..) (.cons (.str _) (.cons hr .nil)))))

/-- a list of whole numbers -/
theorem read_ints {tL : TypeId} (T : ExprTy P tI tT tD tS tE) (hu : P.underlying tL = some (.slice tI)) {n : Nat} {cs : List Value} {x : DataW H × List MemPlace} (h : DataW.trod enc P w 0 spare held n tL cs = some x) :
    ∃ (l : List Int) (v : Value), cs = [v] ∧ (∀ a ∈ l, in64 a) ∧ l.length ≤ maxLen ∧ Rep (K0 w) v (encInts l) :=
  read_slice (Q := in64) (pack := D.int .i64) (s := 1) hu T.ci (by omega) (fun a => ⟨rfl, rfl, rfl⟩) (fun m cs x _ hx => by
    obtain ⟨z, h1, h2⟩ := read_i64 T hx
    subst h1
    exact ⟨z, h2, .cons (.int ..) .nil⟩) h
end
end Go.Mia
/- What functions of the reference return, first part. -/
namespace Go.Mia
open Go

/-- is a datum valid -/
def Dat.valid (d : Dat) : Bool :=
  if d.k = 0 then decide (d.n = 0) && decide (d.s = []) else if d.k = 1 then (decide (d.n = 0) || decide (d.n = 1)) && decide (d.s = []) else if d.k = 2 then decide (d.s = []) else if d.k = 3 then decide (d.n = 0) else false

theorem Valid_ok {ft : FT} (hf : ft 175 = some (.ir f175)) {d : Dat} {S : Store} {δ : Nat} : C ft none (.fn 175 [] []) [d.enc] S δ = ans δ (.bool d.valid) := by
  rw [C_iso hf (by simp [f175]) (by simp)]
  obtain ⟨k, n, s⟩ := d
  by_cases h0 : k = 0
  · by_cases hn : n = 0 <;> by_cases hs : s = [] <;> simp [f175, r175_0, r175_1, r175_2, r175_3, Dat.enc, Dat.cells, Dat.valid, h0, hn, hs]
  · by_cases h1 : k = 1
    · by_cases hn : n = 0 <;> by_cases hn1 : n = 1 <;> by_cases hs : s = [] <;> simp [f175, r175_0, r175_1, r175_2, r175_4, r175_5, Dat.enc, Dat.cells, Dat.valid, h0, h1, hn, hn1, hs]
    · by_cases h2 : k = 2
      · by_cases hs : s = [] <;> simp [f175, r175_0, r175_1, r175_2, r175_4, r175_6, r175_7, Dat.enc, Dat.cells, Dat.valid, h0, h1, h2, hs]
      · by_cases h3 : k = 3
        · by_cases hn : n = 0 <;> simp [f175, r175_0, r175_1, r175_2, r175_4, r175_6, r175_8, r175_9, Dat.enc, Dat.cells, Dat.valid, h0, h1, h2, h3, hn]
        · simp [f175, r175_0, r175_1, r175_2, r175_4, r175_6, r175_8, r175_10, Dat.enc, Dat.cells, Dat.valid, h0, h1, h2, h3]
end Go.Mia
/- What functions of the reference return: how many operands operations have. -/
namespace Go.Mia
open Go

/-- how many operands an operation has: the least and the greatest number, and whether odd numbers alone -/
def shp (op : Int) : Int × Int × Bool :=
  if op = 1 ∨ op = 2 ∨ op = 3 then (0, 0, false)
  else if op = 4 ∨ op = 18 ∨ op = 19 ∨ op = 24 ∨ op = 26 ∨ op = 27 ∨ op = 28 ∨ op = 31 ∨ op = 32 then (1, 1, false)
  else if op = 5 ∨ op = 6 ∨ op = 7 ∨ op = 8 ∨ op = 9 ∨ op = 10 ∨ op = 11 ∨ op = 12 ∨ op = 13 ∨ op = 14 ∨ op = 15 ∨ op = 29 ∨ op = 30 then (2, 2, false)
  else if op = 16 ∨ op = 17 then (1, 50, false)
  else if op = 20 then (3, 41, true)
  else if op = 21 ∨ op = 23 then (1, 20, false)
  else if op = 22 then (2, 50, false)
  else if op = 25 then (3, 3, false)
  else (1, 0, false)

theorem shapes_ok {ft : FT} (hf : ft 174 = some (.ir f174)) {op : Int} {S : Store} {δ : Nat} : C ft none (.fn 174 [] []) [.int .i64 op] S δ = ans δ (.agg [.int .i64 (shp op).1, .int .i64 (shp op).2.1, .bool (shp op).2.2]) := by
  rw [C_iso hf (by simp [f174]) (by simp)]
  by_cases h1 : op = 1
  · subst h1
    simp [f174, r174_0, r174_1, r174_2, r174_3, r174_4, r174_5, r174_6, r174_7, r174_8, r174_9, r174_10, r174_11, r174_12, r174_13, r174_14, r174_15, r174_16, r174_17, r174_18, r174_19, r174_20, r174_21, r174_22, r174_23, r174_24, r174_25, r174_26, r174_27, r174_28, r174_29, r174_30, r174_31, r174_32, r174_33, r174_34, r174_35, r174_36, r174_37, r174_38, r174_39, r174_40, r174_41, r174_42, shp]
  by_cases h2 : op = 2
  · subst h2
    simp [f174, r174_0, r174_1, r174_2, r174_3, r174_4, r174_5, r174_6, r174_7, r174_8, r174_9, r174_10, r174_11, r174_12, r174_13, r174_14, r174_15, r174_16, r174_17, r174_18, r174_19, r174_20, r174_21, r174_22, r174_23, r174_24, r174_25, r174_26, r174_27, r174_28, r174_29, r174_30, r174_31, r174_32, r174_33, r174_34, r174_35, r174_36, r174_37, r174_38, r174_39, r174_40, r174_41, r174_42, shp]
  by_cases h3 : op = 3
  · subst h3
    simp [f174, r174_0, r174_1, r174_2, r174_3, r174_4, r174_5, r174_6, r174_7, r174_8, r174_9, r174_10, r174_11, r174_12, r174_13, r174_14, r174_15, r174_16, r174_17, r174_18, r174_19, r174_20, r174_21, r174_22, r174_23, r174_24, r174_25, r174_26, r174_27, r174_28, r174_29, r174_30, r174_31, r174_32, r174_33, r174_34, r174_35, r174_36, r174_37, r174_38, r174_39, r174_40, r174_41, r174_42, shp]
  by_cases h4 : op = 4
  · subst h4
    simp [f174, r174_0, r174_1, r174_2, r174_3, r174_4, r174_5, r174_6, r174_7, r174_8, r174_9, r174_10, r174_11, r174_12, r174_13, r174_14, r174_15, r174_16, r174_17, r174_18, r174_19, r174_20, r174_21, r174_22, r174_23, r174_24, r174_25, r174_26, r174_27, r174_28, r174_29, r174_30, r174_31, r174_32, r174_33, r174_34, r174_35, r174_36, r174_37, r174_38, r174_39, r174_40, r174_41, r174_42, shp]
  by_cases h5 : op = 5
  · subst h5
    simp [f174, r174_0, r174_1, r174_2, r174_3, r174_4, r174_5, r174_6, r174_7, r174_8, r174_9, r174_10, r174_11, r174_12, r174_13, r174_14, r174_15, r174_16, r174_17, r174_18, r174_19, r174_20, r174_21, r174_22, r174_23, r174_24, r174_25, r174_26, r174_27, r174_28, r174_29, r174_30, r174_31, r174_32, r174_33, r174_34, r174_35, r174_36, r174_37, r174_38, r174_39, r174_40, r174_41, r174_42, shp]
  by_cases h6 : op = 6
  · subst h6
    simp [f174, r174_0, r174_1, r174_2, r174_3, r174_4, r174_5, r174_6, r174_7, r174_8, r174_9, r174_10, r174_11, r174_12, r174_13, r174_14, r174_15, r174_16, r174_17, r174_18, r174_19, r174_20, r174_21, r174_22, r174_23, r174_24, r174_25, r174_26, r174_27, r174_28, r174_29, r174_30, r174_31, r174_32, r174_33, r174_34, r174_35, r174_36, r174_37, r174_38, r174_39, r174_40, r174_41, r174_42, shp]
  by_cases h7 : op = 7
  · subst h7
    simp [f174, r174_0, r174_1, r174_2, r174_3, r174_4, r174_5, r174_6, r174_7, r174_8, r174_9, r174_10, r174_11, r174_12, r174_13, r174_14, r174_15, r174_16, r174_17, r174_18, r174_19, r174_20, r174_21, r174_22, r174_23, r174_24, r174_25, r174_26, r174_27, r174_28, r174_29, r174_30, r174_31, r174_32, r174_33, r174_34, r174_35, r174_36, r174_37, r174_38, r174_39, r174_40, r174_41, r174_42, shp]
  by_cases h8 : op = 8
  · subst h8
    simp [f174, r174_0, r174_1, r174_2, r174_3, r174_4, r174_5, r174_6, r174_7, r174_8, r174_9, r174_10, r174_11, r174_12, r174_13, r174_14, r174_15, r174_16, r174_17, r174_18, r174_19, r174_20, r174_21, r174_22, r174_23, r174_24, r174_25, r174_26, r174_27, r174_28, r174_29, r174_30, r174_31, r174_32, r174_33, r174_34, r174_35, r174_36, r174_37, r174_38, r174_39, r174_40, r174_41, r174_42, shp]
  by_cases h9 : op = 9
  · subst h9
    simp [f174, r174_0, r174_1, r174_2, r174_3, r174_4, r174_5, r174_6, r174_7, r174_8, r174_9, r174_10, r174_11, r174_12, r174_13, r174_14, r174_15, r174_16, r174_17, r174_18, r174_19, r174_20, r174_21, r174_22, r174_23, r174_24, r174_25, r174_26, r174_27, r174_28, r174_29, r174_30, r174_31, r174_32, r174_33, r174_34, r174_35, r174_36, r174_37, r174_38, r174_39, r174_40, r174_41, r174_42, shp]
  by_cases h10 : op = 10
  · subst h10
    simp [f174, r174_0, r174_1, r174_2, r174_3, r174_4, r174_5, r174_6, r174_7, r174_8, r174_9, r174_10, r174_11, r174_12, r174_13, r174_14, r174_15, r174_16, r174_17, r174_18, r174_19, r174_20, r174_21, r174_22, r174_23, r174_24, r174_25, r174_26, r174_27, r174_28, r174_29, r174_30, r174_31, r174_32, r174_33, r174_34, r174_35, r174_36, r174_37, r174_38, r174_39, r174_40, r174_41, r174_42, shp]
  by_cases h11 : op = 11
  · subst h11
    simp [f174, r174_0, r174_1, r174_2, r174_3, r174_4, r174_5, r174_6, r174_7, r174_8, r174_9, r174_10, r174_11, r174_12, r174_13, r174_14, r174_15, r174_16, r174_17, r174_18, r174_19, r174_20, r174_21, r174_22, r174_23, r174_24, r174_25, r174_26, r174_27, r174_28, r174_29, r174_30, r174_31, r174_32, r174_33, r174_34, r174_35, r174_36, r174_37, r174_38, r174_39, r174_40, r174_41, r174_42, shp]
  by_cases h12 : op = 12
  · subst h12
    simp [f174, r174_0, r174_1, r174_2, r174_3, r174_4, r174_5, r174_6, r174_7, r174_8, r174_9, r174_10, r174_11, r174_12, r174_13, r174_14, r174_15, r174_16, r174_17, r174_18, r174_19, r174_20, r174_21, r174_22, r174_23, r174_24, r174_25, r174_26, r174_27, r174_28, r174_29, r174_30, r174_31, r174_32, r174_33, r174_34, r174_35, r174_36, r174_37, r174_38, r174_39, r174_40, r174_41, r174_42, shp]
  by_cases h13 : op = 13
  · subst h13
    simp [f174, r174_0, r174_1, r174_2, r174_3, r174_4, r174_5, r174_6, r174_7, r174_8, r174_9, r174_10, r174_11, r174_12, r174_13, r174_14, r174_15, r174_16, r174_17, r174_18, r174_19, r174_20, r174_21, r174_22, r174_23, r174_24, r174_25, r174_26, r174_27, r174_28, r174_29, r174_30, r174_31, r174_32, r174_33, r174_34, r174_35, r174_36, r174_37, r174_38, r174_39, r174_40, r174_41, r174_42, shp]
  by_cases h14 : op = 14
  · subst h14
    simp [f174, r174_0, r174_1, r174_2, r174_3, r174_4, r174_5, r174_6, r174_7, r174_8, r174_9, r174_10, r174_11, r174_12, r174_13, r174_14, r174_15, r174_16, r174_17, r174_18, r174_19, r174_20, r174_21, r174_22, r174_23, r174_24, r174_25, r174_26, r174_27, r174_28, r174_29, r174_30, r174_31, r174_32, r174_33, r174_34, r174_35, r174_36, r174_37, r174_38, r174_39, r174_40, r174_41, r174_42, shp]
  by_cases h15 : op = 15
  · subst h15
    simp [f174, r174_0, r174_1, r174_2, r174_3, r174_4, r174_5, r174_6, r174_7, r174_8, r174_9, r174_10, r174_11, r174_12, r174_13, r174_14, r174_15, r174_16, r174_17, r174_18, r174_19, r174_20, r174_21, r174_22, r174_23, r174_24, r174_25, r174_26, r174_27, r174_28, r174_29, r174_30, r174_31, r174_32, r174_33, r174_34, r174_35, r174_36, r174_37, r174_38, r174_39, r174_40, r174_41, r174_42, shp]
  by_cases h16 : op = 16
  · subst h16
    simp [f174, r174_0, r174_1, r174_2, r174_3, r174_4, r174_5, r174_6, r174_7, r174_8, r174_9, r174_10, r174_11, r174_12, r174_13, r174_14, r174_15, r174_16, r174_17, r174_18, r174_19, r174_20, r174_21, r174_22, r174_23, r174_24, r174_25, r174_26, r174_27, r174_28, r174_29, r174_30, r174_31, r174_32, r174_33, r174_34, r174_35, r174_36, r174_37, r174_38, r174_39, r174_40, r174_41, r174_42, shp]
  by_cases h17 : op = 17
  · subst h17
    simp [f174, r174_0, r174_1, r174_2, r174_3, r174_4, r174_5, r174_6, r174_7, r174_8, r174_9, r174_10, r174_11, r174_12, r174_13, r174_14, r174_15, r174_16, r174_17, r174_18, r174_19, r174_20, r174_21, r174_22, r174_23, r174_24, r174_25, r174_26, r174_27, r174_28, r174_29, r174_30, r174_31, r174_32, r174_33, r174_34, r174_35, r174_36, r174_37, r174_38, r174_39, r174_40, r174_41, r174_42, shp]
  by_cases h18 : op = 18
  · subst h18
    simp [f174, r174_0, r174_1, r174_2, r174_3, r174_4, r174_5, r174_6, r174_7, r174_8, r174_9, r174_10, r174_11, r174_12, r174_13, r174_14, r174_15, r174_16, r174_17, r174_18, r174_19, r174_20, r174_21, r174_22, r174_23, r174_24, r174_25, r174_26, r174_27, r174_28, r174_29, r174_30, r174_31, r174_32, r174_33, r174_34, r174_35, r174_36, r174_37, r174_38, r174_39, r174_40, r174_41, r174_42, shp]
  by_cases h19 : op = 19
  · subst h19
    simp [f174, r174_0, r174_1, r174_2, r174_3, r174_4, r174_5, r174_6, r174_7, r174_8, r174_9, r174_10, r174_11, r174_12, r174_13, r174_14, r174_15, r174_16, r174_17, r174_18, r174_19, r174_20, r174_21, r174_22, r174_23, r174_24, r174_25, r174_26, r174_27, r174_28, r174_29, r174_30, r174_31, r174_32, r174_33, r174_34, r174_35, r174_36, r174_37, r174_38, r174_39, r174_40, r174_41, r174_42, shp]
  by_cases h20 : op = 20
  · subst h20
    simp [f174, r174_0, r174_1, r174_2, r174_3, r174_4, r174_5, r174_6, r174_7, r174_8, r174_9, r174_10, r174_11, r174_12, r174_13, r174_14, r174_15, r174_16, r174_17, r174_18, r174_19, r174_20, r174_21, r174_22, r174_23, r174_24, r174_25, r174_26, r174_27, r174_28, r174_29, r174_30, r174_31, r174_32, r174_33, r174_34, r174_35, r174_36, r174_37, r174_38, r174_39, r174_40, r174_41, r174_42, shp]
  by_cases h21 : op = 21
  · subst h21
    simp [f174, r174_0, r174_1, r174_2, r174_3, r174_4, r174_5, r174_6, r174_7, r174_8, r174_9, r174_10, r174_11, r174_12, r174_13, r174_14, r174_15, r174_16, r174_17, r174_18, r174_19, r174_20, r174_21, r174_22, r174_23, r174_24, r174_25, r174_26, r174_27, r174_28, r174_29, r174_30, r174_31, r174_32, r174_33, r174_34, r174_35, r174_36, r174_37, r174_38, r174_39, r174_40, r174_41, r174_42, shp]
  by_cases h22 : op = 22
  · subst h22
    simp [f174, r174_0, r174_1, r174_2, r174_3, r174_4, r174_5, r174_6, r174_7, r174_8, r174_9, r174_10, r174_11, r174_12, r174_13, r174_14, r174_15, r174_16, r174_17, r174_18, r174_19, r174_20, r174_21, r174_22, r174_23, r174_24, r174_25, r174_26, r174_27, r174_28, r174_29, r174_30, r174_31, r174_32, r174_33, r174_34, r174_35, r174_36, r174_37, r174_38, r174_39, r174_40, r174_41, r174_42, shp]
  by_cases h23 : op = 23
  · subst h23
    simp [f174, r174_0, r174_1, r174_2, r174_3, r174_4, r174_5, r174_6, r174_7, r174_8, r174_9, r174_10, r174_11, r174_12, r174_13, r174_14, r174_15, r174_16, r174_17, r174_18, r174_19, r174_20, r174_21, r174_22, r174_23, r174_24, r174_25, r174_26, r174_27, r174_28, r174_29, r174_30, r174_31, r174_32, r174_33, r174_34, r174_35, r174_36, r174_37, r174_38, r174_39, r174_40, r174_41, r174_42, shp]
  by_cases h24 : op = 24
  · subst h24
    simp [f174, r174_0, r174_1, r174_2, r174_3, r174_4, r174_5, r174_6, r174_7, r174_8, r174_9, r174_10, r174_11, r174_12, r174_13, r174_14, r174_15, r174_16, r174_17, r174_18, r174_19, r174_20, r174_21, r174_22, r174_23, r174_24, r174_25, r174_26, r174_27, r174_28, r174_29, r174_30, r174_31, r174_32, r174_33, r174_34, r174_35, r174_36, r174_37, r174_38, r174_39, r174_40, r174_41, r174_42, shp]
  by_cases h25 : op = 25
  · subst h25
    simp [f174, r174_0, r174_1, r174_2, r174_3, r174_4, r174_5, r174_6, r174_7, r174_8, r174_9, r174_10, r174_11, r174_12, r174_13, r174_14, r174_15, r174_16, r174_17, r174_18, r174_19, r174_20, r174_21, r174_22, r174_23, r174_24, r174_25, r174_26, r174_27, r174_28, r174_29, r174_30, r174_31, r174_32, r174_33, r174_34, r174_35, r174_36, r174_37, r174_38, r174_39, r174_40, r174_41, r174_42, shp]
  by_cases h26 : op = 26
  · subst h26
    simp [f174, r174_0, r174_1, r174_2, r174_3, r174_4, r174_5, r174_6, r174_7, r174_8, r174_9, r174_10, r174_11, r174_12, r174_13, r174_14, r174_15, r174_16, r174_17, r174_18, r174_19, r174_20, r174_21, r174_22, r174_23, r174_24, r174_25, r174_26, r174_27, r174_28, r174_29, r174_30, r174_31, r174_32, r174_33, r174_34, r174_35, r174_36, r174_37, r174_38, r174_39, r174_40, r174_41, r174_42, shp]
  by_cases h27 : op = 27
  · subst h27
    simp [f174, r174_0, r174_1, r174_2, r174_3, r174_4, r174_5, r174_6, r174_7, r174_8, r174_9, r174_10, r174_11, r174_12, r174_13, r174_14, r174_15, r174_16, r174_17, r174_18, r174_19, r174_20, r174_21, r174_22, r174_23, r174_24, r174_25, r174_26, r174_27, r174_28, r174_29, r174_30, r174_31, r174_32, r174_33, r174_34, r174_35, r174_36, r174_37, r174_38, r174_39, r174_40, r174_41, r174_42, shp]
  by_cases h28 : op = 28
  · subst h28
    simp [f174, r174_0, r174_1, r174_2, r174_3, r174_4, r174_5, r174_6, r174_7, r174_8, r174_9, r174_10, r174_11, r174_12, r174_13, r174_14, r174_15, r174_16, r174_17, r174_18, r174_19, r174_20, r174_21, r174_22, r174_23, r174_24, r174_25, r174_26, r174_27, r174_28, r174_29, r174_30, r174_31, r174_32, r174_33, r174_34, r174_35, r174_36, r174_37, r174_38, r174_39, r174_40, r174_41, r174_42, shp]
  by_cases h29 : op = 29
  · subst h29
    simp [f174, r174_0, r174_1, r174_2, r174_3, r174_4, r174_5, r174_6, r174_7, r174_8, r174_9, r174_10, r174_11, r174_12, r174_13, r174_14, r174_15, r174_16, r174_17, r174_18, r174_19, r174_20, r174_21, r174_22, r174_23, r174_24, r174_25, r174_26, r174_27, r174_28, r174_29, r174_30, r174_31, r174_32, r174_33, r174_34, r174_35, r174_36, r174_37, r174_38, r174_39, r174_40, r174_41, r174_42, shp]
  by_cases h30 : op = 30
  · subst h30
    simp [f174, r174_0, r174_1, r174_2, r174_3, r174_4, r174_5, r174_6, r174_7, r174_8, r174_9, r174_10, r174_11, r174_12, r174_13, r174_14, r174_15, r174_16, r174_17, r174_18, r174_19, r174_20, r174_21, r174_22, r174_23, r174_24, r174_25, r174_26, r174_27, r174_28, r174_29, r174_30, r174_31, r174_32, r174_33, r174_34, r174_35, r174_36, r174_37, r174_38, r174_39, r174_40, r174_41, r174_42, shp]
  by_cases h31 : op = 31
  · subst h31
    simp [f174, r174_0, r174_1, r174_2, r174_3, r174_4, r174_5, r174_6, r174_7, r174_8, r174_9, r174_10, r174_11, r174_12, r174_13, r174_14, r174_15, r174_16, r174_17, r174_18, r174_19, r174_20, r174_21, r174_22, r174_23, r174_24, r174_25, r174_26, r174_27, r174_28, r174_29, r174_30, r174_31, r174_32, r174_33, r174_34, r174_35, r174_36, r174_37, r174_38, r174_39, r174_40, r174_41, r174_42, shp]
  by_cases h32 : op = 32
  · subst h32
    simp [f174, r174_0, r174_1, r174_2, r174_3, r174_4, r174_5, r174_6, r174_7, r174_8, r174_9, r174_10, r174_11, r174_12, r174_13, r174_14, r174_15, r174_16, r174_17, r174_18, r174_19, r174_20, r174_21, r174_22, r174_23, r174_24, r174_25, r174_26, r174_27, r174_28, r174_29, r174_30, r174_31, r174_32, r174_33, r174_34, r174_35, r174_36, r174_37, r174_38, r174_39, r174_40, r174_41, r174_42, shp]
  simp [f174, r174_0, r174_1, r174_2, r174_3, r174_4, r174_5, r174_6, r174_7, r174_8, r174_9, r174_10, r174_11, r174_12, r174_13, r174_14, r174_15, r174_16, r174_17, r174_18, r174_19, r174_20, r174_21, r174_22, r174_23, r174_24, r174_25, r174_26, r174_27, r174_28, r174_29, r174_30, r174_31, r174_32, r174_33, r174_34, r174_35, r174_36, r174_37, r174_38, r174_39, r174_40, r174_41, r174_42, shp, h1, h2, h3, h4, h5, h6, h7, h8, h9, h10, h11, h12, h13, h14, h15, h16, h17, h18, h19, h20, h21, h22, h23, h24, h25, h26, h27, h28, h29, h30, h31, h32]
end Go.Mia
/- What functions of the reference return: Count, Formed. -/
namespace Go.Mia
open Go

theorem W_reg {ft : FT} {cx : Cx} {k : List Item} {df : List IDefer} {st : St} {ops : List IOper} {σ' : Nat → D} (h : runL (C ft) cx (number 0 ops) ⟨st, df, fun _ => none⟩ = some (.run ⟨{ st with σ := σ' }, df, fun _ => none⟩)) :
    W ft cx (.code (.region ops) :: k) df st = W ft cx k df { st with σ := σ', m := st.m + ops.length, nt := st.nt + ops.length } := by
  rw [W_region, h]; rfl

/-- the cells of an expression's box -/
def ecells (op n : Int) (d : Dat) (subs : List Ex) : List D := [.int .i64 op, .int .i64 n, .int .i64 d.k, .int .i64 d.n, .str d.s, .slice .none 6 (subs.map Ex.enc)]

section
variable {ft : FT} {cx : Cx} {st : St} {b : Nat} {bad : Bool} {op n : Int} {d : Dat} {subs : List Ex}

/-- what a region leaves of the slots that are looked at later -/
def Kept (σ σ' : Nat → D) (bad : Bool) : Prop := σ' 7 = .bool bad ∧ σ' 1 = σ 1 ∧ σ' 2 = σ 2 ∧ σ' 6 = σ 6

theorem cnt3 {len least most depth : Int} {odd : Bool} (h6 : st.σ 6 = .int .i64 len) (h5 : st.σ 5 = .ptr 1 b 0) (h1 : st.σ 1 = .int .i64 depth) (hS : st.S 1 b = .cells [.int .i64 least, .int .i64 most, .bool odd]) :
    ∃ σ', runL (C ft) cx (number 0 r93_3) ⟨st, [], fun _ => none⟩ = some (.run ⟨{ st with σ := σ' }, [], fun _ => none⟩) ∧
      Kept st.σ σ' (decide (len < least) || decide (most < len) || (odd && decide (len.tmod 2 = 0)) || decide (30 < depth)) := by
  by_cases c1 : len < least
  · exact ⟨_, by simp [r93_3, h6, h5, h1, hS, c1]; rfl, by simp [Kept, c1]⟩
  · by_cases c2 : most < len
    · exact ⟨_, by simp [r93_3, h6, h5, h1, hS, c1, c2]; rfl, by simp [Kept, c1, c2]⟩
    · cases odd with
      | true =>
        by_cases c3 : len.tmod 2 = 0
        · exact ⟨_, by simp [r93_3, h6, h5, h1, hS, c1, c2, c3]; rfl, by simp [Kept, c1, c2, c3]⟩
        · by_cases c4 : 30 < depth
          · exact ⟨_, by simp [r93_3, h6, h5, h1, hS, c1, c2, c3, c4]; rfl, by simp [Kept, c1, c2, c3, c4]⟩
          · exact ⟨_, by simp [r93_3, h6, h5, h1, hS, c1, c2, c3, c4]; rfl, by simp [Kept, c1, c2, c3, c4]⟩
      | false =>
        by_cases c4 : 30 < depth
        · exact ⟨_, by simp [r93_3, h6, h5, h1, hS, c1, c2, c4]; rfl, by simp [Kept, c1, c2, c4]⟩
        · exact ⟨_, by simp [r93_3, h6, h5, h1, hS, c1, c2, c4]; rfl, by simp [Kept, c1, c2, c4]⟩

theorem cnt5 (h175 : ft 175 = some (.ir f175)) (h7 : st.σ 7 = .bool bad) (h2 : st.σ 2 = .ptr 1 0 0) (hS : st.S 1 0 = .cells (ecells op n d subs)) :
    ∃ σ', runL (C ft) cx (number 0 r93_5) ⟨st, [], fun _ => none⟩ = some (.run ⟨{ st with σ := σ' }, [], fun _ => none⟩) ∧ Kept st.σ σ' (bad || !d.valid || decide (n ≠ 0)) := by
  have hV : ∀ S δ, C ft none (.fn 175 [] []) [.agg [.int .i64 d.k, .int .i64 d.n, .str d.s]] S δ = ans δ (.bool d.valid) := fun S δ => Valid_ok h175
  cases bad with
  | true => exact ⟨_, by simp [r93_5, h7, h2, hS, ecells]; rfl, by simp [Kept]⟩
  | false =>
    cases hv : d.valid with
    | false => exact ⟨_, by simp [r93_5, h7, h2, hS, ecells, hV, hv]; rfl, by simp [Kept]⟩
    | true =>
      by_cases hn : n = 0
      · exact ⟨_, by simp [r93_5, h7, h2, hS, ecells, hV, hv, hn]; rfl, by simp [Kept, hn]⟩
      · exact ⟨_, by simp [r93_5, h7, h2, hS, ecells, hV, hv, hn]; rfl, by simp [Kept, hn]⟩

theorem cnt6 (h7 : st.σ 7 = .bool bad) (h2 : st.σ 2 = .ptr 1 0 0) (hS : st.S 1 0 = .cells (ecells op n d subs)) :
    ∃ σ', runL (C ft) cx (number 0 r93_6) ⟨st, [], fun _ => none⟩ = some (.run ⟨{ st with σ := σ' }, [], fun _ => none⟩) ∧ Kept st.σ σ' (bad || decide (d ≠ Dat.null)) := by
  have hd : d = Dat.null ↔ d.k = 0 ∧ d.n = 0 ∧ d.s = [] := by cases d; simp [Dat.null]
  cases bad with
  | true => exact ⟨_, by simp [r93_6, h7, h2, hS, ecells]; rfl, by simp [Kept]⟩
  | false =>
    refine ⟨_, by simp [r93_6, h7, h2, hS, ecells, eqAgg, eqs, eqLeaf]; rfl, ?_⟩
    simp [Kept, hd]

theorem cnt7 (h2 : st.σ 2 = .ptr 1 0 0) (hS : st.S 1 0 = .cells (ecells op n d subs)) :
    ∃ σ', runL (C ft) cx (number 0 r93_7) ⟨st, [], fun _ => none⟩ = some (.run ⟨{ st with σ := σ' }, [], fun _ => none⟩) ∧ σ' 68 = .bool (decide (op = 2) || decide (op = 3)) ∧ σ' 7 = st.σ 7 ∧ σ' 1 = st.σ 1 ∧ σ' 2 = st.σ 2 ∧ σ' 6 = st.σ 6 := by
  by_cases c : op = 2
  · exact ⟨_, by simp [r93_7, h2, hS, ecells, c]; rfl, by simp [c]⟩
  · exact ⟨_, by simp [r93_7, h2, hS, ecells, c]; rfl, by simp [c]⟩

theorem cnt8 (h7 : st.σ 7 = .bool bad) (h2 : st.σ 2 = .ptr 1 0 0) (hS : st.S 1 0 = .cells (ecells op n d subs)) :
    ∃ σ', runL (C ft) cx (number 0 r93_8) ⟨st, [], fun _ => none⟩ = some (.run ⟨{ st with σ := σ' }, [], fun _ => none⟩) ∧ Kept st.σ σ' (bad || decide (n < 0) || decide (999 < n)) := by
  cases bad with
  | true => exact ⟨_, by simp [r93_8, h7, h2, hS, ecells]; rfl, by simp [Kept]⟩
  | false =>
    by_cases c : n < 0
    · exact ⟨_, by simp [r93_8, h7, h2, hS, ecells, c]; rfl, by simp [Kept, c]⟩
    · exact ⟨_, by simp [r93_8, h7, h2, hS, ecells, c]; rfl, by simp [Kept, c]⟩

theorem cnt9 (h7 : st.σ 7 = .bool bad) (h2 : st.σ 2 = .ptr 1 0 0) (hS : st.S 1 0 = .cells (ecells op n d subs)) :
    ∃ σ', runL (C ft) cx (number 0 r93_9) ⟨st, [], fun _ => none⟩ = some (.run ⟨{ st with σ := σ' }, [], fun _ => none⟩) ∧ Kept st.σ σ' (bad || decide (n ≠ 0)) := by
  cases bad with
  | true => exact ⟨_, by simp [r93_9, h7, h2, hS, ecells]; rfl, by simp [Kept]⟩
  | false => exact ⟨_, by simp [r93_9, h7, h2, hS, ecells]; rfl, by simp [Kept]⟩
end
end Go.Mia
/- What functions of the reference return: Count, Formed. -/
namespace Go.Mia
open Go

theorem regW_then {ft : FT} {cx : Cx} {K : List Item} {st : St} {ops : List IOper} {δ n : Nat} {X : Option Ret} {F : (Nat → D) → Prop} (h : ∃ σ', runL (C ft) cx (number 0 ops) ⟨st, [], fun _ => none⟩ = some (.run ⟨{ st with σ := σ' }, [], fun _ => none⟩) ∧ F σ')
    (hK : ∀ σ', F σ' → isoB δ (W ft cx K [] { st with σ := σ', m := st.m + n, nt := st.nt + n }) = X) : isoB δ (regW ft cx K n (runL (C ft) cx (number 0 ops) ⟨st, [], fun _ => none⟩)) = X := by
  obtain ⟨σ', h1, h2⟩ := h
  rw [h1]
  exact hK σ' h2

/-- is a node not as it has to be -/
def nodeBad (op n : Int) (d : Dat) (len : Int) (depth : Int) : Bool :=
  ((decide (len < (shp op).1) || decide ((shp op).2.1 < len) || ((shp op).2.2 && decide (len.tmod 2 = 0)) || decide (30 < depth)) ||
    (if op = 1 then !d.valid || decide (n ≠ 0) else decide (d ≠ Dat.null))) || (if op = 2 ∨ op = 3 then decide (n < 0) || decide (999 < n) else decide (n ≠ 0))

mutual
def Ex.count : Ex → Int → Int
  | .mk op n d subs, depth => if nodeBad op n d subs.length depth = true then 301 else counts subs (depth + 1) 1
def counts : List Ex → Int → Int → Int
  | [], _, m => m
  | e :: es, depth, m => if m ≤ 300 then counts es depth (m + e.count depth) else m
end

theorem counts_le {depth B : Int} (hB : 0 ≤ B) : ∀ (l : List Ex) (m : Int), 0 ≤ m → m ≤ 300 + B → (∀ e ∈ l, 0 ≤ e.count depth ∧ e.count depth ≤ B) → 0 ≤ counts l depth m ∧ counts l depth m ≤ 300 + B
  | [], m, h0, h1, _ => by simp only [counts]; omega
  | e :: es, m, h0, h1, h => by
    simp only [counts]
    have := h e (by simp)
    split
    · exact counts_le hB es _ (by omega) (by omega) fun x hx => h x (by simp [hx])
    · omega
theorem count_le (e : Ex) : ∀ depth : Int, depth ≤ 31 → 0 ≤ e.count depth ∧ e.count depth ≤ 301 + 300 * (31 - depth) := by
  induction e using Ex.ind with
  | h op n d subs ih =>
    intro depth hd
    simp only [Ex.count]
    split
    · omega
    · rename_i h
      have h30 : depth ≤ 30 := by
        simp only [nodeBad, Bool.or_eq_true, decide_eq_true_eq] at h
        omega
      have := counts_le (depth := depth + 1) (B := 301 + 300 * (31 - (depth + 1))) (by omega) subs 1 (by omega) (by omega) fun e he => ih e he (depth + 1) (by omega)
      omega

theorem count_loop {ft : FT} {op n : Int} {d : Dat} {subs : List Ex} {depth : Int} {δ : Nat} (hl : subs.length ≤ 50) (h0 : 0 ≤ depth) (h40 : depth ≤ 30)
    (ih : ∀ e ∈ subs, ∀ (S : Store) (δ : Nat), C ft none (.fn 93 [] []) [e.enc, .int .i64 (depth + 1)] S δ = ans δ (.int .i64 (e.count (depth + 1)))) :
    ∀ (l : List Ex) (i : Nat) (acc : Int) (st : St), subs.drop i = l → i ≤ subs.length → 0 ≤ acc → acc ≤ 30000 → st.σ 1 = .int .i64 depth → st.σ 2 = .ptr 1 0 0 → st.σ 6 = .int .i64 (subs.length : Int) → st.σ 8 = .int .i64 acc → st.σ 9 = .int .i64 (i : Int) →
      st.S 1 0 = .cells (ecells op n d subs) → st.low = 1 → st.recd = false →
      isoB δ (W ft ⟨1, false, [.tmp 4], none⟩ [.inLoop l93_17, .inBlock 0, .code (.seq (.region r93_18) .ret)] [] st) = ans δ (.int .i64 (counts l (depth + 1) acc)) := by
  intro l
  induction l with
  | nil =>
    intro i acc st hdr hi a0 a1 s1 s2 s6 s8 s9 hS hlow hrec
    have : ¬ (i : Int) < (subs.length : Int) := by
      have := congrArg List.length hdr
      simp at this; omega
    rw [W_inLoop]
    simp [l93_17, r93_14, r93_18, s1, s2, s6, s8, s9, hS, hlow, hrec, this, counts]
  | cons x l hrest =>
    intro i acc st hdr hi a0 a1 s1 s2 s6 s8 s9 hS hlow hrec
    have hlt : i < subs.length := by
      have := congrArg List.length hdr
      simp at this; omega
    have hlt' : (i : Int) < (subs.length : Int) := by omega
    have hx : subs[i]? = some x := by
      have := congrArg (·[0]?) hdr
      simpa using this
    have hm : x ∈ subs := List.mem_of_getElem? hx
    have hdr' : subs.drop (i + 1) = l := by
      rw [← List.drop_drop, hdr]; rfl
    rw [W_inLoop]
    by_cases hacc : acc ≤ 300
    · have hb := count_le x (depth + 1) (by omega)
      have w1 : IntKind.i64.wrap (depth + 1) = depth + 1 := wrap64 (by omega) (by omega)
      have w2 : IntKind.i64.wrap ((i : Int) + 1) = (i : Int) + 1 := wrap64 (by omega) (by omega)
      have w3 : IntKind.i64.wrap (acc + x.count (depth + 1)) = acc + x.count (depth + 1) := wrap64 (by omega) (by omega)
      have hcall := fun S δ => ih x hm S δ
      simp [l93_17, r93_14, r93_15, r93_16, s1, s2, s6, s8, s9, hS, ecells, hlow, hrec, hlt', hacc, w1, w2, w3, hx, hcall, counts]
      apply hrest (i + 1) _ _ hdr' <;> first | omega | simp [s1, s2, s6, hS, ecells]
    · simp [l93_17, r93_14, r93_18, s1, s2, s6, s8, s9, hS, hlow, hrec, hlt', hacc, counts]

theorem nodeBad_len {op n depth : Int} {d : Dat} {len : Nat} (h : nodeBad op n d len depth = false) : depth ≤ 30 ∧ len ≤ 50 := by
  simp only [nodeBad, Bool.or_eq_false_iff, decide_eq_false_iff_not] at h
  have hm : (shp op).2.1 ≤ 50 := by
    unfold shp
    repeat' split
    all_goals simp
  omega

theorem Count_ok {ft : FT} (hf : ft 93 = some (.ir f93)) (h174 : ft 174 = some (.ir f174)) (h175 : ft 175 = some (.ir f175)) : ∀ (e : Ex) (depth : Int) (S : Store) (δ : Nat), 0 ≤ depth → depth ≤ 31 → C ft none (.fn 93 [] []) [e.enc, .int .i64 depth] S δ = ans δ (.int .i64 (e.count depth)) := by
  intro e
  induction e using Ex.ind with
  | h op n d subs ih =>
    intro depth S δ h0 h31
    have hsh := fun S δ => shapes_ok h174 (op := op) (S := S) (δ := δ)
    rw [C_iso hf (by simp [f93]) (by simp)]
    simp [Ex.enc_mk, f93, r93_0, r93_1, r93_2, hsh]
    refine regW_then (cnt3 (len := (subs.length : Int)) (b := 5) (depth := depth) (least := (shp op).1) (most := (shp op).2.1) (odd := (shp op).2.2) (by simp) (by simp) (by simp) (by simp)) ?_
    rintro σ3 ⟨k7, k1, k2, k6⟩
    simp at k1 k2 k6
    by_cases hop : op = 1
    · subst hop
      simp [r93_4, k1, k2, k6]
      refine regW_then (cnt5 (op := 1) (n := n) (d := d) (subs := subs) h175 (by simp; exact k7) (by simp [k2]) (by simp [ecells])) ?_
      rintro σ5 ⟨m7, m1, m2, m6⟩
      simp [k1, k2, k6] at m1 m2 m6
      simp
      refine regW_then (cnt7 (op := 1) (n := n) (d := d) (subs := subs) (by simp [m2]) (by simp [ecells])) ?_
      rintro σ7 ⟨p68, p7, p1, p2, p6⟩
      simp [m1, m2, m6] at p1 p2 p6 p68
      simp [p68]
      refine regW_then (cnt9 (op := 1) (n := n) (d := d) (subs := subs) (by simp; exact p7.trans m7) (by simp [p2]) (by simp [ecells])) ?_
      rintro σ9 ⟨q7, q1, q2, q6⟩
      simp [p1, p2, p6] at q1 q2 q6
      have q7' : σ9 7 = .bool (nodeBad 1 n d subs.length depth) := by rw [q7]; by_cases hn : n = 0 <;> simp [nodeBad, hn, Bool.or_assoc]
      cases hb : nodeBad 1 n d subs.length depth with
      | true =>
        rw [hb] at q7'
        simp [r93_10, r93_11, q7', Ex.count, hb]
      | false =>
        rw [hb] at q7'
        have hd30 : depth ≤ 30 ∧ subs.length ≤ 50 := nodeBad_len hb
        simp [r93_10, r93_12, r93_13, q7', q1, q2, q6, Ex.count, hb]
        apply count_loop (op := 1) (n := n) (d := d) (subs := subs) hd30.2 h0 hd30.1 (fun e he S δ => ih e he (depth + 1) S δ (by omega) (by omega)) subs 0 _ _ rfl <;> first | omega | simp [q1, q2, q6, ecells]
    · simp [r93_4, k1, k2, k6, hop]
      refine regW_then (cnt6 (op := op) (n := n) (d := d) (subs := subs) (by simp; exact k7) (by simp [k2]) (by simp [ecells])) ?_
      rintro σ5 ⟨m7, m1, m2, m6⟩
      simp [k1, k2, k6] at m1 m2 m6
      simp
      refine regW_then (cnt7 (op := op) (n := n) (d := d) (subs := subs) (by simp [m2]) (by simp [ecells])) ?_
      rintro σ7 ⟨p68, p7, p1, p2, p6⟩
      simp [m1, m2, m6] at p1 p2 p6
      by_cases h23 : op = 2 ∨ op = 3
      · have h23' : (decide (op = 2) || decide (op = 3)) = true := by simpa using h23
        rw [h23'] at p68
        simp [p68]
        refine regW_then (cnt8 (op := op) (n := n) (d := d) (subs := subs) (by simp; exact p7.trans m7) (by simp [p2]) (by simp [ecells])) ?_
        rintro σ9 ⟨q7, q1, q2, q6⟩
        simp [p1, p2, p6] at q1 q2 q6
        have q7' : σ9 7 = .bool (nodeBad op n d subs.length depth) := by rw [q7]; simp [nodeBad, hop, h23, Bool.or_assoc]
        cases hb : nodeBad op n d subs.length depth with
        | true =>
          rw [hb] at q7'
          simp [r93_10, r93_11, q7', Ex.count, hb]
        | false =>
          rw [hb] at q7'
          have hd30 : depth ≤ 30 ∧ subs.length ≤ 50 := nodeBad_len hb
          simp [r93_10, r93_12, r93_13, q7', q1, q2, q6, Ex.count, hb]
          apply count_loop (op := op) (n := n) (d := d) (subs := subs) hd30.2 h0 hd30.1 (fun e he S δ => ih e he (depth + 1) S δ (by omega) (by omega)) subs 0 _ _ rfl <;> first | omega | simp [q1, q2, q6, ecells, hop, h23, Bool.or_assoc]
      · have h23' : (decide (op = 2) || decide (op = 3)) = false := by simpa using h23
        rw [h23'] at p68
        simp [p68]
        refine regW_then (cnt9 (op := op) (n := n) (d := d) (subs := subs) (by simp; exact p7.trans m7) (by simp [p2]) (by simp [ecells])) ?_
        rintro σ9 ⟨q7, q1, q2, q6⟩
        simp [p1, p2, p6] at q1 q2 q6
        have q7' : σ9 7 = .bool (nodeBad op n d subs.length depth) := by rw [q7]; simp [nodeBad, hop, h23, Bool.or_assoc]
        cases hb : nodeBad op n d subs.length depth with
        | true =>
          rw [hb] at q7'
          simp [r93_10, r93_11, q7', Ex.count, hb]
        | false =>
          rw [hb] at q7'
          have hd30 : depth ≤ 30 ∧ subs.length ≤ 50 := nodeBad_len hb
          simp [r93_10, r93_12, r93_13, q7', q1, q2, q6, Ex.count, hb]
          apply count_loop (op := op) (n := n) (d := d) (subs := subs) hd30.2 h0 hd30.1 (fun e he S δ => ih e he (depth + 1) S δ (by omega) (by omega)) subs 0 _ _ rfl <;> first | omega | simp [q1, q2, q6, ecells, hop, h23, Bool.or_assoc]

theorem Formed_ok {ft : FT} (hf : ft 38 = some (.ir f38)) (h93 : ft 93 = some (.ir f93)) (h174 : ft 174 = some (.ir f174)) (h175 : ft 175 = some (.ir f175)) (e : Ex) (S : Store) (δ : Nat) : C ft none (.fn 38 [] []) [e.enc] S δ = ans δ (.bool (decide (e.count 1 ≤ 300))) := by
  have hc := fun S δ => Count_ok h93 h174 h175 e 1 S δ (by omega) (by omega)
  rw [C_iso hf (by simp [f38]) (by simp)]
  simp [f38, r38_0, r38_1, hc]
end Go.Mia
/- What functions of the reference return: kinds. -/
namespace Go.Mia
open Go

def areKinds (l : List Int) : Bool := l.all fun k => decide (k = 1) || decide (k = 2) || decide (k = 3)

theorem areKinds_loop {ft : FT} {ks : List Int} {δ : Nat} (hl : ks.length ≤ 1000000000) : ∀ (l : List Int) (i : Nat) (st : St), ks.drop i = l → i ≤ ks.length → st.σ 0 = encInts ks → st.σ 3 = .int .i64 (i : Int) → st.low = 1 → st.recd = false →
    isoB δ (W ft ⟨1, false, [.tmp 2], none⟩ [.inLoop l82_6, .inBlock 0, .code (.seq (.region r82_7) .ret)] [] st) = ans δ (.bool (areKinds l)) := by
  intro l
  induction l with
  | nil =>
    intro i st hd hi s0 s3 hlow hrec
    have hn := drop_nil hd
    rw [W_inLoop]
    simp [l82_6, r82_2, r82_7, s0, s3, hlow, hrec, hn, encInts, areKinds]
  | cons x l ih =>
    intro i st hd hi s0 s3 hlow hrec
    obtain ⟨h1, h2, h3⟩ := drop_get hd
    have h1' : (i : Int) < (ks.length : Int) := by omega
    have w : IntKind.i64.wrap ((i : Int) + 1) = (i : Int) + 1 := wrap64 (by omega) (by omega)
    rw [W_inLoop]
    by_cases c1 : x = 1
    · simp [l82_6, r82_2, r82_3, r82_5, s0, s3, hlow, hrec, h1', h2, w, encInts, areKinds, c1]
      apply ih (i + 1) _ h3 <;> first | omega | simp [s0, encInts]
    · by_cases c2 : x = 2
      · simp [l82_6, r82_2, r82_3, r82_5, s0, s3, hlow, hrec, h1', h2, w, encInts, areKinds, c1, c2]
        apply ih (i + 1) _ h3 <;> first | omega | simp [s0, encInts]
      · by_cases c3 : x = 3
        · simp [l82_6, r82_2, r82_3, r82_5, s0, s3, hlow, hrec, h1', h2, w, encInts, areKinds, c1, c2, c3]
          apply ih (i + 1) _ h3 <;> first | omega | simp [s0, encInts]
        · simp [l82_6, r82_2, r82_3, r82_4, s0, s3, hlow, hrec, h1', h2, w, encInts, areKinds, c1, c2, c3]

theorem areKinds_ok {ft : FT} (hf : ft 82 = some (.ir f82)) {ks : List Int} (hl : ks.length ≤ 1000000000) {S : Store} {δ : Nat} : C ft none (.fn 82 [] []) [encInts ks] S δ = ans δ (.bool (areKinds ks)) := by
  rw [C_iso hf (by simp [f82]) (by simp [encInts])]
  simp [f82, r82_0, r82_1, encInts]
  apply areKinds_loop hl ks 0 <;> simp [encInts]

def allK (l : List Int) (k : Int) : Bool := l.all fun x => decide (x = 0) || decide (x = k)

theorem all_loop {ft : FT} {ks : List Int} {kk : Int} {δ : Nat} (hl : ks.length ≤ 1000000000) : ∀ (l : List Int) (i : Nat) (st : St), ks.drop i = l → i ≤ ks.length → st.σ 0 = encInts ks → st.σ 1 = .int .i64 kk → st.σ 5 = .int .i64 (i : Int) → st.low = 1 → st.recd = false →
    isoB δ (W ft ⟨1, false, [.tmp 4], none⟩ [.inLoop l200_6, .inBlock 0, .code (.seq (.region r200_7) .ret)] [] st) = ans δ (.bool (allK l kk)) := by
  intro l
  induction l with
  | nil =>
    intro i st hd hi s0 s1 s5 hlow hrec
    have hn := drop_nil hd
    rw [W_inLoop]
    simp [l200_6, r200_2, r200_7, s0, s1, s5, hlow, hrec, hn, encInts, allK]
  | cons x l ih =>
    intro i st hd hi s0 s1 s5 hlow hrec
    obtain ⟨h1, h2, h3⟩ := drop_get hd
    have h1' : (i : Int) < (ks.length : Int) := by omega
    have w : IntKind.i64.wrap ((i : Int) + 1) = (i : Int) + 1 := wrap64 (by omega) (by omega)
    rw [W_inLoop]
    by_cases c1 : x = 0
    · simp [l200_6, r200_2, r200_3, r200_5, s0, s1, s5, hlow, hrec, h1', h2, w, encInts, allK, c1]
      apply ih (i + 1) _ h3 <;> first | omega | simp [s0, s1, encInts]
    · by_cases c2 : x = kk
      · subst c2
        simp [l200_6, r200_2, r200_3, r200_5, s0, s1, s5, hlow, hrec, h1', h2, w, encInts, allK, c1]
        apply ih (i + 1) _ h3 <;> first | omega | simp [s0, s1, encInts]
      · simp [l200_6, r200_2, r200_3, r200_4, s0, s1, s5, hlow, hrec, h1', h2, w, encInts, allK, c1, c2]

theorem allK_ok {ft : FT} (hf : ft 200 = some (.ir f200)) {ks : List Int} {kk : Int} (hl : ks.length ≤ 1000000000) {S : Store} {δ : Nat} : C ft none (.fn 200 [] []) [encInts ks, .int .i64 kk] S δ = ans δ (.bool (allK ks kk)) := by
  rw [C_iso hf (by simp [f200]) (by simp [encInts])]
  simp [f200, r200_0, r200_1, encInts]
  apply all_loop hl ks 0 <;> simp [encInts]

theorem when_ok {ft : FT} (hf : ft 199 = some (.ir f199)) {b : Bool} {kk : Int} {S : Store} {δ : Nat} : C ft none (.fn 199 [] []) [.bool b, .int .i64 kk] S δ = ans δ (encKind (if b then (kk, 0) else (0, 10))) := by
  rw [C_iso hf (by simp [f199]) (by simp)]
  cases b <;> simp [f199, r199_0, r199_1, r199_2, r199_3, encKind]

/-- the common kind; an error if there are two -/
def commonK : List Int → Int → Int × Int
  | [], k => (k, 0)
  | x :: xs, k => if x = 0 then commonK xs k else if k ≠ 0 ∧ k ≠ x then (0, 10) else commonK xs x

theorem common_loop {ft : FT} {ks : List Int} {δ : Nat} (hl : ks.length ≤ 1000000000) : ∀ (l : List Int) (i : Nat) (kk : Int) (st : St), ks.drop i = l → i ≤ ks.length → st.σ 0 = encInts ks → st.σ 2 = .ptr 1 0 0 → st.σ 3 = .int .i64 kk → st.σ 4 = .int .i64 (i : Int) → st.S 1 0 = .cells [.int .i64 0, .int .i64 0] → st.low = 1 → st.recd = false →
    isoB δ (W ft ⟨1, false, [.cell 2 true 2], none⟩ [.inLoop l201_9, .inBlock 0, .code (.seq (.region r201_10) .ret)] [] st) = ans δ (encKind (commonK l kk)) := by
  intro l
  induction l with
  | nil =>
    intro i kk st hd hi s0 s2 s3 s4 hS hlow hrec
    have hn := drop_nil hd
    rw [W_inLoop]
    simp [l201_9, r201_3, r201_10, s0, s2, s3, s4, hS, hlow, hrec, hn, encInts, commonK, encKind]
  | cons x l ih =>
    intro i kk st hd hi s0 s2 s3 s4 hS hlow hrec
    obtain ⟨h1, h2, h3⟩ := drop_get hd
    have h1' : (i : Int) < (ks.length : Int) := by omega
    have w : IntKind.i64.wrap ((i : Int) + 1) = (i : Int) + 1 := wrap64 (by omega) (by omega)
    rw [W_inLoop]
    by_cases c1 : x = 0
    · simp [l201_9, r201_3, r201_4, r201_8, s0, s2, s3, s4, hS, hlow, hrec, h1', h2, w, encInts, commonK, c1]
      apply ih (i + 1) _ _ h3 <;> first | omega | simp [s0, s2, s3, hS, encInts]
    · by_cases c2 : kk = 0
      · simp [l201_9, r201_3, r201_4, r201_5, r201_7, r201_8, s0, s2, s3, s4, hS, hlow, hrec, h1', h2, w, encInts, commonK, c1, c2]
        apply ih (i + 1) _ _ h3 <;> first | omega | simp [s0, s2, s3, hS, encInts]
      · by_cases c3 : kk = x
        · simp [l201_9, r201_3, r201_4, r201_5, r201_7, r201_8, s0, s2, s3, s4, hS, hlow, hrec, h1', h2, w, encInts, commonK, c1, c2, c3]
          apply ih (i + 1) _ _ h3 <;> first | omega | simp [s0, s2, s3, hS, encInts]
        · simp [l201_9, r201_3, r201_4, r201_5, r201_6, s0, s2, s3, s4, hS, hlow, hrec, h1', h2, w, encInts, commonK, c1, c2, c3, encKind]

theorem common_ok {ft : FT} (hf : ft 201 = some (.ir f201)) {ks : List Int} (hl : ks.length ≤ 1000000000) {S : Store} {δ : Nat} : C ft none (.fn 201 [] []) [encInts ks] S δ = ans δ (encKind (commonK ks 0)) := by
  rw [C_iso hf (by simp [f201]) (by simp [encInts])]
  simp [f201, r201_0, r201_1, r201_2, encInts]
  apply common_loop hl ks 0 <;> simp [encInts]
end Go.Mia
/- What functions of the reference return: the kind of a node. -/
namespace Go.Mia
open Go

def whenK (b : Bool) (k : Int) : Int × Int := if b then (k, 0) else (0, 10)
/-- conditions and other operands of a case -/
def caseSplit : Bool → List Int → List Int × List Int
  | _, [] => ([], [])
  | true, [x] => ([], [x])
  | true, x :: y :: r => let p := caseSplit false (y :: r); (x :: p.1, p.2)
  | false, x :: r => let p := caseSplit true r; (p.1, x :: p.2)
/-- the kind of a node whose operands have some kinds -/
def kindK (op : Int) (l : List Int) : Int × Int :=
  if op = 4 ∨ op = 5 ∨ op = 6 ∨ op = 7 ∨ op = 8 ∨ op = 9 then whenK (allK l 2) 2
  else if op = 10 ∨ op = 11 ∨ op = 12 ∨ op = 13 ∨ op = 14 ∨ op = 15 ∨ op = 22 then whenK (decide ((commonK l 0).2 = 0)) 1
  else if op = 16 ∨ op = 17 ∨ op = 18 then whenK (allK l 1) 1
  else if op = 19 then (1, 0)
  else if op = 20 then (if allK (caseSplit true l).1 1 then commonK (caseSplit true l).2 0 else (0, 10))
  else if op = 21 then commonK l 0
  else if op = 23 ∨ op = 26 ∨ op = 27 ∨ op = 28 then whenK (allK l 3) 3
  else if op = 24 ∨ op = 29 ∨ op = 32 then whenK (allK l 3) 2
  else if op = 25 then whenK (allK (l.take 1) 3 && allK (l.drop 1) 2) 3
  else if op = 30 then whenK (allK l 3) 1
  else (3, 0)

theorem kind_other {ft : FT} (hf : ft 155 = some (.ir f155)) (h199 : ft 199 = some (.ir f199)) (h200 : ft 200 = some (.ir f200)) (h201 : ft 201 = some (.ir f201)) {op n : Int} {d : Dat} {subs : List Ex} {ks : List Int} (hl : ks.length ≤ 1000000000) (h20 : op ≠ 20) (h25 : op = 25 → 1 ≤ ks.length) {S : Store} {δ : Nat} :
    C ft none (.fn 155 [] []) [(Ex.mk op n d subs).enc, encInts ks] S δ = ans δ (encKind (kindK op ks)) := by
  have ha := fun kk S δ => allK_ok h200 (ks := ks) (kk := kk) hl (S := S) (δ := δ)
  have hc := fun S δ => common_ok h201 (ks := ks) hl (S := S) (δ := δ)
  have hw := fun b kk S δ => when_ok h199 (b := b) (kk := kk) (S := S) (δ := δ)
  have ha1 := fun kk S δ => allK_ok h200 (ks := ks.take 1) (kk := kk) (by simp; omega) (S := S) (δ := δ)
  have ha2 := fun kk S δ => allK_ok h200 (ks := ks.drop 1) (kk := kk) (by simp; omega) (S := S) (δ := δ)
  simp only [encInts] at ha hc
  simp [encInts] at ha1 ha2
  rw [C_iso hf (by simp [f155]) (by simp [encInts])]
  by_cases h1 : op = 1
  · subst h1
    simp [Ex.enc_mk, encInts, f155, r155_0, r155_1, r155_2, r155_3, r155_4, r155_5, r155_6, r155_7, r155_8, r155_9, r155_10, r155_11, r155_12, r155_13, r155_14, r155_15, r155_16, r155_17, r155_18, r155_19, r155_20, r155_21, r155_22, r155_23, r155_36, r155_37, r155_38, r155_39, r155_40, r155_41, r155_42, r155_43, r155_44, r155_45, r155_46, r155_47, r155_48, r155_49, r155_50, r155_51, kindK, whenK, ha, hc, hw, encKind]
  by_cases h2 : op = 2
  · subst h2
    simp [Ex.enc_mk, encInts, f155, r155_0, r155_1, r155_2, r155_3, r155_4, r155_5, r155_6, r155_7, r155_8, r155_9, r155_10, r155_11, r155_12, r155_13, r155_14, r155_15, r155_16, r155_17, r155_18, r155_19, r155_20, r155_21, r155_22, r155_23, r155_36, r155_37, r155_38, r155_39, r155_40, r155_41, r155_42, r155_43, r155_44, r155_45, r155_46, r155_47, r155_48, r155_49, r155_50, r155_51, kindK, whenK, ha, hc, hw, encKind]
  by_cases h3 : op = 3
  · subst h3
    simp [Ex.enc_mk, encInts, f155, r155_0, r155_1, r155_2, r155_3, r155_4, r155_5, r155_6, r155_7, r155_8, r155_9, r155_10, r155_11, r155_12, r155_13, r155_14, r155_15, r155_16, r155_17, r155_18, r155_19, r155_20, r155_21, r155_22, r155_23, r155_36, r155_37, r155_38, r155_39, r155_40, r155_41, r155_42, r155_43, r155_44, r155_45, r155_46, r155_47, r155_48, r155_49, r155_50, r155_51, kindK, whenK, ha, hc, hw, encKind]
  by_cases h4 : op = 4
  · subst h4
    simp [Ex.enc_mk, encInts, f155, r155_0, r155_1, r155_2, r155_3, r155_4, r155_5, r155_6, r155_7, r155_8, r155_9, r155_10, r155_11, r155_12, r155_13, r155_14, r155_15, r155_16, r155_17, r155_18, r155_19, r155_20, r155_21, r155_22, r155_23, r155_36, r155_37, r155_38, r155_39, r155_40, r155_41, r155_42, r155_43, r155_44, r155_45, r155_46, r155_47, r155_48, r155_49, r155_50, r155_51, kindK, whenK, ha, hc, hw, encKind]
  by_cases h5 : op = 5
  · subst h5
    simp [Ex.enc_mk, encInts, f155, r155_0, r155_1, r155_2, r155_3, r155_4, r155_5, r155_6, r155_7, r155_8, r155_9, r155_10, r155_11, r155_12, r155_13, r155_14, r155_15, r155_16, r155_17, r155_18, r155_19, r155_20, r155_21, r155_22, r155_23, r155_36, r155_37, r155_38, r155_39, r155_40, r155_41, r155_42, r155_43, r155_44, r155_45, r155_46, r155_47, r155_48, r155_49, r155_50, r155_51, kindK, whenK, ha, hc, hw, encKind]
  by_cases h6 : op = 6
  · subst h6
    simp [Ex.enc_mk, encInts, f155, r155_0, r155_1, r155_2, r155_3, r155_4, r155_5, r155_6, r155_7, r155_8, r155_9, r155_10, r155_11, r155_12, r155_13, r155_14, r155_15, r155_16, r155_17, r155_18, r155_19, r155_20, r155_21, r155_22, r155_23, r155_36, r155_37, r155_38, r155_39, r155_40, r155_41, r155_42, r155_43, r155_44, r155_45, r155_46, r155_47, r155_48, r155_49, r155_50, r155_51, kindK, whenK, ha, hc, hw, encKind]
  by_cases h7 : op = 7
  · subst h7
    simp [Ex.enc_mk, encInts, f155, r155_0, r155_1, r155_2, r155_3, r155_4, r155_5, r155_6, r155_7, r155_8, r155_9, r155_10, r155_11, r155_12, r155_13, r155_14, r155_15, r155_16, r155_17, r155_18, r155_19, r155_20, r155_21, r155_22, r155_23, r155_36, r155_37, r155_38, r155_39, r155_40, r155_41, r155_42, r155_43, r155_44, r155_45, r155_46, r155_47, r155_48, r155_49, r155_50, r155_51, kindK, whenK, ha, hc, hw, encKind]
  by_cases h8 : op = 8
  · subst h8
    simp [Ex.enc_mk, encInts, f155, r155_0, r155_1, r155_2, r155_3, r155_4, r155_5, r155_6, r155_7, r155_8, r155_9, r155_10, r155_11, r155_12, r155_13, r155_14, r155_15, r155_16, r155_17, r155_18, r155_19, r155_20, r155_21, r155_22, r155_23, r155_36, r155_37, r155_38, r155_39, r155_40, r155_41, r155_42, r155_43, r155_44, r155_45, r155_46, r155_47, r155_48, r155_49, r155_50, r155_51, kindK, whenK, ha, hc, hw, encKind]
  by_cases h9 : op = 9
  · subst h9
    simp [Ex.enc_mk, encInts, f155, r155_0, r155_1, r155_2, r155_3, r155_4, r155_5, r155_6, r155_7, r155_8, r155_9, r155_10, r155_11, r155_12, r155_13, r155_14, r155_15, r155_16, r155_17, r155_18, r155_19, r155_20, r155_21, r155_22, r155_23, r155_36, r155_37, r155_38, r155_39, r155_40, r155_41, r155_42, r155_43, r155_44, r155_45, r155_46, r155_47, r155_48, r155_49, r155_50, r155_51, kindK, whenK, ha, hc, hw, encKind]
  by_cases h10 : op = 10
  · subst h10
    simp [Ex.enc_mk, encInts, f155, r155_0, r155_1, r155_2, r155_3, r155_4, r155_5, r155_6, r155_7, r155_8, r155_9, r155_10, r155_11, r155_12, r155_13, r155_14, r155_15, r155_16, r155_17, r155_18, r155_19, r155_20, r155_21, r155_22, r155_23, r155_36, r155_37, r155_38, r155_39, r155_40, r155_41, r155_42, r155_43, r155_44, r155_45, r155_46, r155_47, r155_48, r155_49, r155_50, r155_51, kindK, whenK, ha, hc, hw, encKind]
  by_cases h11 : op = 11
  · subst h11
    simp [Ex.enc_mk, encInts, f155, r155_0, r155_1, r155_2, r155_3, r155_4, r155_5, r155_6, r155_7, r155_8, r155_9, r155_10, r155_11, r155_12, r155_13, r155_14, r155_15, r155_16, r155_17, r155_18, r155_19, r155_20, r155_21, r155_22, r155_23, r155_36, r155_37, r155_38, r155_39, r155_40, r155_41, r155_42, r155_43, r155_44, r155_45, r155_46, r155_47, r155_48, r155_49, r155_50, r155_51, kindK, whenK, ha, hc, hw, encKind]
  by_cases h12 : op = 12
  · subst h12
    simp [Ex.enc_mk, encInts, f155, r155_0, r155_1, r155_2, r155_3, r155_4, r155_5, r155_6, r155_7, r155_8, r155_9, r155_10, r155_11, r155_12, r155_13, r155_14, r155_15, r155_16, r155_17, r155_18, r155_19, r155_20, r155_21, r155_22, r155_23, r155_36, r155_37, r155_38, r155_39, r155_40, r155_41, r155_42, r155_43, r155_44, r155_45, r155_46, r155_47, r155_48, r155_49, r155_50, r155_51, kindK, whenK, ha, hc, hw, encKind]
  by_cases h13 : op = 13
  · subst h13
    simp [Ex.enc_mk, encInts, f155, r155_0, r155_1, r155_2, r155_3, r155_4, r155_5, r155_6, r155_7, r155_8, r155_9, r155_10, r155_11, r155_12, r155_13, r155_14, r155_15, r155_16, r155_17, r155_18, r155_19, r155_20, r155_21, r155_22, r155_23, r155_36, r155_37, r155_38, r155_39, r155_40, r155_41, r155_42, r155_43, r155_44, r155_45, r155_46, r155_47, r155_48, r155_49, r155_50, r155_51, kindK, whenK, ha, hc, hw, encKind]
  by_cases h14 : op = 14
  · subst h14
    simp [Ex.enc_mk, encInts, f155, r155_0, r155_1, r155_2, r155_3, r155_4, r155_5, r155_6, r155_7, r155_8, r155_9, r155_10, r155_11, r155_12, r155_13, r155_14, r155_15, r155_16, r155_17, r155_18, r155_19, r155_20, r155_21, r155_22, r155_23, r155_36, r155_37, r155_38, r155_39, r155_40, r155_41, r155_42, r155_43, r155_44, r155_45, r155_46, r155_47, r155_48, r155_49, r155_50, r155_51, kindK, whenK, ha, hc, hw, encKind]
  by_cases h15 : op = 15
  · subst h15
    simp [Ex.enc_mk, encInts, f155, r155_0, r155_1, r155_2, r155_3, r155_4, r155_5, r155_6, r155_7, r155_8, r155_9, r155_10, r155_11, r155_12, r155_13, r155_14, r155_15, r155_16, r155_17, r155_18, r155_19, r155_20, r155_21, r155_22, r155_23, r155_36, r155_37, r155_38, r155_39, r155_40, r155_41, r155_42, r155_43, r155_44, r155_45, r155_46, r155_47, r155_48, r155_49, r155_50, r155_51, kindK, whenK, ha, hc, hw, encKind]
  by_cases h16 : op = 16
  · subst h16
    simp [Ex.enc_mk, encInts, f155, r155_0, r155_1, r155_2, r155_3, r155_4, r155_5, r155_6, r155_7, r155_8, r155_9, r155_10, r155_11, r155_12, r155_13, r155_14, r155_15, r155_16, r155_17, r155_18, r155_19, r155_20, r155_21, r155_22, r155_23, r155_36, r155_37, r155_38, r155_39, r155_40, r155_41, r155_42, r155_43, r155_44, r155_45, r155_46, r155_47, r155_48, r155_49, r155_50, r155_51, kindK, whenK, ha, hc, hw, encKind]
  by_cases h17 : op = 17
  · subst h17
    simp [Ex.enc_mk, encInts, f155, r155_0, r155_1, r155_2, r155_3, r155_4, r155_5, r155_6, r155_7, r155_8, r155_9, r155_10, r155_11, r155_12, r155_13, r155_14, r155_15, r155_16, r155_17, r155_18, r155_19, r155_20, r155_21, r155_22, r155_23, r155_36, r155_37, r155_38, r155_39, r155_40, r155_41, r155_42, r155_43, r155_44, r155_45, r155_46, r155_47, r155_48, r155_49, r155_50, r155_51, kindK, whenK, ha, hc, hw, encKind]
  by_cases h18 : op = 18
  · subst h18
    simp [Ex.enc_mk, encInts, f155, r155_0, r155_1, r155_2, r155_3, r155_4, r155_5, r155_6, r155_7, r155_8, r155_9, r155_10, r155_11, r155_12, r155_13, r155_14, r155_15, r155_16, r155_17, r155_18, r155_19, r155_20, r155_21, r155_22, r155_23, r155_36, r155_37, r155_38, r155_39, r155_40, r155_41, r155_42, r155_43, r155_44, r155_45, r155_46, r155_47, r155_48, r155_49, r155_50, r155_51, kindK, whenK, ha, hc, hw, encKind]
  by_cases h19 : op = 19
  · subst h19
    simp [Ex.enc_mk, encInts, f155, r155_0, r155_1, r155_2, r155_3, r155_4, r155_5, r155_6, r155_7, r155_8, r155_9, r155_10, r155_11, r155_12, r155_13, r155_14, r155_15, r155_16, r155_17, r155_18, r155_19, r155_20, r155_21, r155_22, r155_23, r155_36, r155_37, r155_38, r155_39, r155_40, r155_41, r155_42, r155_43, r155_44, r155_45, r155_46, r155_47, r155_48, r155_49, r155_50, r155_51, kindK, whenK, ha, hc, hw, encKind]
  by_cases h21 : op = 21
  · subst h21
    simp [Ex.enc_mk, encInts, f155, r155_0, r155_1, r155_2, r155_3, r155_4, r155_5, r155_6, r155_7, r155_8, r155_9, r155_10, r155_11, r155_12, r155_13, r155_14, r155_15, r155_16, r155_17, r155_18, r155_19, r155_20, r155_21, r155_22, r155_23, r155_36, r155_37, r155_38, r155_39, r155_40, r155_41, r155_42, r155_43, r155_44, r155_45, r155_46, r155_47, r155_48, r155_49, r155_50, r155_51, kindK, whenK, ha, hc, hw, encKind]
  by_cases h22 : op = 22
  · subst h22
    simp [Ex.enc_mk, encInts, f155, r155_0, r155_1, r155_2, r155_3, r155_4, r155_5, r155_6, r155_7, r155_8, r155_9, r155_10, r155_11, r155_12, r155_13, r155_14, r155_15, r155_16, r155_17, r155_18, r155_19, r155_20, r155_21, r155_22, r155_23, r155_36, r155_37, r155_38, r155_39, r155_40, r155_41, r155_42, r155_43, r155_44, r155_45, r155_46, r155_47, r155_48, r155_49, r155_50, r155_51, kindK, whenK, ha, hc, hw, encKind]
  by_cases h23 : op = 23
  · subst h23
    simp [Ex.enc_mk, encInts, f155, r155_0, r155_1, r155_2, r155_3, r155_4, r155_5, r155_6, r155_7, r155_8, r155_9, r155_10, r155_11, r155_12, r155_13, r155_14, r155_15, r155_16, r155_17, r155_18, r155_19, r155_20, r155_21, r155_22, r155_23, r155_36, r155_37, r155_38, r155_39, r155_40, r155_41, r155_42, r155_43, r155_44, r155_45, r155_46, r155_47, r155_48, r155_49, r155_50, r155_51, kindK, whenK, ha, hc, hw, encKind]
  by_cases h24 : op = 24
  · subst h24
    simp [Ex.enc_mk, encInts, f155, r155_0, r155_1, r155_2, r155_3, r155_4, r155_5, r155_6, r155_7, r155_8, r155_9, r155_10, r155_11, r155_12, r155_13, r155_14, r155_15, r155_16, r155_17, r155_18, r155_19, r155_20, r155_21, r155_22, r155_23, r155_36, r155_37, r155_38, r155_39, r155_40, r155_41, r155_42, r155_43, r155_44, r155_45, r155_46, r155_47, r155_48, r155_49, r155_50, r155_51, kindK, whenK, ha, hc, hw, encKind]
  by_cases h25 : op = 25
  · subst h25
    have hk1 := h25 rfl
    have htk : List.take ks.length (List.map (D.int .i64) ks) = List.map (D.int .i64) ks := List.take_of_length_le (by simp)
    cases hb : allK (ks.take 1) 3 <;> simp [Ex.enc_mk, encInts, f155, r155_0, r155_1, r155_2, r155_3, r155_4, r155_5, r155_6, r155_7, r155_8, r155_9, r155_10, r155_11, r155_12, r155_13, r155_14, r155_15, r155_16, r155_17, r155_18, r155_19, r155_20, r155_21, r155_22, r155_23, r155_36, r155_37, r155_38, r155_39, r155_40, r155_41, r155_42, r155_43, r155_44, r155_45, r155_46, r155_47, r155_48, r155_49, r155_50, r155_51, kindK, whenK, ha, hc, hw, ha1, ha2, encKind, hb, hk1, htk]
  by_cases h26 : op = 26
  · subst h26
    simp [Ex.enc_mk, encInts, f155, r155_0, r155_1, r155_2, r155_3, r155_4, r155_5, r155_6, r155_7, r155_8, r155_9, r155_10, r155_11, r155_12, r155_13, r155_14, r155_15, r155_16, r155_17, r155_18, r155_19, r155_20, r155_21, r155_22, r155_23, r155_36, r155_37, r155_38, r155_39, r155_40, r155_41, r155_42, r155_43, r155_44, r155_45, r155_46, r155_47, r155_48, r155_49, r155_50, r155_51, kindK, whenK, ha, hc, hw, encKind]
  by_cases h27 : op = 27
  · subst h27
    simp [Ex.enc_mk, encInts, f155, r155_0, r155_1, r155_2, r155_3, r155_4, r155_5, r155_6, r155_7, r155_8, r155_9, r155_10, r155_11, r155_12, r155_13, r155_14, r155_15, r155_16, r155_17, r155_18, r155_19, r155_20, r155_21, r155_22, r155_23, r155_36, r155_37, r155_38, r155_39, r155_40, r155_41, r155_42, r155_43, r155_44, r155_45, r155_46, r155_47, r155_48, r155_49, r155_50, r155_51, kindK, whenK, ha, hc, hw, encKind]
  by_cases h28 : op = 28
  · subst h28
    simp [Ex.enc_mk, encInts, f155, r155_0, r155_1, r155_2, r155_3, r155_4, r155_5, r155_6, r155_7, r155_8, r155_9, r155_10, r155_11, r155_12, r155_13, r155_14, r155_15, r155_16, r155_17, r155_18, r155_19, r155_20, r155_21, r155_22, r155_23, r155_36, r155_37, r155_38, r155_39, r155_40, r155_41, r155_42, r155_43, r155_44, r155_45, r155_46, r155_47, r155_48, r155_49, r155_50, r155_51, kindK, whenK, ha, hc, hw, encKind]
  by_cases h29 : op = 29
  · subst h29
    simp [Ex.enc_mk, encInts, f155, r155_0, r155_1, r155_2, r155_3, r155_4, r155_5, r155_6, r155_7, r155_8, r155_9, r155_10, r155_11, r155_12, r155_13, r155_14, r155_15, r155_16, r155_17, r155_18, r155_19, r155_20, r155_21, r155_22, r155_23, r155_36, r155_37, r155_38, r155_39, r155_40, r155_41, r155_42, r155_43, r155_44, r155_45, r155_46, r155_47, r155_48, r155_49, r155_50, r155_51, kindK, whenK, ha, hc, hw, encKind]
  by_cases h30 : op = 30
  · subst h30
    simp [Ex.enc_mk, encInts, f155, r155_0, r155_1, r155_2, r155_3, r155_4, r155_5, r155_6, r155_7, r155_8, r155_9, r155_10, r155_11, r155_12, r155_13, r155_14, r155_15, r155_16, r155_17, r155_18, r155_19, r155_20, r155_21, r155_22, r155_23, r155_36, r155_37, r155_38, r155_39, r155_40, r155_41, r155_42, r155_43, r155_44, r155_45, r155_46, r155_47, r155_48, r155_49, r155_50, r155_51, kindK, whenK, ha, hc, hw, encKind]
  by_cases h31 : op = 31
  · subst h31
    simp [Ex.enc_mk, encInts, f155, r155_0, r155_1, r155_2, r155_3, r155_4, r155_5, r155_6, r155_7, r155_8, r155_9, r155_10, r155_11, r155_12, r155_13, r155_14, r155_15, r155_16, r155_17, r155_18, r155_19, r155_20, r155_21, r155_22, r155_23, r155_36, r155_37, r155_38, r155_39, r155_40, r155_41, r155_42, r155_43, r155_44, r155_45, r155_46, r155_47, r155_48, r155_49, r155_50, r155_51, kindK, whenK, ha, hc, hw, encKind]
  by_cases h32 : op = 32
  · subst h32
    simp [Ex.enc_mk, encInts, f155, r155_0, r155_1, r155_2, r155_3, r155_4, r155_5, r155_6, r155_7, r155_8, r155_9, r155_10, r155_11, r155_12, r155_13, r155_14, r155_15, r155_16, r155_17, r155_18, r155_19, r155_20, r155_21, r155_22, r155_23, r155_36, r155_37, r155_38, r155_39, r155_40, r155_41, r155_42, r155_43, r155_44, r155_45, r155_46, r155_47, r155_48, r155_49, r155_50, r155_51, kindK, whenK, ha, hc, hw, encKind]
  simp [Ex.enc_mk, encInts, f155, r155_0, r155_1, r155_2, r155_3, r155_4, r155_5, r155_6, r155_7, r155_8, r155_9, r155_10, r155_11, r155_12, r155_13, r155_14, r155_15, r155_16, r155_17, r155_18, r155_19, r155_20, r155_21, r155_22, r155_23, r155_36, r155_37, r155_38, r155_39, r155_40, r155_41, r155_42, r155_43, r155_44, r155_45, r155_46, r155_47, r155_48, r155_49, r155_50, r155_51, kindK, whenK, encKind, h20, h1, h2, h3, h4, h5, h6, h7, h8, h9, h10, h11, h12, h13, h14, h15, h16, h17, h18, h19, h21, h22, h23, h24, h25, h26, h27, h28, h29, h30, h31, h32]
end Go.Mia
/- What functions of the reference return: the kind of a case. -/
namespace Go.Mia
open Go

/-- the right behind a list that grows -/
def TkOk (st : St) (tk : Tk) (n : Nat) : Prop := (tk = .full ∧ n = 0) ∨ ∃ u, tk = .tok u ∧ st.live u = true ∧ u < st.nt

theorem TkOk.other {st st' : St} {tk : Tk} {n : Nat} (h : TkOk st tk n) (hl : ∀ u, tk = .tok u → st.live u = true → u < st.nt → st'.live u = true) (hn : st.nt ≤ st'.nt) : TkOk st' tk n := by
  rcases h with h | ⟨u, e, hv, hlt⟩
  · exact .inl h
  · exact .inr ⟨u, e, hl u e hv hlt, by omega⟩

theorem case_loop {ft : FT} {ks CF OF : List Int} {δ : Nat} {K : List Item} {X : Option Ret} {So : Store} {p : D} (hl : ks.length ≤ 1000000000)
    (hK : ∀ st : St, (∃ tk5 tk6, st.σ 5 = .slice tk5 1 (CF.map (D.int .i64)) ∧ st.σ 6 = .slice tk6 1 (OF.map (D.int .i64))) → st.σ 4 = p → st.S = So → st.low = 1 → st.recd = false → isoB δ (W ft ⟨1, false, [.cell 4 true 2], none⟩ K [] st) = X) :
    ∀ (l : List Int) (i : Nat) (c o : List Int) (tk5 tk6 : Tk) (st : St), ks.drop i = l → i ≤ ks.length → c.length ≤ i → o.length ≤ i → c ++ (caseSplit (decide (i % 2 = 0)) l).1 = CF → o ++ (caseSplit (decide (i % 2 = 0)) l).2 = OF →
      TkOk st tk5 c.length → TkOk st tk6 o.length → (∀ u, tk5 = .tok u → tk6 ≠ .tok u) → st.σ 1 = encInts ks → st.σ 4 = p → st.σ 5 = .slice tk5 1 (c.map (D.int .i64)) → st.σ 6 = .slice tk6 1 (o.map (D.int .i64)) → st.σ 7 = .int .i64 (i : Int) → st.S = So → st.low = 1 → st.recd = false →
      isoB δ (W ft ⟨1, false, [.cell 4 true 2], none⟩ (.inLoop l155_32 :: .inBlock 1 :: K) [] st) = X := by
  intro l
  induction l with
  | nil =>
    intro i c o tk5 tk6 st hd hi hci hoi hC hO g5 g6 hne s1 s4 s5 s6 s7 hS hlow hrec
    have hn := drop_nil hd
    rw [W_inLoop]
    simp [l155_32, r155_27, s1, s7, hlow, hrec, hn, encInts]
    simp [caseSplit] at hC hO
    subst hC hO
    exact hK _ ⟨tk5, tk6, by simp [s5], by simp [s6]⟩ (by simp [s4]) (by simp [hS]) (by simp [hlow]) (by simp [hrec])
  | cons x l ih =>
    intro i c o tk5 tk6 st hd hi hci hoi hC hO g5 g6 hne s1 s4 s5 s6 s7 hS hlow hrec
    obtain ⟨h1, h2, h3⟩ := drop_get hd
    have h1' : (i : Int) < (ks.length : Int) := by omega
    have w : IntKind.i64.wrap ((i : Int) + 1) = (i : Int) + 1 := wrap64 (by omega) (by omega)
    have hlc : (c.length + 1) * 8 ≤ LIM := by unfold LIM; omega
    have hlo : (o.length + 1) * 8 ≤ LIM := by unfold LIM; omega
    have hlen : l.length = ks.length - (i + 1) := by rw [← h3]; simp
    rw [W_inLoop]
    have ht : (i : Int).tmod 2 = ((i % 2 : Nat) : Int) := by rw [Int.tmod_eq_emod_of_nonneg (by omega)]; omega
    by_cases he : i % 2 = 0
    · have he' : ((i : Int).tmod 2 = 0) = True := by rw [ht, he]; simp
      have he1 : ¬ ((i + 1) % 2 = 0) := by omega
      by_cases hlast : i + 1 < ks.length
      · have hlast' : (i : Int) + 1 < (ks.length : Int) := by omega
        obtain ⟨y, r, rfl⟩ : ∃ y r, l = y :: r := by
          cases l with
          | nil => simp at hlen; omega
          | cons y r => exact ⟨y, r, rfl⟩
        simp only [he, decide_true, caseSplit] at hC hO
        rcases g5 with ⟨rfl, hz⟩ | ⟨u, rfl, hlv, hlt⟩
        · simp [l155_32, r155_27, r155_28, r155_29, r155_31, s1, s4, s5, s6, s7, hlow, hrec, h1', h2, w, encInts, he', hlast', hlc]
          refine ih (i + 1) (c ++ [x]) o (.tok (st.nt + 4 + 10 + 6)) tk6 _ h3 (by omega) (by simp; omega) (by omega) ?_ ?_ ?_ ?_ ?_ ?_ ?_ ?_ ?_ ?_ ?_ ?_ ?_
          · simp only [he1, decide_false]; simpa [caseSplit] using hC
          · simp only [he1, decide_false]; simpa [caseSplit] using hO
          · exact .inr ⟨_, rfl, by simp [upd], by first | (simp; done) | (simp; omega)⟩
          · exact g6.other (fun u' e hv hlt' => by simp [upd, hv]) (by simp; omega)
          · intro v hv e; injection hv with hv; rcases g6 with ⟨e6, _⟩ | ⟨u6, e6, _, hl6⟩
            · rw [e6] at e; cases e
            · rw [e6] at e; injection e with e; omega
          · simp [s1]
          · simp [s4]
          · simp [s5]
          · simp [s6]
          · simp
          · simp [hS]
          · simp
          · simp
        · simp [l155_32, r155_27, r155_28, r155_29, r155_31, s1, s4, s5, s6, s7, hlow, hrec, h1', h2, w, encInts, he', hlast', hlc, hlv]
          refine ih (i + 1) (c ++ [x]) o (.tok (st.nt + 4 + 10 + 6)) tk6 _ h3 (by omega) (by simp; omega) (by omega) ?_ ?_ ?_ ?_ ?_ ?_ ?_ ?_ ?_ ?_ ?_ ?_ ?_
          · simp only [he1, decide_false]; simpa [caseSplit] using hC
          · simp only [he1, decide_false]; simpa [caseSplit] using hO
          · exact .inr ⟨_, rfl, by simp [upd], by first | (simp; done) | (simp; omega)⟩
          · exact g6.other (fun u' e hv hlt' => by have h1 : ¬ u' = u := fun h => hne u rfl (h ▸ e); simp [upd, h1, hv]) (by simp; omega)
          · intro v hv e; injection hv with hv; rcases g6 with ⟨e6, _⟩ | ⟨u6, e6, _, hl6⟩
            · rw [e6] at e; cases e
            · rw [e6] at e; injection e with e; omega
          · simp [s1]
          · simp [s4]
          · simp [s5]
          · simp [s6]
          · simp
          · simp [hS]
          · simp
          · simp
      · have hlast' : ¬ (i : Int) + 1 < (ks.length : Int) := by omega
        obtain rfl : l = [] := by
          cases l with
          | nil => rfl
          | cons y r => simp at hlen; omega
        simp only [he, decide_true, caseSplit] at hC hO
        rcases g6 with ⟨rfl, hz⟩ | ⟨u, rfl, hlv, hlt⟩
        · simp [l155_32, r155_27, r155_28, r155_30, r155_31, s1, s4, s5, s6, s7, hlow, hrec, h1', h2, w, encInts, he', hlast', hlo]
          refine ih (i + 1) c (o ++ [x]) tk5 (.tok (st.nt + 4 + 10 + 6)) _ h3 (by omega) (by omega) (by simp; omega) ?_ ?_ ?_ ?_ ?_ ?_ ?_ ?_ ?_ ?_ ?_ ?_ ?_
          · simpa [caseSplit] using hC
          · simpa [caseSplit] using hO
          · exact g5.other (fun u' e hv hlt' => by simp [upd, hv]) (by simp; omega)
          · exact .inr ⟨_, rfl, by simp [upd], by first | (simp; done) | (simp; omega)⟩
          · intro v hv e; injection e with e; rcases g5 with ⟨e5, _⟩ | ⟨u5, e5, _, hl5⟩
            · rw [e5] at hv; cases hv
            · rw [e5] at hv; injection hv with hv; omega
          · simp [s1]
          · simp [s4]
          · simp [s5]
          · simp [s6]
          · simp
          · simp [hS]
          · simp
          · simp
        · simp [l155_32, r155_27, r155_28, r155_30, r155_31, s1, s4, s5, s6, s7, hlow, hrec, h1', h2, w, encInts, he', hlast', hlo, hlv]
          refine ih (i + 1) c (o ++ [x]) tk5 (.tok (st.nt + 4 + 10 + 6)) _ h3 (by omega) (by omega) (by simp; omega) ?_ ?_ ?_ ?_ ?_ ?_ ?_ ?_ ?_ ?_ ?_ ?_ ?_
          · simpa [caseSplit] using hC
          · simpa [caseSplit] using hO
          · exact g5.other (fun u' e hv hlt' => by have h1 : ¬ u' = u := fun h => hne u' e (h ▸ rfl); simp [upd, h1, hv]) (by simp; omega)
          · exact .inr ⟨_, rfl, by simp [upd], by first | (simp; done) | (simp; omega)⟩
          · intro v hv e; injection e with e; rcases g5 with ⟨e5, _⟩ | ⟨u5, e5, _, hl5⟩
            · rw [e5] at hv; cases hv
            · rw [e5] at hv; injection hv with hv; omega
          · simp [s1]
          · simp [s4]
          · simp [s5]
          · simp [s6]
          · simp
          · simp [hS]
          · simp
          · simp
    · have he' : ((i : Int).tmod 2 = 0) = False := by rw [ht]; simp; omega
      have he1 : (i + 1) % 2 = 0 := by omega
      simp only [he, decide_false, caseSplit] at hC hO
      rcases g6 with ⟨rfl, hz⟩ | ⟨u, rfl, hlv, hlt⟩
      · simp [l155_32, r155_27, r155_28, r155_30, r155_31, s1, s4, s5, s6, s7, hlow, hrec, h1', h2, w, encInts, he', hlo]
        refine ih (i + 1) c (o ++ [x]) tk5 (.tok (st.nt + 4 + 10 + 6)) _ h3 (by omega) (by omega) (by simp; omega) ?_ ?_ ?_ ?_ ?_ ?_ ?_ ?_ ?_ ?_ ?_ ?_ ?_
        · simp only [he1, decide_true]; exact hC
        · simp only [he1, decide_true]; simpa using hO
        · exact g5.other (fun u' e hv hlt' => by simp [upd, hv]) (by simp; omega)
        · exact .inr ⟨_, rfl, by simp [upd], by first | (simp; done) | (simp; omega)⟩
        · intro v hv e; injection e with e; rcases g5 with ⟨e5, _⟩ | ⟨u5, e5, _, hl5⟩
          · rw [e5] at hv; cases hv
          · rw [e5] at hv; injection hv with hv; omega
        · simp [s1]
        · simp [s4]
        · simp [s5]
        · simp [s6]
        · simp
        · simp [hS]
        · simp
        · simp
      · simp [l155_32, r155_27, r155_28, r155_30, r155_31, s1, s4, s5, s6, s7, hlow, hrec, h1', h2, w, encInts, he', hlo, hlv]
        refine ih (i + 1) c (o ++ [x]) tk5 (.tok (st.nt + 4 + 10 + 6)) _ h3 (by omega) (by omega) (by simp; omega) ?_ ?_ ?_ ?_ ?_ ?_ ?_ ?_ ?_ ?_ ?_ ?_ ?_
        · simp only [he1, decide_true]; exact hC
        · simp only [he1, decide_true]; simpa using hO
        · exact g5.other (fun u' e hv hlt' => by have h1 : ¬ u' = u := fun h => hne u' e (h ▸ rfl); simp [upd, h1, hv]) (by simp; omega)
        · exact .inr ⟨_, rfl, by simp [upd], by first | (simp; done) | (simp; omega)⟩
        · intro v hv e; injection e with e; rcases g5 with ⟨e5, _⟩ | ⟨u5, e5, _, hl5⟩
          · rw [e5] at hv; cases hv
          · rw [e5] at hv; injection hv with hv; omega
        · simp [s1]
        · simp [s4]
        · simp [s5]
        · simp [s6]
        · simp
        · simp [hS]
        · simp
        · simp

theorem caseSplit_len : ∀ (b : Bool) (l : List Int), (caseSplit b l).1.length ≤ l.length ∧ (caseSplit b l).2.length ≤ l.length
  | _, [] => by simp [caseSplit]
  | true, [x] => by simp [caseSplit]
  | true, x :: y :: r => by
    have := caseSplit_len false (y :: r)
    simp only [caseSplit, List.length_cons] at this ⊢
    omega
  | false, x :: r => by
    have := caseSplit_len true r
    simp only [caseSplit, List.length_cons] at this ⊢
    omega

theorem kind_case {ft : FT} (hf : ft 155 = some (.ir f155)) (h200 : ft 200 = some (.ir f200)) (h201 : ft 201 = some (.ir f201)) {n : Int} {d : Dat} {subs : List Ex} {ks : List Int} (hl : ks.length ≤ 1000000000) {S : Store} {δ : Nat} :
    C ft none (.fn 155 [] []) [(Ex.mk 20 n d subs).enc, encInts ks] S δ = ans δ (encKind (kindK 20 ks)) := by
  have hsl := caseSplit_len true ks
  have ha := fun kk S δ => allK_ok h200 (ks := (caseSplit true ks).1) (kk := kk) (by omega) (S := S) (δ := δ)
  have hc := fun S δ => common_ok h201 (ks := (caseSplit true ks).2) (by omega) (S := S) (δ := δ)
  simp only [encInts] at ha hc
  rw [C_iso hf (by simp [f155]) (by simp [encInts])]
  simp [Ex.enc_mk, encInts, f155, r155_0, r155_1, r155_2, r155_3, r155_4, r155_5, r155_6, r155_7, r155_8, r155_9, r155_10, r155_11, r155_12, r155_13, r155_14, r155_15, r155_16, r155_17, r155_18, r155_19, r155_20, r155_21, r155_22, r155_23, r155_36, r155_37, r155_38, r155_39, r155_40, r155_41, r155_42, r155_43, r155_44, r155_45, r155_46, r155_47, r155_48, r155_49, r155_50, r155_51, r155_24, r155_25, r155_26]
  refine case_loop (p := .ptr 1 1 0) (ks := ks) (CF := (caseSplit true ks).1) (OF := (caseSplit true ks).2) hl ?_ ks 0 [] [] .full .full _ rfl (by omega) (by simp) (by simp) (by simp) (by simp) (.inl ⟨rfl, rfl⟩) (.inl ⟨rfl, rfl⟩) (by simp) ?_ ?_ ?_ ?_ ?_ rfl ?_ ?_
  · rintro st ⟨tk5, tk6, s5, s6⟩ s4 hS hlow hrec
    cases hb : allK (caseSplit true ks).1 1 <;> simp [r155_33, r155_34, r155_35, s4, s5, s6, hS, hlow, hrec, ha, hc, hb, kindK, encKind]
  all_goals simp [encInts]

theorem kind_ok {ft : FT} (hf : ft 155 = some (.ir f155)) (h199 : ft 199 = some (.ir f199)) (h200 : ft 200 = some (.ir f200)) (h201 : ft 201 = some (.ir f201)) {op n : Int} {d : Dat} {subs : List Ex} {ks : List Int} (hl : ks.length ≤ 1000000000) (h25 : op = 25 → 1 ≤ ks.length) {S : Store} {δ : Nat} :
    C ft none (.fn 155 [] []) [(Ex.mk op n d subs).enc, encInts ks] S δ = ans δ (encKind (kindK op ks)) := by
  by_cases h20 : op = 20
  · subst h20; exact kind_case hf h200 h201 hl
  · exact kind_other hf h199 h200 h201 hl h20 h25
end Go.Mia
/- What functions of the reference return: Kinds. -/
namespace Go.Mia
open Go

mutual
/-- the kind of an expression -/
def Ex.kinds (ks ps : List Int) : Ex → Int × Int
  | .mk op n d subs =>
    if op = 1 then (d.k, 0)
    else if op = 2 then (if (ks.length : Int) ≤ n then (0, 4) else (ks.getD n.toNat 0, 0))
    else if op = 3 then (if (ps.length : Int) ≤ n then (0, 4) else (ps.getD n.toNat 0, 0))
    else match kindsL ks ps subs with
      | .inl x => x
      | .inr l => kindK op l
def kindsL (ks ps : List Int) : List Ex → (Int × Int) ⊕ List Int
  | [] => .inr []
  | e :: es => if (e.kinds ks ps).2 ≠ 0 then .inl (e.kinds ks ps) else match kindsL ks ps es with
    | .inl x => .inl x
    | .inr l => .inr ((e.kinds ks ps).1 :: l)
end

mutual
/-- what Kinds needs of an expression -/
def Ex.ok : Ex → Prop
  | .mk op n d subs => ((op = 2 ∨ op = 3) → 0 ≤ n) ∧ (op = 25 → 1 ≤ subs.length) ∧ subs.length ≤ 50 ∧ oks subs
def oks : List Ex → Prop
  | [] => True
  | e :: es => e.ok ∧ oks es
end
theorem oks_mem : ∀ {l : List Ex}, oks l → ∀ e ∈ l, e.ok
  | e :: es, h, x, hx => by
    simp only [oks] at h
    rcases List.mem_cons.1 hx with rfl | hx
    · exact h.1
    · exact oks_mem h.2 x hx

theorem kinds_loop {ft : FT} {op n : Int} {d : Dat} {subs : List Ex} {ks ps : List Int} {δ : Nat} {K : List Item} {X : Option Ret} (hl : subs.length ≤ 50)
    (ih : ∀ e ∈ subs, ∀ (S : Store) (δ : Nat), C ft none (.fn 83 [] []) [e.enc, encInts ks, encInts ps] S δ = ans δ (encKind (e.kinds ks ps)))
    (hK : ∀ (st : St) (l : List Int), kindsL ks ps subs = .inr l → (∃ tk, st.σ 7 = .slice tk 1 (l.map (D.int .i64))) → st.σ 3 = .ptr 1 0 0 → st.σ 6 = .ptr 1 1 0 → st.S 1 0 = .cells (ecells op n d subs) → st.S 1 1 = .cells [.int .i64 0, .int .i64 0] → st.low = 1 → st.recd = false → isoB δ (W ft ⟨1, false, [.cell 6 true 2], none⟩ K [] st) = X)
    (hX : ∀ x, kindsL ks ps subs = .inl x → X = ans δ (encKind x)) :
    ∀ (r : List Ex) (i : Nat) (acc : List Int) (tk : Tk) (st : St), subs.drop i = r → i ≤ subs.length → acc.length ≤ i → (kindsL ks ps subs = match kindsL ks ps r with | .inl x => .inl x | .inr l => .inr (acc ++ l)) → TkOk st tk acc.length → st.σ 1 = encInts ks → st.σ 2 = encInts ps → st.σ 3 = .ptr 1 0 0 → st.σ 6 = .ptr 1 1 0 →
      st.σ 7 = .slice tk 1 (acc.map (D.int .i64)) → st.σ 8 = .int .i64 (i : Int) → st.S 1 0 = .cells (ecells op n d subs) → st.S 1 1 = .cells [.int .i64 0, .int .i64 0] → st.low = 1 → st.recd = false →
      isoB δ (W ft ⟨1, false, [.cell 6 true 2], none⟩ (.inLoop l83_20 :: .inBlock 1 :: K) [] st) = X := by
  intro r
  induction r with
  | nil =>
    intro i acc tk st hd hi hac hsp g7 s1 s2 s3 s6 s7 s8 hS0 hS1 hlow hrec
    have hn := drop_nil hd
    simp only [kindsL, List.append_nil] at hsp
    rw [W_inLoop]
    simp [l83_20, r83_14, s3, s8, hS0, ecells, hlow, hrec, hn]
    exact hK _ acc hsp ⟨tk, by simp [s7]⟩ (by simp [s3]) (by simp [s6]) (by simp [hS0, ecells]) (by simp [hS1]) (by simp [hlow]) (by simp [hrec])
  | cons x r ihr =>
    intro i acc tk st hd hi hac hsp g7 s1 s2 s3 s6 s7 s8 hS0 hS1 hlow hrec
    obtain ⟨h1, h2, h3⟩ := drop_get hd
    have h1' : (i : Int) < (subs.length : Int) := by omega
    have w : IntKind.i64.wrap ((i : Int) + 1) = (i : Int) + 1 := wrap64 (by omega) (by omega)
    have hla : (acc.length + 1) * 8 ≤ LIM := by unfold LIM; omega
    have hc := fun S δ => ih x (List.mem_of_getElem? h2) S δ
    simp only [encInts, encKind] at hc
    rw [W_inLoop]
    by_cases he : (x.kinds ks ps).2 = 0
    · have hsp' : kindsL ks ps subs = match kindsL ks ps r with | .inl x => .inl x | .inr l => .inr ((acc ++ [(x.kinds ks ps).1]) ++ l) := by
        rw [hsp]; simp only [kindsL, he]
        cases kindsL ks ps r <;> simp
      rcases g7 with ⟨rfl, hz⟩ | ⟨u, rfl, hlv, hlt⟩
      · simp [l83_20, r83_14, r83_15, r83_16, r83_18, r83_19, s1, s2, s3, s6, s7, s8, hS0, hS1, ecells, hlow, hrec, h1', h2, w, encInts, hc, he, hla]
        refine ihr (i + 1) (acc ++ [(x.kinds ks ps).1]) (.tok (st.nt + 5 + 10 + 3 + 4)) _ h3 (by omega) (by simp; omega) hsp' (.inr ⟨_, rfl, by simp [upd], by first | (simp; done) | (simp; omega)⟩) ?_ ?_ ?_ ?_ ?_ ?_ ?_ ?_ ?_ ?_ <;> simp [s1, s2, s3, s6, hS0, hS1, ecells, encInts]
      · simp [l83_20, r83_14, r83_15, r83_16, r83_18, r83_19, s1, s2, s3, s6, s7, s8, hS0, hS1, ecells, hlow, hrec, h1', h2, w, encInts, hc, he, hla, hlv]
        refine ihr (i + 1) (acc ++ [(x.kinds ks ps).1]) (.tok (st.nt + 5 + 10 + 3 + 4)) _ h3 (by omega) (by simp; omega) hsp' (.inr ⟨_, rfl, by simp [upd], by first | (simp; done) | (simp; omega)⟩) ?_ ?_ ?_ ?_ ?_ ?_ ?_ ?_ ?_ ?_ <;> simp [s1, s2, s3, s6, hS0, hS1, ecells, encInts]
    · have hx : X = ans δ (encKind (x.kinds ks ps)) := hX _ (by rw [hsp]; simp [kindsL, he])
      rw [hx]
      simp [l83_20, r83_14, r83_15, r83_16, r83_17, s1, s2, s3, s6, s7, s8, hS0, hS1, ecells, hlow, hrec, h1', h2, encInts, hc, he, encKind]

theorem kindsL_len {ks ps : List Int} : ∀ {l : List Ex} {r : List Int}, kindsL ks ps l = .inr r → r.length = l.length
  | [], r, h => by simp [kindsL] at h; subst h; rfl
  | e :: es, r, h => by
    simp only [kindsL] at h
    split at h
    · cases h
    · cases hh : kindsL ks ps es with
      | inl x => rw [hh] at h; cases h
      | inr l =>
        rw [hh] at h
        injection h with h; subst h
        simp [kindsL_len hh]

theorem getInt {l : List Int} {n : Int} (h0 : 0 ≤ n) (h : ¬ (l.length : Int) ≤ n) : l[n.toNat]? = some (l.getD n.toNat 0) := by
  have : n.toNat < l.length := by omega
  simp [List.getD, List.getElem?_eq_getElem this]

theorem Kinds_ok {ft : FT} (hf : ft 83 = some (.ir f83)) (h155 : ft 155 = some (.ir f155)) (h199 : ft 199 = some (.ir f199)) (h200 : ft 200 = some (.ir f200)) (h201 : ft 201 = some (.ir f201)) {ks ps : List Int} (hks : ks.length ≤ 1000000000) (hps : ps.length ≤ 1000000000) :
    ∀ (e : Ex) (S : Store) (δ : Nat), e.ok → C ft none (.fn 83 [] []) [e.enc, encInts ks, encInts ps] S δ = ans δ (encKind (e.kinds ks ps)) := by
  intro e
  induction e using Ex.ind with
  | h op n d subs ih =>
    intro S δ hok
    simp only [Ex.ok] at hok
    obtain ⟨hn, h25, h50, hoks⟩ := hok
    rw [C_iso hf (by simp [f83]) (by simp [encInts])]
    by_cases h1 : op = 1
    · simp [f83, r83_0, r83_1, r83_2, r83_3, Ex.enc_mk, encInts, h1, Ex.kinds, encKind]
    by_cases h2 : op = 2
    · have n0 := hn (.inl h2)
      by_cases hb : (ks.length : Int) ≤ n
      · simp [f83, r83_0, r83_1, r83_2, r83_4, r83_5, r83_6, Ex.enc_mk, encInts, h1, h2, Ex.kinds, encKind, hb]
      · have hg := getInt n0 hb
        have hb' : n < (ks.length : Int) := by omega
        have e1 : ((n.toNat : Nat) : Int) = n := by omega
        simp [f83, r83_0, r83_1, r83_2, r83_4, r83_5, r83_7, Ex.enc_mk, encInts, h1, h2, Ex.kinds, encKind, hb, hg, n0, hb', e1]
        done
    by_cases h3 : op = 3
    · have n0 := hn (.inr h3)
      by_cases hb : (ps.length : Int) ≤ n
      · simp [f83, r83_0, r83_1, r83_2, r83_4, r83_8, r83_9, r83_10, Ex.enc_mk, encInts, h1, h2, h3, Ex.kinds, encKind, hb]
      · have hg := getInt n0 hb
        have hb' : n < (ps.length : Int) := by omega
        have e1 : ((n.toNat : Nat) : Int) = n := by omega
        simp [f83, r83_0, r83_1, r83_2, r83_4, r83_8, r83_9, r83_11, Ex.enc_mk, encInts, h1, h2, h3, Ex.kinds, encKind, hb, hg, n0, hb', e1]
        done
    simp [f83, r83_0, r83_1, r83_2, r83_4, r83_8, r83_12, r83_13, Ex.enc_mk, encInts, h1, h2, h3]
    refine kinds_loop (op := op) (n := n) (d := d) (subs := subs) (ks := ks) (ps := ps) h50 (fun e he S δ => ih e he S δ (oks_mem hoks e he)) ?_ ?_ subs 0 [] .full _ rfl (by omega) (by simp) (by cases kindsL ks ps subs <;> rfl) (.inl ⟨rfl, rfl⟩) ?_ ?_ ?_ ?_ ?_ ?_ ?_ ?_ ?_ ?_
    · rintro st l hl ⟨tk, s7⟩ s3 s6 hS0 hS1 hlow hrec
      have hll := kindsL_len hl
      have hk := fun S δ => kind_ok h155 h199 h200 h201 (op := op) (n := n) (d := d) (subs := subs) (ks := l) (by omega) (fun h => by have := h25 h; omega) (S := S) (δ := δ)
      simp only [Ex.enc_mk, encInts, encKind] at hk
      simp [r83_21, s3, s6, s7, hS0, hS1, ecells, hlow, hrec, hk, encKind, Ex.kinds, h1, h2, h3, hl]
    · intro x hx
      simp [Ex.kinds, h1, h2, h3, hx]
    all_goals simp [ecells, encInts]
end Go.Mia
/- What functions of the reference return: Check. -/
namespace Go.Mia
open Go

theorem counts_ge {depth : Int} (hd : depth ≤ 31) : ∀ (l : List Ex) (m : Int), m ≤ counts l depth m
  | [], m => by simp [counts]
  | e :: es, m => by
    simp only [counts]
    split
    · have := counts_ge hd es (m + e.count depth)
      have := (count_le e depth hd).1
      omega
    · omega
theorem counts_all {depth : Int} (hd : depth ≤ 31) : ∀ (l : List Ex) (m : Int), 0 ≤ m → counts l depth m ≤ 300 → ∀ e ∈ l, e.count depth ≤ 300
  | [], m, _, _, e, he => by cases he
  | x :: es, m, h0, h, e, he => by
    simp only [counts] at h
    split at h
    · have h1 := counts_ge hd es (m + x.count depth)
      have h2 := (count_le x depth hd).1
      rcases List.mem_cons.1 he with rfl | he
      · omega
      · exact counts_all hd es _ (by omega) h e he
    · omega

theorem oks_of : ∀ {l : List Ex}, (∀ e ∈ l, e.ok) → oks l
  | [], _ => trivial
  | e :: es, h => ⟨h e (by simp), oks_of fun x hx => h x (by simp [hx])⟩

/-- the facts of a good node -/
theorem nodeBad_ok {op n depth : Int} {d : Dat} {len : Nat} (h : nodeBad op n d len depth = false) : ((op = 2 ∨ op = 3) → 0 ≤ n ∧ n ≤ 999) ∧ (op = 25 → len = 3) ∧ len ≤ 50 ∧ depth ≤ 30 := by
  have h1 := nodeBad_len h
  refine ⟨?_, ?_, h1.2, h1.1⟩
  · intro ho
    simp [nodeBad, ho] at h
    omega
  · intro ho
    subst ho
    simp [nodeBad, shp] at h
    omega

theorem ok_of_count : ∀ (e : Ex) (depth : Int), depth ≤ 31 → e.count depth ≤ 300 → e.ok := by
  intro e
  induction e using Ex.ind with
  | h op n d subs ih =>
    intro depth hd hc
    simp only [Ex.count] at hc
    split at hc
    · omega
    · rename_i hb
      obtain ⟨a, b, c, g⟩ := nodeBad_ok (by simpa using hb)
      exact ⟨fun h => (a h).1, fun h => by have := b h; omega, c, oks_of fun e he => ih e he (depth + 1) (by omega) (counts_all (by omega) subs 1 (by omega) hc e he)⟩

/-- what Check of the reference says -/
def checkR (e : Ex) (ks ps : List Int) : Int × Int :=
  if 300 < e.count 1 then (0, 2) else if (areKinds ks && areKinds ps) = true then e.kinds ks ps else (0, 1)

theorem CheckR_ok {ft : FT} (hf : ft 20 = some (.ir f20)) (h38 : ft 38 = some (.ir f38)) (h93 : ft 93 = some (.ir f93)) (h174 : ft 174 = some (.ir f174)) (h175 : ft 175 = some (.ir f175)) (h82 : ft 82 = some (.ir f82))
    (h83 : ft 83 = some (.ir f83)) (h155 : ft 155 = some (.ir f155)) (h199 : ft 199 = some (.ir f199)) (h200 : ft 200 = some (.ir f200)) (h201 : ft 201 = some (.ir f201)) {e : Ex} {ks ps : List Int} (hks : ks.length ≤ 1000000000) (hps : ps.length ≤ 1000000000) (S : Store) (δ : Nat) :
    C ft none (.fn 20 [] []) [e.enc, encInts ks, encInts ps] S δ = ans δ (encKind (checkR e ks ps)) := by
  have hF := fun S δ => Formed_ok h38 h93 h174 h175 e S δ
  have hA := fun S δ => areKinds_ok h82 (ks := ks) hks (S := S) (δ := δ)
  have hB := fun S δ => areKinds_ok h82 (ks := ps) hps (S := S) (δ := δ)
  have hK := fun S δ ho => Kinds_ok h83 h155 h199 h200 h201 hks hps e S δ ho
  obtain ⟨op, n, d, subs⟩ := e
  simp only [Ex.enc_mk, encInts, encKind] at hF hA hB hK
  rw [C_iso hf (by simp [f20]) (by simp [encInts])]
  by_cases hc : 300 < (Ex.mk op n d subs).count 1
  · have hc' : ¬ (Ex.mk op n d subs).count 1 ≤ 300 := by omega
    simp [f20, r20_0, r20_1, r20_2, Ex.enc_mk, encInts, hF, hc', checkR, encKind, hc]
  · have hc' : (Ex.mk op n d subs).count 1 ≤ 300 := by omega
    have ho := ok_of_count _ 1 (by omega) hc'
    have hK' := fun S δ => hK S δ ho
    cases ha : areKinds ks with
    | false => simp [f20, r20_0, r20_1, r20_3, r20_4, Ex.enc_mk, encInts, hF, hA, hB, hc', checkR, encKind, hc, ha]
    | true =>
      cases hb : areKinds ps with
      | false => simp [f20, r20_0, r20_1, r20_3, r20_4, Ex.enc_mk, encInts, hF, hA, hB, hc', checkR, encKind, hc, ha, hb]
      | true => simp [f20, r20_0, r20_1, r20_3, r20_5, Ex.enc_mk, encInts, hF, hA, hB, hc', checkR, encKind, hc, ha, hb, hK']
end Go.Mia
/- The program's count of nodes, and its check, against those of the reference: plain Lean. -/
namespace Go.Mia
open Go

mutual
/-- the visit of formed: is all as it has to be, and how many nodes were met -/
def Ex.vis : Ex → Int → Int → Bool × Int
  | .mk op n d subs, depth, m => if 300 < m + 1 ∨ nodeBad op n d subs.length depth = true then (false, m + 1) else visL subs (depth + 1) (m + 1)
def visL : List Ex → Int → Int → Bool × Int
  | [], _, m => (true, m)
  | e :: es, depth, m => if (e.vis depth m).1 = true then visL es depth (e.vis depth m).2 else (false, (e.vis depth m).2)
end

theorem visL_count {depth : Int} (hd : depth ≤ 31) : ∀ (l : List Ex), (∀ e ∈ l, ∀ m : Int, 0 ≤ m → m ≤ 300 → (m + e.count depth ≤ 300 → e.vis depth m = (true, m + e.count depth)) ∧ (300 < m + e.count depth → (e.vis depth m).1 = false)) →
    ∀ base k : Int, 0 ≤ base → 0 ≤ k → base + k ≤ 300 → (base + counts l depth k ≤ 300 → visL l depth (base + k) = (true, base + counts l depth k)) ∧ (300 < base + counts l depth k → (visL l depth (base + k)).1 = false)
  | [], _, base, k, hb, hk, hs => by
    simp only [counts, visL]
    exact ⟨fun _ => trivial, fun h => by omega⟩
  | e :: es, h, base, k, hb, hk, hs => by
    have he := h e (by simp) (base + k) (by omega) hs
    have hc := (count_le e depth hd).1
    have hk3 : k ≤ 300 := by omega
    simp only [counts, visL, hk3, if_true]
    by_cases h1 : base + k + e.count depth ≤ 300
    · have hv := he.1 h1
      rw [hv]
      simp only [if_true]
      have := visL_count hd es (fun x hx => h x (by simp [hx])) base (k + e.count depth) hb (by omega) (by omega)
      rw [← Int.add_assoc] at this
      exact this
    · have hv := he.2 (by omega)
      have hg := counts_ge hd es (k + e.count depth)
      simp only [hv, Bool.false_eq_true, if_false]
      exact ⟨fun h => by omega, fun _ => trivial⟩

theorem vis_count : ∀ (e : Ex) (depth : Int), depth ≤ 31 → ∀ m : Int, 0 ≤ m → m ≤ 300 → (m + e.count depth ≤ 300 → e.vis depth m = (true, m + e.count depth)) ∧ (300 < m + e.count depth → (e.vis depth m).1 = false) := by
  intro e
  induction e using Ex.ind with
  | h op n d subs ih =>
    intro depth hd m h0 h3
    simp only [Ex.count, Ex.vis]
    by_cases hb : nodeBad op n d subs.length depth = true
    · simp only [hb, or_true, if_true]
      exact ⟨fun h => by omega, fun _ => trivial⟩
    · have h30 := (nodeBad_len (by simpa using hb)).1
      have hg := counts_ge (depth := depth + 1) (by omega) subs 1
      simp only [hb, or_false, if_false]
      by_cases hm : 300 < m + 1
      · simp only [hm, if_true]
        exact ⟨fun h => by omega, fun _ => rfl⟩
      · simp only [hm, if_false]
        exact visL_count (by omega) subs (fun e he => ih e he (depth + 1) (by omega)) m 1 h0 (by omega) (by omega)

theorem vis_bound (e : Ex) {m : Int} (h0 : 0 ≤ m) (h3 : m ≤ 300) {depth : Int} (hd : depth ≤ 31) (h : (e.vis depth m).1 = true) : m ≤ (e.vis depth m).2 ∧ (e.vis depth m).2 ≤ 300 := by
  have := vis_count e depth hd m h0 h3
  have hc := (count_le e depth hd).1
  by_cases h1 : m + e.count depth ≤ 300
  · rw [this.1 h1]; exact ⟨by show m ≤ m + _; omega, h1⟩
  · rw [this.2 (by omega)] at h; cases h

theorem vis_formed (e : Ex) : (e.vis 1 0).1 = decide (e.count 1 ≤ 300) := by
  have := vis_count e 1 (by omega) 0 (by omega) (by omega)
  by_cases h : e.count 1 ≤ 300
  · rw [this.1 (by omega)]; simp [h]
  · rw [this.2 (by omega)]; simp [h]

/-- an end with a kind, or with an error -/
def finK (δ : Nat) (p : Int × Int) : Option Ret := if p.2 = 0 then ans δ (.int .i64 p.1) else some ⟨.pan (.iface 157 (.agg [.int .i64 p.2])), false, δ, none⟩

/-- a row of the table: min, max, step, of, kind -/
def rowOf (op : Int) : Int × Int × Int :=
  if op = 1 ∨ op = 2 ∨ op = 3 then (0, 0, 0)
  else if op = 4 ∨ op = 18 ∨ op = 19 ∨ op = 24 ∨ op = 26 ∨ op = 27 ∨ op = 28 ∨ op = 31 ∨ op = 32 then (1, 1, 1)
  else if op = 5 ∨ op = 6 ∨ op = 7 ∨ op = 8 ∨ op = 9 ∨ op = 10 ∨ op = 11 ∨ op = 12 ∨ op = 13 ∨ op = 14 ∨ op = 15 ∨ op = 29 ∨ op = 30 then (2, 2, 1)
  else if op = 16 ∨ op = 17 then (1, 50, 1)
  else if op = 20 then (3, 41, 2)
  else if op = 21 ∨ op = 23 then (1, 20, 1)
  else if op = 22 then (2, 50, 1)
  else if op = 25 then (3, 3, 1)
  else (1, 0, 1)
def ofK (op : Int) : Int :=
  if op = 4 ∨ op = 5 ∨ op = 6 ∨ op = 7 ∨ op = 8 ∨ op = 9 then 2
  else if op = 10 ∨ op = 11 ∨ op = 12 ∨ op = 13 ∨ op = 14 ∨ op = 15 ∨ op = 20 ∨ op = 21 ∨ op = 22 then -1
  else if op = 16 ∨ op = 17 ∨ op = 18 then 1
  else if op = 23 ∨ op = 24 ∨ op = 26 ∨ op = 27 ∨ op = 28 ∨ op = 29 ∨ op = 30 ∨ op = 32 then 3
  else 0
def resK (op : Int) : Int :=
  if op = 4 ∨ op = 5 ∨ op = 6 ∨ op = 7 ∨ op = 8 ∨ op = 9 ∨ op = 24 ∨ op = 29 ∨ op = 32 then 2
  else if op = 20 ∨ op = 21 then -1
  else if op = 10 ∨ op = 11 ∨ op = 12 ∨ op = 13 ∨ op = 14 ∨ op = 15 ∨ op = 16 ∨ op = 17 ∨ op = 18 ∨ op = 19 ∨ op = 22 ∨ op = 30 then 1
  else if op = 23 ∨ op = 25 ∨ op = 26 ∨ op = 27 ∨ op = 28 ∨ op = 31 then 3
  else 0
/-- what operands asks: the common kind, or an error -/
def opsK (op : Int) (l : List Int) : Int × Int :=
  if op = 20 then (if allK (caseSplit true l).1 1 then commonK (caseSplit true l).2 0 else (0, 10))
  else if op = 25 then (if allK (l.take 1) 3 && allK (l.drop 1) 2 then (0, 0) else (0, 10))
  else if ofK op = -1 then commonK l 0
  else if ofK op = 0 then (0, 0)
  else if allK l (ofK op) then (0, 0) else (0, 10)
/-- what check makes of it -/
def nodeK (op : Int) (l : List Int) : Int × Int :=
  if (opsK op l).2 ≠ 0 then (0, (opsK op l).2) else if resK op = -1 then ((opsK op l).1, 0) else (resK op, 0)

theorem commonK_cases : ∀ (l : List Int) (k : Int), (commonK l k).2 = 0 ∨ commonK l k = (0, 10)
  | [], k => .inl rfl
  | x :: xs, k => by
    simp only [commonK]
    split
    · exact commonK_cases xs k
    · split
      · exact .inr rfl
      · exact commonK_cases xs x

theorem nodeK_eq {op : Int} (h1 : 4 ≤ op) (h2 : op ≤ 32) (l : List Int) : nodeK op l = kindK op l := by
  have h : op = 4 ∨ op = 5 ∨ op = 6 ∨ op = 7 ∨ op = 8 ∨ op = 9 ∨ op = 10 ∨ op = 11 ∨ op = 12 ∨ op = 13 ∨ op = 14 ∨ op = 15 ∨ op = 16 ∨ op = 17 ∨ op = 18 ∨ op = 19 ∨ op = 20 ∨ op = 21 ∨ op = 22 ∨ op = 23 ∨ op = 24 ∨ op = 25 ∨ op = 26 ∨ op = 27 ∨ op = 28 ∨ op = 29 ∨ op = 30 ∨ op = 31 ∨ op = 32 := by omega
  have hc := commonK_cases l 0
  have hc' := commonK_cases (caseSplit true l).2 0
  rcases h with rfl | rfl | rfl | rfl | rfl | rfl | rfl | rfl | rfl | rfl | rfl | rfl | rfl | rfl | rfl | rfl | rfl | rfl | rfl | rfl | rfl | rfl | rfl | rfl | rfl | rfl | rfl | rfl | rfl
  all_goals simp [nodeK, opsK, kindK, ofK, resK, whenK]
  all_goals first
    | done
    | (split <;> simp_all; done)
    | (rcases hc with hc | hc <;> simp [hc]; done)
    | (rcases hc with hc | hc
       · simp [hc]; exact Prod.ext rfl hc.symm
       · simp [hc])
    | (cases hb : allK (caseSplit true l).1 1
       · simp
       · rcases hc' with hc' | hc'
         · simp [hc']; exact Prod.ext rfl hc'.symm
         · simp [hc'])

theorem shp_out {op : Int} (h : op < 1 ∨ 32 < op) : shp op = (1, 0, false) := by
  unfold shp
  rw [if_neg (by omega), if_neg (by omega), if_neg (by omega), if_neg (by omega), if_neg (by omega), if_neg (by omega), if_neg (by omega), if_neg (by omega)]
theorem shp_leaf {op : Int} (h1 : 1 ≤ op) (h3 : op ≤ 3) : shp op = (0, 0, false) := by
  unfold shp
  rw [if_pos (by omega)]

mutual
/-- what the program's check needs of an expression -/
def Ex.good : Ex → Prop
  | .mk op n d subs => 1 ≤ op ∧ op ≤ 32 ∧ ((op = 2 ∨ op = 3) → 0 ≤ n) ∧ (op ≤ 3 → subs = []) ∧ (op = 25 → subs.length = 3) ∧ subs.length ≤ 50 ∧ goods subs
def goods : List Ex → Prop
  | [] => True
  | e :: es => e.good ∧ goods es
end
theorem goods_mem : ∀ {l : List Ex}, goods l → ∀ e ∈ l, e.good
  | e :: es, h, x, hx => by
    simp only [goods] at h
    rcases List.mem_cons.1 hx with rfl | hx
    · exact h.1
    · exact goods_mem h.2 x hx
theorem goods_of : ∀ {l : List Ex}, (∀ e ∈ l, e.good) → goods l
  | [], _ => trivial
  | e :: es, h => ⟨h e (by simp), goods_of fun x hx => h x (by simp [hx])⟩

theorem good_of_count : ∀ (e : Ex) (depth : Int), depth ≤ 31 → e.count depth ≤ 300 → e.good := by
  intro e
  induction e using Ex.ind with
  | h op n d subs ih =>
    intro depth hd hc
    simp only [Ex.count] at hc
    split at hc
    · omega
    · rename_i hb
      have hb : nodeBad op n d subs.length depth = false := by simpa using hb
      obtain ⟨a, b, c, g⟩ := nodeBad_ok hb
      have hop : 1 ≤ op ∧ op ≤ 32 := by
        by_cases ho : op < 1 ∨ 32 < op
        · have := shp_out ho
          simp only [nodeBad, this] at hb
          simp only [Bool.or_eq_false_iff, decide_eq_false_iff_not] at hb
          omega
        · omega
      refine ⟨hop.1, hop.2, fun h => (a h).1, fun h => ?_, b, c, goods_of fun e he => ih e he (depth + 1) (by omega) (counts_all (by omega) subs 1 (by omega) hc e he)⟩
      have := shp_leaf hop.1 h
      simp only [nodeBad, this] at hb
      simp only [Bool.or_eq_false_iff, decide_eq_false_iff_not] at hb
      have : subs.length = 0 := by omega
      exact List.eq_nil_of_length_eq_zero this
end Go.Mia
