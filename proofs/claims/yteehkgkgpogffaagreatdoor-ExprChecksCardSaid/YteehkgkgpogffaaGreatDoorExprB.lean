import Derived.Test.YteehkgkgpogffaaGreatDoorExprA
import Derived.Test.YteehkgkgpogffaaGreatDoorMiaF
set_option linter.unusedSimpArgs false
set_option linter.unusedVariables false
set_option linter.unusedSectionVars false
/- What functions of the program return: known, isKind, need. -/
namespace Go.Mia
open Go

/-- a call ends with a panic -/
abbrev pan (δ : Nat) (e : Int) : Option Ret := some ⟨.pan (.iface 157 (.agg [.int .i64 e])), false, δ, none⟩

theorem known_ok {ft : FT} (hf : ft 151 = some (.ir f151)) {op : Int} {S : Store} {δ : Nat} : C ft none (.fn 151 [] []) [.int .i64 op] S δ = ans δ (.bool (decide (1 ≤ op) && decide (op ≤ 32))) := by
  rw [C_iso hf (by simp [f151]) (by simp)]
  by_cases h1 : 1 ≤ op
  · by_cases h2 : op ≤ 32 <;> simp [f151, r151_0, r151_1, h1, h2]
  · simp [f151, r151_0, r151_1, h1]

theorem isKind_ok {ft : FT} (hf : ft 78 = some (.ir f78)) {k : Int} {S : Store} {δ : Nat} : C ft none (.fn 78 [] []) [.int .i64 k] S δ = ans δ (.bool (decide (k = 1) || decide (k = 2) || decide (k = 3))) := by
  rw [C_iso hf (by simp [f78]) (by simp)]
  by_cases h1 : k = 1
  · simp [f78, r78_0, r78_1, h1]
  · by_cases h2 : k = 2 <;> simp [f78, r78_0, r78_1, h1, h2]

theorem need_ok {ft : FT} (hf : ft 75 = some (.ir f75)) {b : Bool} {e : Int} {S : Store} {δ : Nat} : C ft none (.fn 75 [] []) [.bool b, .int .i64 e] S δ = if b = true then ans δ (.tup []) else pan δ e := by
  rw [C_iso hf (by simp [f75]) (by simp)]
  cases b with
  | true => simp [f75, r75_0, r75_1]
  | false =>
    simp [f75, r75_0, r75_1]
    done
end Go.Mia
/- What functions of the program return: CheckDatum. -/
namespace Go.Mia
open Go

theorem andNot_one {n : Int} (h1 : -9223372036854775808 ≤ n) (h2 : n ≤ 9223372036854775807) : (intBits .andNot .i64 n 1 = 0) = (n = 0 ∨ n = 1) := by
  have e : BitVec.ofInt 64 n &&& ~~~(BitVec.ofInt 64 1) = (BitVec.ofInt 64 n >>> 1) <<< 1 := by
    have hx : ∀ x : BitVec 64, x &&& ~~~(1#64) = (x >>> 1) <<< 1 := by
      intro x
      ext i hi
      rw [BitVec.getElem_and, BitVec.getElem_not, BitVec.getElem_shiftLeft]
      cases i with
      | zero => simp
      | succ i =>
        have h : (1#64)[i+1] = false := by rw [BitVec.getElem_one]; simp
        rw [h]
        simp [Nat.add_comm, BitVec.getLsbD_eq_getElem hi]
    have : BitVec.ofInt 64 1 = 1#64 := by decide
    rw [this]
    exact hx _
  have e2 : ((BitVec.ofInt 64 n >>> 1) <<< 1).toNat = (BitVec.ofInt 64 n).toNat / 2 * 2 := by
    have := (BitVec.ofInt 64 n).isLt
    simp only [BitVec.toNat_shiftLeft, BitVec.toNat_ushiftRight, Nat.shiftRight_eq_div_pow, Nat.shiftLeft_eq]
    omega
  have e3 : ((BitVec.ofInt 64 n).toNat : Int) = n % 18446744073709551616 := by
    simp only [BitVec.toNat_ofInt]
    omega
  have e4 : intBits .andNot .i64 n 1 = IntKind.i64.wrap ((BitVec.ofInt 64 n).toNat / 2 * 2 : Nat) := by
    show IntKind.i64.wrap ((BitVec.ofInt 64 n &&& ~~~(BitVec.ofInt 64 1)).toNat : Nat) = _
    rw [e, e2]
  rw [e4]
  have e5 : (BitVec.ofInt 64 n).toNat < 18446744073709551616 := (BitVec.ofInt 64 n).isLt
  generalize (BitVec.ofInt 64 n).toNat = x at *
  unfold IntKind.wrap
  simp only [IntKind.bits, IntKind.signed, Bool.true_and, decide_eq_true_eq, Nat.reduceSub, Int.reducePow, ge_iff_le]
  apply propext
  split <;> constructor <;> intro h <;> omega

def kindsTab : List D := [.fn 257 [] [], .fn 258 [] [], .fn 259 [] [], .fn 260 [] [], .fn 261 [] [], .fn 263 [] [], .fn 266 [] [], .fn 267 [] [], .fn 269 [] [], .fn 271 [] [], .fn 272 [] [], .fn 274 [] []]
theorem kinds_ok {ft : FT} (hf : ft 198 = some (.ir f198)) {S : Store} {δ : Nat} : C ft none (.fn 198 [] []) [] S δ = ans δ (.agg kindsTab) := by
  rw [C_iso hf (by simp [f198]) (by simp)]
  simp [f198, r198_0, r198_1, kindsTab, FUEL, expD, expDs]

theorem valid0_ok {ft : FT} (hf : ft 257 = some (.ir f257)) {d : Dat} {S : Store} {δ : Nat} : C ft none (.fn 257 [] []) [d.enc] S δ = ans δ (.bool (decide (d.n = 0) && decide (d.s = []))) := by
  rw [C_iso hf (by simp [f257]) (by simp)]
  obtain ⟨k, n, s⟩ := d
  by_cases hn : n = 0 <;> by_cases hs : s = [] <;> simp [f257, r257_0, r257_1, Dat.enc, Dat.cells, hn, hs]
theorem valid1_ok {ft : FT} (hf : ft 260 = some (.ir f260)) {d : Dat} (h1 : -9223372036854775808 ≤ d.n) (h2 : d.n ≤ 9223372036854775807) {S : Store} {δ : Nat} : C ft none (.fn 260 [] []) [d.enc] S δ = ans δ (.bool ((decide (d.n = 0) || decide (d.n = 1)) && decide (d.s = []))) := by
  rw [C_iso hf (by simp [f260]) (by simp)]
  obtain ⟨k, n, s⟩ := d
  have hb : binD .andNot (.int .i64 n) (.int .i64 1) = some (.int .i64 (intBits .andNot .i64 n 1)) := by simp [binD, binInt]
  have ha := andNot_one h1 h2
  by_cases hn : n = 0 ∨ n = 1
  · have ha' : intBits .andNot .i64 n 1 = 0 := by rw [ha]; exact hn
    have hn' : (decide (n = 0) || decide (n = 1)) = true := by simpa using hn
    by_cases hs : s = [] <;> simp [f260, r260_0, r260_1, Dat.enc, Dat.cells, hb, ha', hs, hn']
    all_goals first | omega | done
  · have ha' : ¬ intBits .andNot .i64 n 1 = 0 := by rw [ha]; exact hn
    have hn' : ¬ n = 0 ∧ ¬ n = 1 := by omega
    simp [f260, r260_0, r260_1, Dat.enc, Dat.cells, hb, ha', hn']
theorem valid2_ok {ft : FT} (hf : ft 266 = some (.ir f266)) {d : Dat} {S : Store} {δ : Nat} : C ft none (.fn 266 [] []) [d.enc] S δ = ans δ (.bool (decide (d.s = []))) := by
  rw [C_iso hf (by simp [f266]) (by simp)]
  obtain ⟨k, n, s⟩ := d
  by_cases hs : s = [] <;> simp [f266, r266_0, r266_1, Dat.enc, Dat.cells, hs]
theorem valid3_ok {ft : FT} (hf : ft 271 = some (.ir f271)) {d : Dat} {S : Store} {δ : Nat} : C ft none (.fn 271 [] []) [d.enc] S δ = ans δ (.bool (decide (d.n = 0))) := by
  rw [C_iso hf (by simp [f271]) (by simp)]
  obtain ⟨k, n, s⟩ := d
  by_cases hs : n = 0 <;> simp [f271, r271_0, r271_1, Dat.enc, Dat.cells, hs]

theorem CheckDatum_ok {ft : FT} (hf : ft 152 = some (.ir f152)) (h198 : ft 198 = some (.ir f198)) (h257 : ft 257 = some (.ir f257)) (h260 : ft 260 = some (.ir f260)) (h266 : ft 266 = some (.ir f266)) (h271 : ft 271 = some (.ir f271))
    {d : Dat} (h1 : -9223372036854775808 ≤ d.n) (h2 : d.n ≤ 9223372036854775807) {S : Store} {δ : Nat} : C ft none (.fn 152 [] []) [d.enc] S δ = ans δ (.int .i64 (if d.valid then 0 else 2)) := by
  have hk := fun S δ => kinds_ok h198 (S := S) (δ := δ)
  have v0 := fun S δ => valid0_ok h257 (d := d) (S := S) (δ := δ)
  have v1 := fun S δ => valid1_ok h260 (d := d) h1 h2 (S := S) (δ := δ)
  have v2 := fun S δ => valid2_ok h266 (d := d) (S := S) (δ := δ)
  have v3 := fun S δ => valid3_ok h271 (d := d) (S := S) (δ := δ)
  rw [C_iso hf (by simp [f152]) (by simp)]
  obtain ⟨k, n, s⟩ := d
  simp only [Dat.enc, Dat.cells, kindsTab] at hk v0 v1 v2 v3
  by_cases g1 : k < 0
  · have : ¬ k = 0 ∧ ¬ k = 1 ∧ ¬ k = 2 ∧ ¬ k = 3 := by omega
    simp [f152, r152_0, r152_1, r152_2, Dat.enc, Dat.cells, g1, Dat.valid, this]
  by_cases g2 : 3 < k
  · have : ¬ k = 0 ∧ ¬ k = 1 ∧ ¬ k = 2 ∧ ¬ k = 3 := by omega
    simp [f152, r152_0, r152_1, r152_2, Dat.enc, Dat.cells, g1, g2, Dat.valid, this]
  have : k = 0 ∨ k = 1 ∨ k = 2 ∨ k = 3 := by omega
  rcases this with rfl | rfl | rfl | rfl
  · cases hv : (decide (n = 0) && decide (s = [])) <;> simp [f152, r152_0, r152_1, r152_2, r152_3, Dat.enc, Dat.cells, Dat.valid, hk, v0, hv]
  · cases hv : ((decide (n = 0) || decide (n = 1)) && decide (s = [])) <;> simp [f152, r152_0, r152_1, r152_2, r152_3, Dat.enc, Dat.cells, Dat.valid, hk, v1, hv]
  · cases hv : (decide (s = [])) <;> simp [f152, r152_0, r152_1, r152_2, r152_3, Dat.enc, Dat.cells, Dat.valid, hk, v2, hv]
  · cases hv : (decide (n = 0)) <;> simp [f152, r152_0, r152_1, r152_2, r152_3, Dat.enc, Dat.cells, Dat.valid, hk, v3, hv]
end Go.Mia
/- What functions of the program return: commonKind. -/
namespace Go.Mia
open Go

theorem need_true {ft : FT} (hf : ft 75 = some (.ir f75)) {e : Int} {S : Store} {δ : Nat} : C ft none (.fn 75 [] []) [.bool true, .int .i64 e] S δ = ans δ (.tup []) := by rw [need_ok hf]; rfl
theorem need_false {ft : FT} (hf : ft 75 = some (.ir f75)) {e : Int} {S : Store} {δ : Nat} : C ft none (.fn 75 [] []) [.bool false, .int .i64 e] S δ = pan δ e := by rw [need_ok hf]; rfl
theorem finK_ok {δ : Nat} {k : Int} : finK δ (k, 0) = ans δ (.int .i64 k) := rfl
theorem finK_err {δ : Nat} {k e : Int} (h : e ≠ 0) : finK δ (k, e) = pan δ e := by simp [finK, h]

theorem commonKind_loop {ft : FT} (h75 : ft 75 = some (.ir f75)) {ks : List Int} {δ : Nat} (hl : ks.length ≤ 1000000000) : ∀ (l : List Int) (i : Nat) (kk : Int) (st : St), ks.drop i = l → i ≤ ks.length → st.σ 6 = encInts ks → st.σ 3 = .int .i64 kk → st.σ 7 = .int .i64 (ks.length : Int) → st.σ 8 = .int .i64 (i : Int) → st.low = 1 → st.recd = false →
    isoB δ (W ft ⟨1, false, [.tmp 2], none⟩ [.inLoop l154_9, .inBlock 0, .code (.seq (.region r154_10) .ret)] [] st) = finK δ (commonK l kk) := by
  have nt := fun e S δ => need_true h75 (e := e) (S := S) (δ := δ)
  have nf := fun e S δ => need_false h75 (e := e) (S := S) (δ := δ)
  intro l
  induction l with
  | nil =>
    intro i kk st hd hi s6 s3 s7 s8 hlow hrec
    have hn := drop_nil hd
    rw [W_inLoop]
    simp [l154_9, r154_3, r154_10, s3, s6, s7, s8, hlow, hrec, hn, encInts, commonK, finK]
  | cons x l ih =>
    intro i kk st hd hi s6 s3 s7 s8 hlow hrec
    obtain ⟨h1, h2, h3⟩ := drop_get hd
    have h1' : (i : Int) < (ks.length : Int) := by omega
    have w : IntKind.i64.wrap ((i : Int) + 1) = (i : Int) + 1 := wrap64 (by omega) (by omega)
    rw [W_inLoop]
    by_cases c1 : x = 0
    · simp [l154_9, r154_3, r154_4, r154_5, r154_8, s3, s6, s7, s8, hlow, hrec, h1', h2, w, encInts, commonK, c1]
      apply ih (i + 1) _ _ h3 <;> first | omega | simp [s3, s6, s7, encInts]
    · by_cases c2 : kk = 0
      · simp [l154_9, r154_3, r154_4, r154_5, r154_6, r154_7, r154_8, s3, s6, s7, s8, hlow, hrec, h1', h2, w, encInts, commonK, c1, c2, nt]
        apply ih (i + 1) _ _ h3 <;> first | omega | simp [s3, s6, s7, encInts]
      · by_cases c3 : kk = x
        · simp [l154_9, r154_3, r154_4, r154_5, r154_6, r154_7, r154_8, s3, s6, s7, s8, hlow, hrec, h1', h2, w, encInts, commonK, c1, c2, c3, nt]
          apply ih (i + 1) _ _ h3 <;> first | omega | simp [s3, s6, s7, encInts]
        · simp [l154_9, r154_3, r154_4, r154_5, r154_6, s3, s6, s7, s8, hlow, hrec, h1', h2, w, encInts, commonK, c1, c2, c3, nf, finK]

theorem commonKind_ok {ft : FT} (hf : ft 154 = some (.ir f154)) (h75 : ft 75 = some (.ir f75)) {ks : List Int} (hl : ks.length ≤ 1000000000) {S : Store} {δ : Nat} : C ft none (.fn 154 [] []) [encInts ks] S δ = finK δ (commonK ks 0) := by
  rw [C_iso hf (by simp [f154]) (by simp [encInts])]
  simp [f154, r154_0, r154_1, r154_2, encInts]
  apply commonKind_loop h75 hl ks 0 <;> simp [encInts]
end Go.Mia
/- The table of the operations. -/
namespace Go.Mia
open Go

/-- the cells of the table -/
def tab : List D := [
  (.int .i64 0), (.int .i64 0), (.int .i64 0), (.int .i64 0), (.int .i64 0), .nilf,
  (.int .i64 0), (.int .i64 0), (.int .i64 0), (.int .i64 0), (.int .i64 0), .nilf,
  (.int .i64 0), (.int .i64 0), (.int .i64 0), (.int .i64 0), (.int .i64 0), .nilf,
  (.int .i64 0), (.int .i64 0), (.int .i64 0), (.int .i64 0), (.int .i64 0), .nilf,
  (.int .i64 1), (.int .i64 1), (.int .i64 1), (.int .i64 2), (.int .i64 2), (.fn 124 [] []),
  (.int .i64 2), (.int .i64 2), (.int .i64 1), (.int .i64 2), (.int .i64 2), (.fn 125 [] []),
  (.int .i64 2), (.int .i64 2), (.int .i64 1), (.int .i64 2), (.int .i64 2), (.fn 126 [] []),
  (.int .i64 2), (.int .i64 2), (.int .i64 1), (.int .i64 2), (.int .i64 2), (.fn 127 [] []),
  (.int .i64 2), (.int .i64 2), (.int .i64 1), (.int .i64 2), (.int .i64 2), (.fn 128 [] []),
  (.int .i64 2), (.int .i64 2), (.int .i64 1), (.int .i64 2), (.int .i64 2), (.fn 129 [] []),
  (.int .i64 2), (.int .i64 2), (.int .i64 1), (.int .i64 (-1)), (.int .i64 1), (.fn 187 [] [.cptr [.fn 131 [] []]]),
  (.int .i64 2), (.int .i64 2), (.int .i64 1), (.int .i64 (-1)), (.int .i64 1), (.fn 187 [] [.cptr [.fn 132 [] []]]),
  (.int .i64 2), (.int .i64 2), (.int .i64 1), (.int .i64 (-1)), (.int .i64 1), (.fn 187 [] [.cptr [.fn 133 [] []]]),
  (.int .i64 2), (.int .i64 2), (.int .i64 1), (.int .i64 (-1)), (.int .i64 1), (.fn 187 [] [.cptr [.fn 134 [] []]]),
  (.int .i64 2), (.int .i64 2), (.int .i64 1), (.int .i64 (-1)), (.int .i64 1), (.fn 187 [] [.cptr [.fn 135 [] []]]),
  (.int .i64 2), (.int .i64 2), (.int .i64 1), (.int .i64 (-1)), (.int .i64 1), (.fn 187 [] [.cptr [.fn 136 [] []]]),
  (.int .i64 1), (.int .i64 50), (.int .i64 1), (.int .i64 1), (.int .i64 1), .nilf,
  (.int .i64 1), (.int .i64 50), (.int .i64 1), (.int .i64 1), (.int .i64 1), .nilf,
  (.int .i64 1), (.int .i64 1), (.int .i64 1), (.int .i64 1), (.int .i64 1), (.fn 137 [] []),
  (.int .i64 1), (.int .i64 1), (.int .i64 1), (.int .i64 0), (.int .i64 1), .nilf,
  (.int .i64 3), (.int .i64 41), (.int .i64 2), (.int .i64 (-1)), (.int .i64 (-1)), .nilf,
  (.int .i64 1), (.int .i64 20), (.int .i64 1), (.int .i64 (-1)), (.int .i64 (-1)), .nilf,
  (.int .i64 2), (.int .i64 50), (.int .i64 1), (.int .i64 (-1)), (.int .i64 1), .nilf,
  (.int .i64 1), (.int .i64 20), (.int .i64 1), (.int .i64 3), (.int .i64 3), (.fn 138 [] []),
  (.int .i64 1), (.int .i64 1), (.int .i64 1), (.int .i64 3), (.int .i64 2), (.fn 139 [] []),
  (.int .i64 3), (.int .i64 3), (.int .i64 1), (.int .i64 0), (.int .i64 3), (.fn 141 [] []),
  (.int .i64 1), (.int .i64 1), (.int .i64 1), (.int .i64 3), (.int .i64 3), (.fn 142 [] []),
  (.int .i64 1), (.int .i64 1), (.int .i64 1), (.int .i64 3), (.int .i64 3), (.fn 143 [] []),
  (.int .i64 1), (.int .i64 1), (.int .i64 1), (.int .i64 3), (.int .i64 3), (.fn 144 [] []),
  (.int .i64 2), (.int .i64 2), (.int .i64 1), (.int .i64 3), (.int .i64 2), (.fn 145 [] []),
  (.int .i64 2), (.int .i64 2), (.int .i64 1), (.int .i64 3), (.int .i64 1), (.fn 146 [] []),
  (.int .i64 1), (.int .i64 1), (.int .i64 1), (.int .i64 0), (.int .i64 3), (.fn 148 [] []),
  (.int .i64 1), (.int .i64 1), (.int .i64 1), (.int .i64 3), (.int .i64 2), (.fn 149 [] [])]

set_option maxRecDepth 100000
theorem tab_at {op : Int} (h1 : 1 ≤ op) (h2 : op ≤ 32) : ∃ f r, tab.drop (op.toNat * 6) = .int .i64 (rowOf op).1 :: .int .i64 (rowOf op).2.1 :: .int .i64 (rowOf op).2.2 :: .int .i64 (ofK op) :: .int .i64 (resK op) :: f :: r := by
  have h : op = 1 ∨ op = 2 ∨ op = 3 ∨ op = 4 ∨ op = 5 ∨ op = 6 ∨ op = 7 ∨ op = 8 ∨ op = 9 ∨ op = 10 ∨ op = 11 ∨ op = 12 ∨ op = 13 ∨ op = 14 ∨ op = 15 ∨ op = 16 ∨ op = 17 ∨ op = 18 ∨ op = 19 ∨ op = 20 ∨ op = 21 ∨ op = 22 ∨ op = 23 ∨ op = 24 ∨ op = 25 ∨ op = 26 ∨ op = 27 ∨ op = 28 ∨ op = 29 ∨ op = 30 ∨ op = 31 ∨ op = 32 := by omega
  rcases h with rfl | rfl | rfl | rfl | rfl | rfl | rfl | rfl | rfl | rfl | rfl | rfl | rfl | rfl | rfl | rfl | rfl | rfl | rfl | rfl | rfl | rfl | rfl | rfl | rfl | rfl | rfl | rfl | rfl | rfl | rfl | rfl
  all_goals exact ⟨_, _, rfl⟩
theorem tab_pure : D.pures tab = true := rfl
end Go.Mia
/- What functions of the program return: operands. -/
namespace Go.Mia
open Go

theorem opsCase_loop {ft : FT} (h75 : ft 75 = some (.ir f75)) {ks : List Int} {δ : Nat} {K : List Item} {X : Option Ret} (hl : ks.length ≤ 1000000000)
    (hX : allK (caseSplit true ks).1 1 = false → X = pan δ 10)
    (hK : allK (caseSplit true ks).1 1 = true → ∀ st : St, (∃ tk, st.σ 8 = .slice tk 1 ((caseSplit true ks).2.map (D.int .i64))) → st.low = 1 → st.recd = false → isoB δ (W ft ⟨1, false, [.tmp 6], none⟩ K [] st) = X) :
    ∀ (l : List Int) (i : Nat) (o : List Int) (tk : Tk) (st : St), ks.drop i = l → i ≤ ks.length → o.length ≤ i → o ++ (caseSplit (decide (i % 2 = 0)) l).2 = (caseSplit true ks).2 → allK (caseSplit true ks).1 1 = allK (caseSplit (decide (i % 2 = 0)) l).1 1 →
      TkOk st tk o.length → st.σ 2 = encInts ks → st.σ 8 = .slice tk 1 (o.map (D.int .i64)) → st.σ 27 = encInts ks → st.σ 28 = .int .i64 (ks.length : Int) → st.σ 29 = .int .i64 (i : Int) → st.low = 1 → st.recd = false →
      isoB δ (W ft ⟨1, false, [.tmp 6], none⟩ (.inLoop l81_12 :: .inBlock 1 :: K) [] st) = X := by
  have nt := fun e S δ => need_true h75 (e := e) (S := S) (δ := δ)
  have nf := fun e S δ => need_false h75 (e := e) (S := S) (δ := δ)
  intro l
  induction l with
  | nil =>
    intro i o tk st hd hi hoi hO hA g8 s2 s8 s27 s28 s29 hlow hrec
    have hn := drop_nil hd
    rw [W_inLoop]
    simp [l81_12, r81_6, s28, s29, hlow, hrec, hn]
    simp [caseSplit] at hO hA
    rw [hO] at s8
    exact hK (by rw [hA]; rfl) _ ⟨tk, by simp [s8]⟩ (by simp [hlow]) (by simp [hrec])
  | cons x l ih =>
    intro i o tk st hd hi hoi hO hA g8 s2 s8 s27 s28 s29 hlow hrec
    obtain ⟨h1, h2, h3⟩ := drop_get hd
    have h1' : (i : Int) < (ks.length : Int) := by omega
    have w : IntKind.i64.wrap ((i : Int) + 1) = (i : Int) + 1 := wrap64 (by omega) (by omega)
    have w1 : IntKind.i64.wrap ((ks.length : Int) - 1) = (ks.length : Int) - 1 := wrap64 (by omega) (by omega)
    have hlo : (o.length + 1) * 8 ≤ LIM := by unfold LIM; omega
    have hlen : l.length = ks.length - (i + 1) := by rw [← h3]; simp
    have ht : (i : Int).tmod 2 = ((i % 2 : Nat) : Int) := by rw [Int.tmod_eq_emod_of_nonneg (by omega)]; omega
    rw [W_inLoop]
    by_cases he : i % 2 = 0
    · have he' : ((i : Int).tmod 2 = 0) = True := by rw [ht, he]; simp
      have he1 : ¬ ((i + 1) % 2 = 0) := by omega
      by_cases hlast : i + 1 < ks.length
      · have hlast' : (i : Int) < (ks.length : Int) - 1 := by omega
        obtain ⟨y, r, rfl⟩ : ∃ y r, l = y :: r := by
          cases l with
          | nil => simp at hlen; omega
          | cons y r => exact ⟨y, r, rfl⟩
        simp only [he, decide_true, caseSplit] at hO hA
        by_cases hx : x = 0
        · simp [l81_12, r81_6, r81_7, r81_8, r81_9, r81_11, s2, s8, s27, s28, s29, hlow, hrec, h1', h2, w, w1, encInts, he', hlast', hx, nt]
          refine ih (i + 1) o tk _ h3 (by omega) (by omega) ?_ ?_ ?_ ?_ ?_ ?_ ?_ ?_ ?_ ?_
          · simp only [he1, decide_false]; simpa [caseSplit] using hO
          · simp only [he1, decide_false]; rw [hA]; simp [caseSplit, allK, hx]
          · exact g8.other (fun u' e hv hlt' => by simp [hv]) (by simp; omega)
          all_goals simp [s2, s8, s27, s28, encInts]
        · by_cases hx1 : x = 1
          · simp [l81_12, r81_6, r81_7, r81_8, r81_9, r81_11, s2, s8, s27, s28, s29, hlow, hrec, h1', h2, w, w1, encInts, he', hlast', hx, hx1, nt]
            refine ih (i + 1) o tk _ h3 (by omega) (by omega) ?_ ?_ ?_ ?_ ?_ ?_ ?_ ?_ ?_ ?_
            · simp only [he1, decide_false]; simpa [caseSplit] using hO
            · simp only [he1, decide_false]; rw [hA]; simp [caseSplit, allK, hx1]
            · exact g8.other (fun u' e hv hlt' => by simp [hv]) (by simp; omega)
            all_goals simp [s2, s8, s27, s28, encInts]
          · rw [hX (by rw [hA]; simp [allK, hx, hx1])]
            simp [l81_12, r81_6, r81_7, r81_8, r81_9, r81_11, s2, s8, s27, s28, s29, hlow, hrec, h1', h2, w, w1, encInts, he', hlast', hx, hx1, nf]
      · have hlast' : ¬ (i : Int) < (ks.length : Int) - 1 := by omega
        obtain rfl : l = [] := by
          cases l with
          | nil => rfl
          | cons y r => simp at hlen; omega
        simp only [he, decide_true, caseSplit] at hO hA
        rcases g8 with ⟨rfl, hz⟩ | ⟨u, rfl, hlv, hlt⟩
        · simp [l81_12, r81_6, r81_7, r81_8, r81_10, r81_11, s2, s8, s27, s28, s29, hlow, hrec, h1', h2, w, w1, encInts, he', hlast', hlo]
          refine ih (i + 1) (o ++ [x]) (.tok (st.nt + 1 + 5 + 10 + 3)) _ h3 (by omega) (by simp; omega) ?_ ?_ ?_ ?_ ?_ ?_ ?_ ?_ ?_ ?_
          · simpa [caseSplit] using hO
          · rw [hA]; simp [caseSplit]
          · exact .inr ⟨_, rfl, by simp [upd], by first | (simp; done) | (simp; omega)⟩
          all_goals simp [s2, s27, s28, encInts]
        · simp [l81_12, r81_6, r81_7, r81_8, r81_10, r81_11, s2, s8, s27, s28, s29, hlow, hrec, h1', h2, w, w1, encInts, he', hlast', hlo, hlv]
          refine ih (i + 1) (o ++ [x]) (.tok (st.nt + 1 + 5 + 10 + 3)) _ h3 (by omega) (by simp; omega) ?_ ?_ ?_ ?_ ?_ ?_ ?_ ?_ ?_ ?_
          · simpa [caseSplit] using hO
          · rw [hA]; simp [caseSplit]
          · exact .inr ⟨_, rfl, by simp [upd], by first | (simp; done) | (simp; omega)⟩
          all_goals simp [s2, s27, s28, encInts]
    · have he' : ((i : Int).tmod 2 = 0) = False := by rw [ht]; simp; omega
      have he1 : (i + 1) % 2 = 0 := by omega
      simp only [he, decide_false, caseSplit] at hO hA
      rcases g8 with ⟨rfl, hz⟩ | ⟨u, rfl, hlv, hlt⟩
      · simp [l81_12, r81_6, r81_7, r81_8, r81_10, r81_11, s2, s8, s27, s28, s29, hlow, hrec, h1', h2, w, w1, encInts, he', hlo]
        refine ih (i + 1) (o ++ [x]) (.tok (st.nt + 1 + 5 + 10 + 3)) _ h3 (by omega) (by simp; omega) ?_ ?_ ?_ ?_ ?_ ?_ ?_ ?_ ?_ ?_
        · simp only [he1, decide_true]; simpa using hO
        · simp only [he1, decide_true]; exact hA
        · exact .inr ⟨_, rfl, by simp [upd], by first | (simp; done) | (simp; omega)⟩
        all_goals simp [s2, s27, s28, encInts]
      · simp [l81_12, r81_6, r81_7, r81_8, r81_10, r81_11, s2, s8, s27, s28, s29, hlow, hrec, h1', h2, w, w1, encInts, he', hlo, hlv]
        refine ih (i + 1) (o ++ [x]) (.tok (st.nt + 1 + 5 + 10 + 3)) _ h3 (by omega) (by simp; omega) ?_ ?_ ?_ ?_ ?_ ?_ ?_ ?_ ?_ ?_
        · simp only [he1, decide_true]; simpa using hO
        · simp only [he1, decide_true]; exact hA
        · exact .inr ⟨_, rfl, by simp [upd], by first | (simp; done) | (simp; omega)⟩
        all_goals simp [s2, s27, s28, encInts]

theorem opsPart_loop {ft : FT} (h75 : ft 75 = some (.ir f75)) {ks : List Int} {δ : Nat} {K : List Item} {X : Option Ret} (hl : ks.length ≤ 1000000000)
    (hX : (allK (ks.take 1) 3 && allK (ks.drop 1) 2) = false → X = pan δ 10)
    (hK : (allK (ks.take 1) 3 && allK (ks.drop 1) 2) = true → ∀ st : St, st.low = 1 → st.recd = false → isoB δ (W ft ⟨1, false, [.tmp 6], none⟩ K [] st) = X) :
    ∀ (l : List Int) (i : Nat) (st : St), ks.drop i = l → i ≤ ks.length → (allK (ks.take 1) 3 && allK (ks.drop 1) 2) = (if i = 0 then allK (l.take 1) 3 && allK (l.drop 1) 2 else allK l 2) →
      st.σ 60 = encInts ks → st.σ 61 = .int .i64 (ks.length : Int) → st.σ 62 = .int .i64 (i : Int) → st.low = 1 → st.recd = false →
      isoB δ (W ft ⟨1, false, [.tmp 6], none⟩ (.inLoop l81_23 :: .inBlock 3 :: K) [] st) = X := by
  have nt := fun e S δ => need_true h75 (e := e) (S := S) (δ := δ)
  have nf := fun e S δ => need_false h75 (e := e) (S := S) (δ := δ)
  intro l
  induction l with
  | nil =>
    intro i st hd hi hA s60 s61 s62 hlow hrec
    have hn := drop_nil hd
    rw [W_inLoop]
    simp [l81_23, r81_16, s61, s62, hlow, hrec, hn]
    exact hK (by rw [hA]; simp [allK]) _ (by simp [hlow]) (by simp [hrec])
  | cons x l ih =>
    intro i st hd hi hA s60 s61 s62 hlow hrec
    obtain ⟨h1, h2, h3⟩ := drop_get hd
    have h1' : (i : Int) < (ks.length : Int) := by omega
    have w : IntKind.i64.wrap ((i : Int) + 1) = (i : Int) + 1 := wrap64 (by omega) (by omega)
    rw [W_inLoop]
    by_cases hi0 : i = 0
    · have hi0' : (i = 0) = True := by simp [hi0]
      simp only [hi0, if_true] at hA
      have hA' : (allK (ks.take 1) 3 && allK (ks.drop 1) 2) = ((decide (x = 0) || decide (x = 3)) && allK l 2) := by rw [hA]; simp [allK]
      by_cases hx : x = 0
      · simp [l81_23, r81_16, r81_17, r81_18, r81_19, r81_20, r81_21, r81_22, s60, s61, s62, hlow, hrec, h1', h2, w, encInts, hi0', hx, nt]
        refine ih (i + 1) _ h3 (by omega) ?_ ?_ ?_ ?_ ?_ ?_
        · rw [hA']; simp [hx]
        all_goals simp [s60, s61, encInts]
      · by_cases hx3 : x = 3
        · simp [l81_23, r81_16, r81_17, r81_18, r81_19, r81_20, r81_21, r81_22, s60, s61, s62, hlow, hrec, h1', h2, w, encInts, hi0', hx, hx3, nt]
          refine ih (i + 1) _ h3 (by omega) ?_ ?_ ?_ ?_ ?_ ?_
          · rw [hA']; simp [hx3]
          all_goals simp [s60, s61, encInts]
        · rw [hX (by rw [hA']; simp [hx, hx3])]
          simp [l81_23, r81_16, r81_17, r81_18, r81_19, r81_20, r81_21, r81_22, s60, s61, s62, hlow, hrec, h1', h2, w, encInts, hi0', hx, hx3, nf]
    · have hi0' : ¬ (i : Int) = 0 := by omega
      simp only [hi0, if_false] at hA
      by_cases hx : x = 0
      · simp [l81_23, r81_16, r81_17, r81_18, r81_19, r81_20, r81_21, r81_22, s60, s61, s62, hlow, hrec, h1', h2, w, encInts, hi0, hi0', hx, nt]
        refine ih (i + 1) _ h3 (by omega) ?_ ?_ ?_ ?_ ?_ ?_
        · rw [hA]; simp [allK, hx]
        all_goals simp [s60, s61, encInts]
      · by_cases hx3 : x = 2
        · simp [l81_23, r81_16, r81_17, r81_18, r81_19, r81_20, r81_21, r81_22, s60, s61, s62, hlow, hrec, h1', h2, w, encInts, hi0, hi0', hx, hx3, nt]
          refine ih (i + 1) _ h3 (by omega) ?_ ?_ ?_ ?_ ?_ ?_
          · rw [hA]; simp [allK, hx3]
          all_goals simp [s60, s61, encInts]
        · rw [hX (by rw [hA]; simp [allK, hx, hx3])]
          simp [l81_23, r81_16, r81_17, r81_18, r81_19, r81_20, r81_21, r81_22, s60, s61, s62, hlow, hrec, h1', h2, w, encInts, hi0, hi0', hx, hx3, nf]

theorem opsAll_loop {ft : FT} (h75 : ft 75 = some (.ir f75)) {ks : List Int} {kk : Int} {δ : Nat} {K : List Item} {X : Option Ret} (hl : ks.length ≤ 1000000000)
    (hX : (decide (kk = 0) || allK ks kk) = false → X = pan δ 10)
    (hK : (decide (kk = 0) || allK ks kk) = true → ∀ st : St, st.low = 1 → st.recd = false → isoB δ (W ft ⟨1, false, [.tmp 6], none⟩ K [] st) = X) :
    ∀ (l : List Int) (i : Nat) (st : St), ks.drop i = l → i ≤ ks.length → (decide (kk = 0) || allK ks kk) = (decide (kk = 0) || allK l kk) →
      st.σ 7 = .int .i64 kk → st.σ 82 = encInts ks → st.σ 83 = .int .i64 (ks.length : Int) → st.σ 84 = .int .i64 (i : Int) → st.low = 1 → st.recd = false →
      isoB δ (W ft ⟨1, false, [.tmp 6], none⟩ (.inLoop l81_32 :: .inBlock 5 :: K) [] st) = X := by
  have nt := fun e S δ => need_true h75 (e := e) (S := S) (δ := δ)
  have nf := fun e S δ => need_false h75 (e := e) (S := S) (δ := δ)
  intro l
  induction l with
  | nil =>
    intro i st hd hi hA s7 s60 s61 s62 hlow hrec
    have hn := drop_nil hd
    rw [W_inLoop]
    simp [l81_32, r81_28, s61, s62, hlow, hrec, hn]
    exact hK (by rw [hA]; simp [allK]) _ (by simp [hlow]) (by simp [hrec])
  | cons x l ih =>
    intro i st hd hi hA s7 s60 s61 s62 hlow hrec
    obtain ⟨h1, h2, h3⟩ := drop_get hd
    have h1' : (i : Int) < (ks.length : Int) := by omega
    have w : IntKind.i64.wrap ((i : Int) + 1) = (i : Int) + 1 := wrap64 (by omega) (by omega)
    rw [W_inLoop]
    by_cases hk : kk = 0
    · simp [l81_32, r81_28, r81_29, r81_30, r81_31, s7, s60, s61, s62, hlow, hrec, h1', h2, w, encInts, hk, nt]
      refine ih (i + 1) _ h3 (by omega) ?_ ?_ ?_ ?_ ?_ ?_ ?_
      · simp [hk]
      all_goals simp [s7, s60, s61, encInts, hk]
    · by_cases hx : x = 0
      · simp [l81_32, r81_28, r81_29, r81_30, r81_31, s7, s60, s61, s62, hlow, hrec, h1', h2, w, encInts, hk, hx, nt]
        refine ih (i + 1) _ h3 (by omega) ?_ ?_ ?_ ?_ ?_ ?_ ?_
        · rw [hA]; simp [allK, hx]
        all_goals simp [s7, s60, s61, encInts]
      · by_cases hx3 : x = kk
        · subst hx3
          simp [l81_32, r81_28, r81_29, r81_30, r81_31, s7, s60, s61, s62, hlow, hrec, h1', h2, w, encInts, hk, hx, nt]
          refine ih (i + 1) _ h3 (by omega) ?_ ?_ ?_ ?_ ?_ ?_ ?_
          · rw [hA]; simp [allK]
          all_goals simp [s7, s60, s61, encInts]
        · rw [hX (by rw [hA]; simp [allK, hk, hx, hx3])]
          simp [l81_32, r81_28, r81_29, r81_30, r81_31, s7, s60, s61, s62, hlow, hrec, h1', h2, w, encInts, hk, hx, hx3, nf]

theorem operands_ok {ft : FT} (hf : ft 81 = some (.ir f81)) (h75 : ft 75 = some (.ir f75)) (h154 : ft 154 = some (.ir f154)) {op n : Int} {d : Dat} {subs : List Ex} {ks : List Int} (hl : ks.length ≤ 1000000000) (ho1 : 4 ≤ op) (ho2 : op ≤ 32) {S : Store} {δ : Nat} :
    C ft none (.fn 81 [] []) [.cptr tab, (Ex.mk op n d subs).enc, encInts ks] S δ = finK δ (opsK op ks) := by
  have hsl := caseSplit_len true ks
  have hc := fun S δ => commonKind_ok h154 h75 (ks := ks) hl (S := S) (δ := δ)
  have hc2 := fun S δ => commonKind_ok h154 h75 (ks := (caseSplit true ks).2) (by omega) (S := S) (δ := δ)
  obtain ⟨f, r, htab⟩ := tab_at (op := op) (by omega) ho2
  have o0 : 0 ≤ op := by omega
  have o33 : op.toNat < 33 := by omega
  simp only [encInts] at hc hc2
  rw [C_iso hf (by simp [f81]) (by simp [encInts, tab_pure])]
  by_cases h20 : op = 20
  · have h20 := eq_true h20
    simp [f81, r81_0, r81_1, r81_2, r81_3, r81_4, r81_5, Ex.enc_mk, encInts, htab, o0, o33, h20]
    refine opsCase_loop h75 hl ?_ ?_ ks 0 [] .full _ rfl (by omega) (by simp) (by simp) (by simp) (.inl ⟨rfl, rfl⟩) ?_ ?_ ?_ ?_ ?_ ?_ ?_
    · intro h; simp [opsK, h, finK, h20]
    · rintro h st ⟨tk, s8⟩ hlow hrec
      rcases commonK_cases (caseSplit true ks).2 0 with hk | hk
      · simp [r81_13, s8, hlow, hrec, hc2, opsK, h, finK, hk, h20]
      · simp [r81_13, s8, hlow, hrec, hc2, opsK, h, finK, hk, h20]
    all_goals simp [encInts]
  by_cases h25 : op = 25
  · have h25 := eq_true h25
    have h20 := eq_false h20
    simp [f81, r81_0, r81_1, r81_2, r81_3, r81_14, r81_15, Ex.enc_mk, encInts, htab, o0, o33, h20, h25]
    refine opsPart_loop h75 hl ?_ ?_ ks 0 _ rfl (by omega) (by simp) ?_ ?_ ?_ ?_ ?_
    · intro h; simp only [opsK, finK, h, h20, h25]; simp
    · intro h st hlow hrec
      simp only [opsK, h, h20, h25]
      simp [r81_24, hlow, hrec, finK]
    all_goals simp [encInts]
  by_cases hm : ofK op = -1
  · rcases commonK_cases ks 0 with hk | hk
    · simp [f81, r81_0, r81_1, r81_2, r81_3, r81_14, r81_25, r81_26, Ex.enc_mk, encInts, htab, o0, o33, h20, h25, hm, hc, opsK, finK, hk]
    · simp [f81, r81_0, r81_1, r81_2, r81_3, r81_14, r81_25, r81_26, Ex.enc_mk, encInts, htab, o0, o33, h20, h25, hm, hc, opsK, finK, hk]
  · simp [f81, r81_0, r81_1, r81_2, r81_3, r81_14, r81_25, r81_27, Ex.enc_mk, encInts, htab, o0, o33, h20, h25, hm]
    refine opsAll_loop (kk := ofK op) h75 hl ?_ ?_ ks 0 _ rfl (by omega) (by simp) ?_ ?_ ?_ ?_ ?_ ?_
    · intro h
      simp only [Bool.or_eq_false_iff, decide_eq_false_iff_not] at h
      simp [opsK, h20, h25, hm, h.1, h.2, finK]
    · intro h st hlow hrec
      simp only [Bool.or_eq_true, decide_eq_true_eq] at h
      rcases h with h | h
      · simp [r81_33, hlow, hrec, finK, opsK, h20, h25, hm, h]
      · by_cases h0 : ofK op = 0
        · simp [r81_33, hlow, hrec, finK, opsK, h20, h25, hm, h0]
        · simp [r81_33, hlow, hrec, finK, opsK, h20, h25, hm, h, h0]
    all_goals simp [encInts]
end Go.Mia
/- What functions of the program return: Concat. -/
namespace Go.Mia
open Go

theorem chunks_one : ∀ cs : List D, chunks 1 cs.length cs = cs
  | [] => rfl
  | c :: cs => by
    simp only [List.length_cons, chunks, if_true, List.head?_cons, Option.getD_some, List.drop_succ_cons, List.drop_zero]
    rw [chunks_one cs]
theorem pures_ints : ∀ l : List Int, D.pures (l.map (D.int .i64)) = true
  | [] => rfl
  | x :: l => by simp [pures_ints l]

theorem Concat_ok {ft : FT} (hf : ft 77 = some (.ir f77)) {ks ps : List Int} (hk : ks.length ≤ 1000000) (hp : ps.length ≤ 1000000) {S : Store} {δ : Nat} :
    C ft none (.fn 77 [] []) [.slice .none 1 [encInts ks, encInts ps]] S δ = ans δ (encInts (ks ++ ps)) := by
  have w1 : IntKind.i64.wrap 1 = 1 := by decide
  have w2 : IntKind.i64.wrap 2 = 2 := by decide
  have w3 : IntKind.i64.wrap (ks.length : Int) = (ks.length : Int) := wrap64 (by omega) (by omega)
  have w4 : IntKind.i64.wrap ((ks.length : Int) + (ps.length : Int)) = (ks.length : Int) + (ps.length : Int) := wrap64 (by omega) (by omega)
  have n3 : ¬ (ks.length : Int) < 0 := by omega
  have n4 : ¬ (ks.length : Int) + (ps.length : Int) < 0 := by omega
  have hg : ∀ (δ j : Nat) (st : St), growOp δ j 1 8 [.int .i64 0] (.slice .full 1 []) (.int .i64 ((ks.length : Int) + (ps.length : Int))) st =
      some (.vsl δ (st.m + j) 0 0 1 (ks.length + ps.length), { st with S := upd2 st.S δ (st.m + j) (.cells (List.replicate (ks.length + ps.length) (.int .i64 0))) }) := by
    intro δ j st
    have e : ((ks.length : Int) + (ps.length : Int)).toNat = ks.length + ps.length := by omega
    have e2 : (0 ≤ (ks.length : Int) + (ps.length : Int)) ∧ (ks.length + ps.length) * 8 ≤ LIM ∧ ks.length + ps.length ≤ LIM := by unfold LIM; omega
    simp only [growOp, e, e2]
    simp
  have hc : chunks 1 (ks.length + ps.length) (ks.map (D.int .i64) ++ ps.map (D.int .i64)) = ks.map (D.int .i64) ++ ps.map (D.int .i64) := by
    have := chunks_one (ks.map (D.int .i64) ++ ps.map (D.int .i64))
    simpa using this
  have hp1 : D.pures (ks.map (D.int .i64) ++ ps.map (D.int .i64)) = true := by
    rw [← List.map_append]; exact pures_ints _
  have hfl : ∀ l : List Int, (l.map (D.int .i64)).flatMap D.cells = l.map (D.int .i64) := by
    intro l; induction l with
    | nil => rfl
    | cons x l ih => simp [ih]
  have f1 : (fullOr ∘ D.int .i64) = D.int .i64 := rfl
  have f2 : (D.degr1 ∘ fullOr ∘ D.int .i64) = D.int .i64 := rfl
  have f3 : (D.degr1 ∘ D.int .i64) = D.int .i64 := rfl
  have hd : List.drop (ks.length + ps.length) (ks.map (D.int .i64) ++ List.replicate ps.length (D.int .i64 0)) = [] := List.drop_eq_nil_of_le (by simp)
  rw [C_iso hf (by simp [f77]) (by simp [encInts])]
  simp [f77, r77_0, r77_1, r77_2, encInts]
  rw [W_inLoop]
  simp [l77_9, r77_3, r77_4, r77_5, r77_6, r77_8, w1, w2, w3, w4, n3, n4]
  rw [W_inLoop]
  simp [l77_9, r77_3, r77_4, r77_5, r77_6, r77_8, w1, w2, w3, w4, n3, n4]
  rw [W_inLoop]
  simp [l77_9, r77_3, r77_4, r77_5, r77_6, r77_8, w1, w2, w3, w4, n3, n4, r77_10, hg, r77_11]
  rw [W_inLoop]
  simp [l77_16, r77_12, r77_13, r77_14, r77_15, w1, w2, hfl]
  rw [W_inLoop]
  simp [l77_16, r77_12, r77_13, r77_14, r77_15, w1, w2, hfl]
  rw [W_inLoop]
  simp [l77_16, r77_12, r77_13, r77_14, r77_15, w1, w2, r77_17, FUEL, expD, f1, f2, f3, hd, hc, hp1]
end Go.Mia
/- What functions of the program return: the visit of formed, its tests. -/
namespace Go.Mia
open Go

section
variable {ft : FT} {δ : Nat} {st : St} {op n : Int} {d : Dat} {subs : List Ex}

/-- what a test leaves of the slots that are looked at later -/
def KeptV (σ σ' : Nat → D) (t : Nat) (b : Bool) : Prop := σ' t = .bool b ∧ σ' 1 = σ 1 ∧ σ' 2 = σ 2 ∧ σ' 3 = σ 3 ∧ σ' 4 = σ 4 ∧ σ' 5 = σ 5 ∧ σ' 8 = σ 8 ∧ σ' 9 = σ 9 ∧ σ' 10 = σ 10

theorem vis2 (h151 : ft 151 = some (.ir f151)) {m depth : Int} (s1 : st.σ 1 = .int .i64 depth) (s2 : st.σ 2 = .ptr 1 3 0) (s5 : st.σ 5 = .ptr δ 0 0) (hm : st.S 1 3 = .cells [.int .i64 m]) (hS : st.S δ 0 = .cells (ecells op n d subs)) :
    ∃ σ' lg', runL (C ft) ⟨δ, false, [.tmp 7], none⟩ (number 0 r150_2) ⟨st, [], fun _ => none⟩ = some (.run ⟨{ st with σ := σ' }, [], lg'⟩) ∧
      KeptV st.σ σ' 26 (decide (300 < m) || decide (30 < depth) || !(decide (1 ≤ op) && decide (op ≤ 32))) := by
  have hk := fun S δ => known_ok h151 (op := op) (S := S) (δ := δ)
  by_cases c1 : 300 < m
  · exact ⟨_, _, by simp [r150_2, s1, s2, s5, hm, hS, c1]; exact ⟨rfl, rfl⟩, by simp [KeptV, c1]⟩
  · by_cases c2 : 30 < depth
    · exact ⟨_, _, by simp [r150_2, s1, s2, s5, hm, hS, c1, c2]; exact ⟨rfl, rfl⟩, by simp [KeptV, c1, c2]⟩
    · exact ⟨_, _, by simp [r150_2, s1, s2, s5, hm, hS, ecells, c1, c2, hk]; exact ⟨rfl, rfl⟩, by simp [KeptV, c1, c2]⟩

theorem vis5 {len mn mx sp : Int} {r : List D} (h0 : 0 ≤ len) (hl : len ≤ 9223372036854775807) (hmn : 0 ≤ mn) (hmn' : mn ≤ 100) (hsp : mn < mx → sp ≠ 0) (s8 : st.σ 8 = .cptr (.int .i64 mn :: .int .i64 mx :: .int .i64 sp :: r)) (s9 : st.σ 9 = .int .i64 len) :
    ∃ σ' lg', runL (C ft) ⟨δ, false, [.tmp 7], none⟩ (number 0 r150_5) ⟨st, [], fun _ => none⟩ = some (.run ⟨{ st with σ := σ' }, [], lg'⟩) ∧
      KeptV st.σ σ' 70 (decide (len < mn) || decide (mx < len) || (decide (mn < len) && decide ((len - mn).tmod sp ≠ 0))) := by
  have w : IntKind.i64.wrap (len - mn) = len - mn := wrap64 (by omega) (by omega)
  by_cases c1 : len < mn
  · exact ⟨_, _, by simp [r150_5, s8, s9, c1]; exact ⟨rfl, rfl⟩, by simp [KeptV, c1, s8, s9]⟩
  · by_cases c2 : mx < len
    · exact ⟨_, _, by simp [r150_5, s8, s9, c1, c2]; exact ⟨rfl, rfl⟩, by simp [KeptV, c1, c2, s8, s9]⟩
    · by_cases c3 : mn < len
      · have c4 := hsp (by omega)
        by_cases c5 : (len - mn).tmod sp = 0
        · exact ⟨_, _, by simp [r150_5, s8, s9, c1, c2, c3, c4, c5, w]; exact ⟨rfl, rfl⟩, by simp [KeptV, c1, c2, c3, c5, s8, s9]⟩
        · exact ⟨_, _, by simp [r150_5, s8, s9, c1, c2, c3, c4, c5, w]; exact ⟨rfl, rfl⟩, by simp [KeptV, c1, c2, c3, c5, s8, s9]⟩
      · exact ⟨_, _, by simp [r150_5, s8, s9, c1, c2, c3]; exact ⟨rfl, rfl⟩, by simp [KeptV, c1, c2, c3, s8, s9]⟩

theorem vis7 (hD : ∀ S δ, C ft none (.fn 152 [] []) [d.enc] S δ = ans δ (.int .i64 (if d.valid then 0 else 2))) (s5 : st.σ 5 = .ptr δ 0 0) (hS : st.S δ 0 = .cells (ecells op n d subs)) :
    ∃ σ' lg', runL (C ft) ⟨δ, false, [.tmp 7], none⟩ (number 0 r150_7) ⟨st, [], fun _ => none⟩ = some (.run ⟨{ st with σ := σ' }, [], lg'⟩) ∧
      KeptV st.σ σ' 90 (if op = 1 then !d.valid else decide (d ≠ Dat.null)) := by
  have hd : d = Dat.null ↔ d.k = 0 ∧ d.n = 0 ∧ d.s = [] := by cases d; simp [Dat.null]
  simp only [Dat.enc, Dat.cells] at hD
  by_cases c1 : op = 1
  · cases hv : d.valid with
    | true => exact ⟨_, _, by simp [r150_7, s5, hS, ecells, c1, hD, hv]; exact ⟨rfl, rfl⟩, by simp [KeptV, c1, hv]⟩
    | false => exact ⟨_, _, by simp [r150_7, s5, hS, ecells, c1, hD, hv]; exact ⟨rfl, rfl⟩, by simp [KeptV, c1, hv]⟩
  · refine ⟨_, _, by simp [r150_7, s5, hS, ecells, c1, eqAgg, eqs, eqLeaf]; exact ⟨rfl, rfl⟩, ?_⟩
    simp [KeptV, c1, hd]

theorem vis9 (s5 : st.σ 5 = .ptr δ 0 0) (hS : st.S δ 0 = .cells (ecells op n d subs)) :
    ∃ σ' lg', runL (C ft) ⟨δ, false, [.tmp 7], none⟩ (number 0 r150_9) ⟨st, [], fun _ => none⟩ = some (.run ⟨{ st with σ := σ' }, [], lg'⟩) ∧
      (σ' 10 = .bool (decide (op = 2) || decide (op = 3)) ∧ σ' 1 = st.σ 1 ∧ σ' 2 = st.σ 2 ∧ σ' 3 = st.σ 3 ∧ σ' 4 = st.σ 4 ∧ σ' 5 = st.σ 5) := by
  by_cases c1 : op = 2
  · exact ⟨_, _, by simp [r150_9, s5, hS, ecells, c1]; exact ⟨rfl, rfl⟩, by simp [c1]⟩
  · exact ⟨_, _, by simp [r150_9, s5, hS, ecells, c1]; exact ⟨rfl, rfl⟩, by simp [c1]⟩

theorem vis10 {b : Bool} (s10 : st.σ 10 = .bool b) (s5 : st.σ 5 = .ptr δ 0 0) (hS : st.S δ 0 = .cells (ecells op n d subs)) :
    ∃ σ' lg', runL (C ft) ⟨δ, false, [.tmp 7], none⟩ (number 0 r150_10) ⟨st, [], fun _ => none⟩ = some (.run ⟨{ st with σ := σ' }, [], lg'⟩) ∧
      KeptV st.σ σ' 118 (if b then decide (n < 0) || decide (999 < n) else decide (n ≠ 0)) := by
  cases b with
  | true =>
    by_cases c1 : n < 0
    · exact ⟨_, _, by simp [r150_10, s5, s10, hS, ecells, c1]; exact ⟨rfl, rfl⟩, by simp [KeptV, c1, s10]⟩
    · by_cases c2 : 999 < n
      · exact ⟨_, _, by simp [r150_10, s5, s10, hS, ecells, c1, c2]; exact ⟨rfl, rfl⟩, by simp [KeptV, c1, c2, s10]⟩
      · exact ⟨_, _, by simp [r150_10, s5, s10, hS, ecells, c1, c2]; exact ⟨rfl, rfl⟩, by simp [KeptV, c1, c2, s10]⟩
  | false =>
    exact ⟨_, _, by simp [r150_10, s5, s10, hS, ecells]; exact ⟨rfl, rfl⟩, by simp [KeptV, s10]⟩
end

theorem arity_eq {op : Int} (h1 : 1 ≤ op) (h2 : op ≤ 32) {len : Int} (h0 : 0 ≤ len) :
    (decide (len < (rowOf op).1) || decide ((rowOf op).2.1 < len) || (decide ((rowOf op).1 < len) && decide ((len - (rowOf op).1).tmod (rowOf op).2.2 ≠ 0))) = (decide (len < (shp op).1) || decide ((shp op).2.1 < len) || ((shp op).2.2 && decide (len.tmod 2 = 0))) := by
  by_cases g1 : op = 1 ∨ op = 2 ∨ op = 3
  · simp [rowOf, shp, g1]; omega
  by_cases g2 : op = 20
  · subst g2
    simp [rowOf, shp]
    by_cases c1 : len < 3
    · simp [c1]
    · by_cases c2 : 41 < len
      · simp [c2]
      · simp only [c1, c2, decide_false, Bool.false_or]
        rw [Int.tmod_eq_emod_of_nonneg h0, Int.tmod_eq_emod_of_nonneg (by omega)]
        by_cases c3 : 3 < len
        · simp only [c3, decide_true, Bool.true_and]
          rw [Bool.eq_iff_iff]
          simp
          omega
        · have : len = 3 := by omega
          subst this
          simp
  have hs : (rowOf op).2.2 = 1 := by
    unfold rowOf; rw [if_neg g1]; simp only [g2, if_false]; (repeat' split) <;> rfl
  have e : rowOf op = ((shp op).1, (shp op).2.1, 1) ∧ (shp op).2.2 = false := by
    unfold rowOf shp
    simp only [g1, g2, if_false]
    (repeat' split) <;> simp
  simp [e.1, e.2]

theorem nodeBad_eq {op n depth len : Int} {d : Dat} : nodeBad op n d len depth = ((decide (len < (shp op).1) || decide ((shp op).2.1 < len) || ((shp op).2.2 && decide (len.tmod 2 = 0))) || decide (30 < depth) || (if op = 1 then !d.valid else decide (d ≠ Dat.null)) ||
    (if (decide (op = 2) || decide (op = 3)) = true then decide (n < 0) || decide (999 < n) else decide (n ≠ 0))) := by
  unfold nodeBad
  generalize (decide (len < (shp op).1) || decide ((shp op).2.1 < len) || ((shp op).2.2 && decide (len.tmod 2 = 0))) = a
  generalize decide (30 < depth) = b
  generalize d.valid = v
  generalize decide (d ≠ Dat.null) = z
  by_cases h1 : op = 1
  · subst h1
    by_cases hn : n = 0 <;> simp [hn]
  · by_cases h2 : op = 2 ∨ op = 3
    · have h2' : (decide (op = 2) || decide (op = 3)) = true := by simpa using h2
      simp only [h1, h2, h2', if_true, if_false]
    · have h2' : ¬ (decide (op = 2) || decide (op = 3)) = true := by simpa using h2
      simp [h1, h2, h2']
theorem row_span {op : Int} (h : (rowOf op).1 < (rowOf op).2.1) : (rowOf op).2.2 ≠ 0 := by
  unfold rowOf at *
  (repeat' split) <;> simp_all
theorem row_min (op : Int) : 0 ≤ (rowOf op).1 ∧ (rowOf op).1 ≤ 100 := by
  unfold rowOf
  (repeat' split) <;> simp
end Go.Mia
/- What functions of the program return: the visit of formed. -/
namespace Go.Mia
open Go

/-- the visit, as formed makes it -/
def visF : D := .fn 150 [] [.ptr 1 3 0, .ptr 1 0 0, .ptr 1 5 0]

theorem trim_get {δ : Nat} {S T : Store} (h : trim δ S = T) {d i : Nat} (hd : d < δ) : S d i = T d i := by
  rw [← h]; simp [hd]

theorem vis_loop {ft : FT} {depth : Int} {subs : List Ex} {δ : Nat} {S0 : Store} (h1δ : 1 < δ) (hlen : subs.length ≤ 1000000000) (hd1 : 1 ≤ depth) (hd2 : depth ≤ 30)
    (hS0 : S0 1 0 = .cells [.cptr tab]) (hS5 : S0 1 5 = .cells [visF])
    (ih : ∀ e ∈ subs, ∀ (m : Int) (S : Store) (δ : Nat), 0 ≤ m → m ≤ 300 → 1 < δ → S 1 0 = .cells [.cptr tab] → S 1 3 = .cells [.int .i64 m] → S 1 5 = .cells [visF] →
      C ft none (.fn 150 [] [.ptr 1 3 0, .ptr 1 0 0, .ptr 1 5 0]) [e.enc, .int .i64 (depth + 1)] S δ = some ⟨.ret (.bool (e.vis (depth + 1) m).1), false, 1, some (upd2 (trim δ S) 1 3 (.cells [.int .i64 (e.vis (depth + 1) m).2]))⟩) :
    ∀ (l : List Ex) (i : Nat) (m : Int) (st : St), subs.drop i = l → i ≤ subs.length → 0 ≤ m → m ≤ 300 → st.σ 1 = .int .i64 depth → st.σ 4 = .ptr 1 5 0 → st.σ 120 = .slice .none 6 (subs.map Ex.enc) → st.σ 121 = .int .i64 (subs.length : Int) → st.σ 122 = .int .i64 (i : Int) →
      trim δ st.S = upd2 (trim δ S0) 1 3 (.cells [.int .i64 m]) → st.low = 1 → st.recd = false →
      deepB (W ft ⟨δ, false, [.tmp 7], none⟩ [.inLoop l150_18, .inBlock 0, .code (.seq (.region r150_19) .ret)] [] st) = some ⟨.ret (.bool (visL l (depth + 1) m).1), false, 1, some (upd2 (trim δ S0) 1 3 (.cells [.int .i64 (visL l (depth + 1) m).2]))⟩ := by
  intro l
  induction l with
  | nil =>
    intro i m st hd hi m0 m3 s1 s4 s120 s121 s122 hT hlow hrec
    have hn := drop_nil hd
    rw [W_inLoop]
    simp [l150_18, r150_13, r150_19, s121, s122, hlow, hrec, hn, visL, hT, h1δ]
  | cons x l ihl =>
    intro i m st hd hi m0 m3 s1 s4 s120 s121 s122 hT hlow hrec
    obtain ⟨h1, h2, h3⟩ := drop_get hd
    have h1' : (i : Int) < (subs.length : Int) := by omega
    have w : IntKind.i64.wrap ((i : Int) + 1) = (i : Int) + 1 := wrap64 (by omega) (by omega)
    have wd : IntKind.i64.wrap (depth + 1) = depth + 1 := wrap64 (by omega) (by omega)
    have e3 : st.S 1 3 = .cells [.int .i64 m] := by rw [trim_get hT h1δ]; simp
    have e0 : st.S 1 0 = .cells [.cptr tab] := by rw [trim_get hT h1δ]; simp [h1δ, hS0]
    have e5 : st.S 1 5 = .cells [visF] := by rw [trim_get hT h1δ]; simp [h1δ, hS5]
    have hne : (1 = δ) = False := by simp; omega
    have hne2 : (δ = 1) = False := by simp; omega
    have h0δ : 0 < δ := by omega
    have hmin : min 1 δ = 1 := by omega
    have h1δ' : 1 < δ + 1 := by omega
    have hv := fun S δ => ih x (List.mem_of_getElem? h2) m S δ m0 m3
    simp only [visF] at e5 hv
    rw [W_inLoop]
    cases hb : (x.vis (depth + 1) m).1 with
    | false =>
      simp [l150_18, r150_13, r150_14, r150_15, r150_16, s1, s4, s120, s121, s122, hlow, hrec, h1', h2, w, wd, hv, hb, e0, e3, e5, upd2_ne_d, hne, hne2, h0δ, h1δ, h1δ', visL, hT, hmin]
    | true =>
      have hbd := vis_bound x m0 m3 (depth := depth + 1) (by omega) hb
      simp [l150_18, r150_13, r150_14, r150_15, r150_17, s1, s4, s120, s121, s122, hlow, hrec, h1', h2, w, wd, hv, hb, e0, e3, e5, upd2_ne_d, hne, hne2, h0δ, h1δ, h1δ', visL, hmin]
      refine ihl (i + 1) (x.vis (depth + 1) m).2 _ h3 (by omega) (by omega) (by omega) ?_ ?_ ?_ ?_ ?_ ?_ ?_ ?_
      all_goals simp [s1, s4, s120, s121, hT, h1δ, hlow, hmin]

theorem visit_ok {ft : FT} (hf : ft 150 = some (.ir f150)) (h151 : ft 151 = some (.ir f151)) (h152 : ft 152 = some (.ir f152)) (h198 : ft 198 = some (.ir f198)) (h257 : ft 257 = some (.ir f257)) (h260 : ft 260 = some (.ir f260)) (h266 : ft 266 = some (.ir f266)) (h271 : ft 271 = some (.ir f271)) :
    ∀ (e : Ex) (depth m : Int) (S : Store) (δ : Nat), e.rng → 1 ≤ depth → depth ≤ 31 → 0 ≤ m → m ≤ 300 → 1 < δ → S 1 0 = .cells [.cptr tab] → S 1 3 = .cells [.int .i64 m] → S 1 5 = .cells [visF] →
      C ft none (.fn 150 [] [.ptr 1 3 0, .ptr 1 0 0, .ptr 1 5 0]) [e.enc, .int .i64 depth] S δ = some ⟨.ret (.bool (e.vis depth m).1), false, 1, some (upd2 (trim δ S) 1 3 (.cells [.int .i64 (e.vis depth m).2]))⟩ := by
  intro e
  induction e using Ex.ind with
  | h op n d subs ih =>
    intro depth m S δ hrng d1 d2 m0 m3 h1δ hS0 hS3 hS5
    simp only [Ex.rng] at hrng
    obtain ⟨ro, rn, rk, rdn, rs, rl, rr⟩ := hrng
    have hlen : (subs.length : Int) ≤ 9223372036854775807 := by unfold maxLen at rl; omega
    have hD := fun S δ => CheckDatum_ok h152 h198 h257 h260 h266 h271 (d := d) rdn.1 rdn.2 (S := S) (δ := δ)
    have hne : (1 = δ) = False := by simp; omega
    have hne2 : (δ = 1) = False := by simp; omega
    have h0δ : 0 < δ := by omega
    have hmin : min 1 δ = 1 := by omega
    have hmin2 : min δ 1 = 1 := by omega
    have wm : IntKind.i64.wrap (m + 1) = m + 1 := wrap64 (by omega) (by omega)
    have hsp := row_span (op := op)
    obtain ⟨hmn0, hmn1⟩ := row_min op
    simp only [Ex.vis]
    rw [C_deep hf (by simp [f150]) (by simp)]
    simp [f150, r150_0, r150_1, Ex.enc_mk, hS3, upd2_ne_d, hne, hne2, wm, hmin, hmin2]
    refine deepW_then (vis2 (op := op) (n := n) (d := d) (subs := subs) (m := m + 1) (depth := depth) h151 (by simp) (by simp) (by simp) (by simp) (by simp [ecells, upd2_ne_d, hne2])) ?_
    rintro σ2 ⟨k26, k1, k2, k3, k4, k5, -, -, -⟩
    simp at k1 k2 k3 k4 k5
    by_cases cA : 300 < m + 1 ∨ 30 < depth ∨ ¬ (1 ≤ op ∧ op ≤ 32)
    · have hb : (300 < m + 1 ∨ nodeBad op n d (subs.length : Int) depth = true) := by
        rcases cA with c | c | c
        · exact .inl c
        · right; rw [nodeBad_eq]; simp [c]
        · right
          rw [nodeBad_eq, shp_out (by omega)]
          by_cases c0 : (subs.length : Int) < 1
          · simp [c0]
          · have c1 : 0 < subs.length := by omega
            simp [c1]
      have k26' : σ2 26 = .bool true := by
        rw [k26]
        rcases cA with c | c | c
        · simp [c]
        · simp [c]
        · by_cases c1 : 1 ≤ op
          · have c2 : ¬ op ≤ 32 := fun h => c ⟨c1, h⟩
            simp [c2]
          · simp [c1]
      simp [k26', hb, r150_3, h1δ]
    have c1 : ¬ 300 < m + 1 := fun h => cA (.inl h)
    have c2 : ¬ 30 < depth := fun h => cA (.inr (.inl h))
    have c3 : 1 ≤ op ∧ op ≤ 32 := Classical.not_not.1 fun h => cA (.inr (.inr h))
    have k26' : σ2 26 = .bool false := by rw [k26]; simp [c1, c2, c3]
    obtain ⟨fv, rest, htab⟩ := tab_at c3.1 c3.2
    have o0 : 0 ≤ op := by omega
    have o33 : op.toNat < 33 := by omega
    simp [k26', k1, k2, k3, k4, k5, r150_4, upd2_ne_d, hne, hne2, hS0, htab, o0, o33]
    refine deepW_then (vis5 (len := (subs.length : Int)) (mn := (rowOf op).1) (mx := (rowOf op).2.1) (sp := (rowOf op).2.2) (r := .int .i64 (ofK op) :: .int .i64 (resK op) :: fv :: rest) (by omega) hlen hmn0 hmn1 hsp (by simp) (by simp)) ?_
    rintro σ5 ⟨j70, j1, j2, j3, j4, j5, -, -, -⟩
    rw [arity_eq c3.1 c3.2 (by omega)] at j70
    simp [k1, k2, k3, k4, k5] at j1 j2 j3 j4 j5
    have hnb := nodeBad_eq (op := op) (n := n) (depth := depth) (len := (subs.length : Int)) (d := d)
    rw [show decide (30 < depth) = false by simp [c2]] at hnb
    generalize (decide ((subs.length : Int) < (shp op).1) || decide ((shp op).2.1 < (subs.length : Int)) || ((shp op).2.2 && decide ((subs.length : Int).tmod 2 = 0))) = A at j70 hnb
    cases A with
    | true =>
      have hb : nodeBad op n d (subs.length : Int) depth = true := by rw [hnb]; simp
      simp [j70, hb, r150_6, h1δ]
    | false =>
    simp [j70]
    refine deepW_then (vis7 (op := op) (n := n) (d := d) (subs := subs) hD (by simp [j5]) (by simp [ecells, upd2_ne_d, hne2])) ?_
    rintro σ7 ⟨i90, i1, i2, i3, i4, i5, -, -, -⟩
    simp [j1, j2, j3, j4, j5] at i1 i2 i3 i4 i5
    generalize (if op = 1 then !d.valid else decide (d ≠ Dat.null)) = B at i90 hnb
    cases B with
    | true =>
      have hb : nodeBad op n d (subs.length : Int) depth = true := by rw [hnb]; simp
      simp [i90, hb, r150_8, h1δ]
    | false =>
    simp [i90]
    refine deepW_then (vis9 (op := op) (n := n) (d := d) (subs := subs) (by simp [i5]) (by simp [ecells, upd2_ne_d, hne2])) ?_
    rintro σ9 ⟨g10, g1, g2, g3, g4, g5⟩
    simp [i1, i2, i3, i4, i5] at g1 g2 g3 g4 g5
    simp
    refine deepW_then (vis10 (op := op) (n := n) (d := d) (subs := subs) (by simp [g10]; rfl) (by simp [g5]) (by simp [ecells, upd2_ne_d, hne2])) ?_
    rintro σ10 ⟨f118, f1, f2, f3, f4, f5, -, -, -⟩
    simp [g1, g2, g3, g4, g5] at f1 f2 f3 f4 f5
    generalize (if (decide (op = 2) || decide (op = 3)) = true then decide (n < 0) || decide (999 < n) else decide (n ≠ 0)) = N at f118 hnb
    cases N with
    | true =>
      have hb : nodeBad op n d (subs.length : Int) depth = true := by rw [hnb]; simp
      simp [f118, hb, r150_11, h1δ]
    | false =>
    have hb : nodeBad op n d (subs.length : Int) depth = false := by rw [hnb]; simp
    have h50 := nodeBad_len hb
    simp [f118, hb, c1, r150_12, f5, upd2_ne_d, hne2]
    refine vis_loop (S0 := S) h1δ (by omega) d1 (by omega) hS0 hS5 (fun e he m S δ m0 m3 hδ => ih e he (depth + 1) m S δ (rngs_mem rr e he) (by omega) (by omega) m0 m3 hδ) subs 0 (m + 1) _ rfl (by omega) (by omega) (by omega) ?_ ?_ ?_ ?_ ?_ ?_ ?_ ?_
    all_goals simp [f1, f4, h1δ]

theorem formed_ok {ft : FT} (hf : ft 76 = some (.ir f76)) (h150 : ft 150 = some (.ir f150)) (h151 : ft 151 = some (.ir f151)) (h152 : ft 152 = some (.ir f152)) (h198 : ft 198 = some (.ir f198)) (h257 : ft 257 = some (.ir f257)) (h260 : ft 260 = some (.ir f260)) (h266 : ft 266 = some (.ir f266)) (h271 : ft 271 = some (.ir f271))
    {e : Ex} (hr : e.rng) {S : Store} {δ : Nat} : C ft none (.fn 76 [] []) [.cptr tab, e.enc] S δ = ans δ (.bool (decide (e.count 1 ≤ 300))) := by
  have hv := fun S δ => visit_ok h150 h151 h152 h198 h257 h260 h266 h271 e 1 0 S δ hr (by omega) (by omega) (by omega) (by omega)
  rw [vis_formed] at hv
  simp only [visF] at hv
  rw [C_iso hf (by simp [f76]) (by simp [tab_pure])]
  simp [f76, r76_0, r76_1, r76_2, r76_3, r76_4, hv]
end Go.Mia
/- What functions of the program return: mapped over check. -/
namespace Go.Mia
open Go

@[simp] theorem adopt_none {j : Nat} {st : St} {s : Nat} {xs : List D} : adopt j st (.slice .none s xs) = (.slice .none s xs, st) := rfl
@[simp] theorem adopt_own {j : Nat} {st : St} {s : Nat} {xs : List D} : adopt j st (.slice .own s xs) = (.slice (.tok (st.nt + j)) s xs, newTok j st) := rfl

/-- the check, as Check makes it -/
def chkF (b : Nat) : D := .fn 79 [] [.ptr 1 b 0, .ptr 1 1 0, .ptr 1 2 0, .ptr 1 8 0]

/-- what mapped comes to -/
def mapK (δ : Nat) : (Int × Int) ⊕ List Int → Option Ret
  | .inl x => pan δ x.2
  | .inr l => ans δ (.slice (if l = [] then .none else .own) 1 (l.map (D.int .i64)))

section
variable {ft : FT} {ks ps : List Int} {b : Nat}

theorem map_loop {subs : List Ex} (hl : subs.length ≤ 50) {δ : Nat} (h1δ : 1 < δ)
    (ih : ∀ e ∈ subs, ∀ (S : Store) (δ : Nat), 1 < δ → S 1 b = .cells [chkF b] → S 1 1 = .cells [encInts ks] → S 1 2 = .cells [encInts ps] → S 1 8 = .cells [.cptr tab] → C ft none (chkF b) [e.enc] S δ = finK δ (e.kinds ks ps)) :
    ∀ (r : List Ex) (i : Nat) (acc : List Int) (tk : Tk) (st : St), subs.drop i = r → i ≤ subs.length → acc.length ≤ i → (kindsL ks ps subs = match kindsL ks ps r with | .inl x => .inl x | .inr l => .inr (acc ++ l)) → TkOk st tk acc.length → (acc = [] → tk = .full) → st.σ 1 = chkF b → st.σ 5 = .slice tk 1 (acc.map (D.int .i64)) →
      st.σ 8 = .slice .none 6 (subs.map Ex.enc) → st.σ 9 = .int .i64 (subs.length : Int) → st.σ 10 = .int .i64 (i : Int) → st.S 1 b = .cells [chkF b] → st.S 1 1 = .cells [encInts ks] → st.S 1 2 = .cells [encInts ps] → st.S 1 8 = .cells [.cptr tab] → st.low = δ → st.recd = false →
      deepB (W ft ⟨δ, true, [.tmp 4], none⟩ [.inLoop l80_7, .inBlock 0, .code (.seq (.region r80_8) .ret)] [] st) = mapK δ (kindsL ks ps subs) := by
  have hne : (1 = δ) = False := by simp; omega
  intro r
  induction r with
  | nil =>
    intro i acc tk st hd hi hac hsp g5 g5' s1 s5 s8 s9 s10 hSb hS1 hS2 hS8 hlow hrec
    have hn := drop_nil hd
    simp only [kindsL, List.append_nil] at hsp
    rw [W_inLoop, hsp]
    rcases g5 with ⟨rfl, hz⟩ | ⟨u, rfl, hlv, hlt⟩
    · obtain rfl : acc = [] := List.eq_nil_of_length_eq_zero hz
      simp [l80_7, r80_3, r80_8, s5, s9, s10, hlow, hrec, hn, mapK]
    · have ha : ¬ acc = [] := fun h => by have := g5' h; cases this
      simp [l80_7, r80_3, r80_8, s5, s9, s10, hlow, hrec, hn, mapK, hlv, ha]
  | cons x r ihr =>
    intro i acc tk st hd hi hac hsp g5 g5' s1 s5 s8 s9 s10 hSb hS1 hS2 hS8 hlow hrec
    obtain ⟨h1, h2, h3⟩ := drop_get hd
    have h1' : (i : Int) < (subs.length : Int) := by omega
    have w : IntKind.i64.wrap ((i : Int) + 1) = (i : Int) + 1 := wrap64 (by omega) (by omega)
    have hla : (acc.length + 1) * 8 ≤ LIM := by unfold LIM; omega
    have hc := ih x (List.mem_of_getElem? h2)
    have h0δ : 0 < δ := by omega
    rw [W_inLoop]
    by_cases he : (x.kinds ks ps).2 = 0
    · have hc' : ∀ (S : Store) (δ : Nat), 1 < δ → S 1 b = .cells [chkF b] → S 1 1 = .cells [encInts ks] → S 1 2 = .cells [encInts ps] → S 1 8 = .cells [.cptr tab] → C ft none (chkF b) [x.enc] S δ = ans δ (.int .i64 (x.kinds ks ps).1) := by
        intro S δ a1 a2 a3 a4 a5
        rw [hc S δ a1 a2 a3 a4 a5]; simp [finK, he]
      simp only [chkF, encInts] at hc' s1 hSb hS1 hS2
      have hsp' : kindsL ks ps subs = match kindsL ks ps r with | .inl x => .inl x | .inr l => .inr ((acc ++ [(x.kinds ks ps).1]) ++ l) := by
        rw [hsp]; simp only [kindsL, he]
        cases kindsL ks ps r <;> simp
      rcases g5 with ⟨rfl, hz⟩ | ⟨u, rfl, hlv, hlt⟩
      · simp [l80_7, r80_3, r80_4, r80_5, r80_6, s1, s5, s8, s9, s10, hSb, hS1, hS2, hS8, hlow, hrec, h1', h2, w, hc', hla, upd2_ne_d, hne, h0δ]
        refine ihr (i + 1) (acc ++ [(x.kinds ks ps).1]) (.tok (st.nt + 1 + 4 + 5)) _ h3 (by omega) (by simp; omega) hsp' (.inr ⟨_, rfl, by simp [upd], by first | (simp; done) | (simp; omega)⟩) (by simp) ?_ ?_ ?_ ?_ ?_ ?_ ?_ ?_ ?_ ?_ ?_
        all_goals simp [s1, s8, s9, chkF, encInts, hSb, hS1, hS2, hS8, upd2_ne_d, hne]
      · simp [l80_7, r80_3, r80_4, r80_5, r80_6, s1, s5, s8, s9, s10, hSb, hS1, hS2, hS8, hlow, hrec, h1', h2, w, hc', hla, hlv, upd2_ne_d, hne, h0δ]
        refine ihr (i + 1) (acc ++ [(x.kinds ks ps).1]) (.tok (st.nt + 1 + 4 + 5)) _ h3 (by omega) (by simp; omega) hsp' (.inr ⟨_, rfl, by simp [upd], by first | (simp; done) | (simp; omega)⟩) (by simp) ?_ ?_ ?_ ?_ ?_ ?_ ?_ ?_ ?_ ?_ ?_
        all_goals simp [s1, s8, s9, chkF, encInts, hSb, hS1, hS2, hS8, upd2_ne_d, hne]
    · have hc' : ∀ (S : Store) (δ : Nat), 1 < δ → S 1 b = .cells [chkF b] → S 1 1 = .cells [encInts ks] → S 1 2 = .cells [encInts ps] → S 1 8 = .cells [.cptr tab] → C ft none (chkF b) [x.enc] S δ = pan δ (x.kinds ks ps).2 := by
        intro S δ a1 a2 a3 a4 a5
        rw [hc S δ a1 a2 a3 a4 a5]; simp [finK, he]
      simp only [chkF, encInts] at hc' s1 hSb hS1 hS2
      have hx : kindsL ks ps subs = .inl (x.kinds ks ps) := by rw [hsp]; simp [kindsL, he]
      rw [hx]
      simp [l80_7, r80_3, r80_4, r80_5, r80_6, s1, s5, s8, s9, s10, hSb, hS1, hS2, hS8, hlow, hrec, h1', h2, w, hc', hla, upd2_ne_d, hne, h0δ, mapK]

theorem mapped_ok (hf : ft 80 = some (.ir f80)) {subs : List Ex} (hl : subs.length ≤ 50)
    (ih : ∀ e ∈ subs, ∀ (S : Store) (δ : Nat), 1 < δ → S 1 b = .cells [chkF b] → S 1 1 = .cells [encInts ks] → S 1 2 = .cells [encInts ps] → S 1 8 = .cells [.cptr tab] → C ft none (chkF b) [e.enc] S δ = finK δ (e.kinds ks ps))
    (S : Store) (δ : Nat) (h1δ : 1 < δ) (hSb : S 1 b = .cells [chkF b]) (hS1 : S 1 1 = .cells [encInts ks]) (hS2 : S 1 2 = .cells [encInts ps]) (hS8 : S 1 8 = .cells [.cptr tab]) :
    C ft none (.fn 80 [] []) [.slice .none 6 (subs.map Ex.enc), chkF b] S δ = mapK δ (kindsL ks ps subs) := by
  rw [C_deep hf (by simp [f80]) (by simp [chkF])]
  simp [f80, r80_0, r80_1, r80_2, chkF]
  refine map_loop hl h1δ ih subs 0 [] .full _ rfl (by omega) (by simp) (by cases kindsL ks ps subs <;> rfl) (.inl ⟨rfl, rfl⟩) (by simp) ?_ ?_ ?_ ?_ ?_ ?_ ?_ ?_ ?_ ?_ ?_
  all_goals simp [chkF, hSb, hS1, hS2, hS8]
end
end Go.Mia
/- What functions of the program return: the check of a node. -/
namespace Go.Mia
open Go

theorem chk_ok {ft : FT} {ks ps : List Int} {b : Nat} (hf : ft 79 = some (.ir f79)) (h80 : ft 80 = some (.ir f80)) (h75 : ft 75 = some (.ir f75)) (h81 : ft 81 = some (.ir f81)) (h154 : ft 154 = some (.ir f154)) (hks : ks.length ≤ 1000000000) (hps : ps.length ≤ 1000000000) :
    ∀ (e : Ex), e.good → ∀ (S : Store) (δ : Nat), 1 < δ → S 1 b = .cells [chkF b] → S 1 1 = .cells [encInts ks] → S 1 2 = .cells [encInts ps] → S 1 8 = .cells [.cptr tab] → C ft none (chkF b) [e.enc] S δ = finK δ (e.kinds ks ps) := by
  have nt := fun e S δ => need_true h75 (e := e) (S := S) (δ := δ)
  have nf := fun e S δ => need_false h75 (e := e) (S := S) (δ := δ)
  intro e
  induction e using Ex.ind with
  | h op n d subs ih =>
    intro hg S δ h1δ hSb hS1 hS2 hS8
    simp only [Ex.good] at hg
    obtain ⟨o1, o2, hn, hleaf, h25, h50, hgs⟩ := hg
    have hne : (1 = δ) = False := by simp; omega
    have hne2 : (δ = 1) = False := by simp; omega
    have h0δ : 0 < δ := by omega
    have h1δ' : 1 < δ + 1 := by omega
    have hm := mapped_ok h80 h50 (fun e he => ih e he (goods_mem hgs e he))
    rw [show chkF b = .fn 79 [] [.ptr 1 b 0, .ptr 1 1 0, .ptr 1 2 0, .ptr 1 8 0] from rfl]
    rw [C_deep hf (by simp [f79]) (by simp)]
    by_cases h4 : op ≤ 3
    · have hsub := hleaf h4
      subst hsub
      have hm' : ∀ (S : Store) (δ : Nat), 1 < δ → S 1 b = .cells [chkF b] → S 1 1 = .cells [encInts ks] → S 1 2 = .cells [encInts ps] → S 1 8 = .cells [.cptr tab] → C ft none (.fn 80 [] []) [.slice .none 6 [], chkF b] S δ = ans δ (.slice .none 1 []) := by
        intro S δ a1 a2 a3 a4 a5
        have := hm S δ a1 a2 a3 a4 a5
        simpa [kindsL, mapK] using this
      simp only [chkF, encInts] at hm' hSb hS1 hS2
      have : op = 1 ∨ op = 2 ∨ op = 3 := by omega
      rcases this with rfl | rfl | rfl
      · simp [f79, r79_0, r79_1, r79_2, r79_3, r79_4, Ex.enc_mk, hSb, hS1, hS2, hS8, upd2_ne_d, hne, hne2, h0δ, hm', Ex.kinds, finK]
      · have n0 := hn (.inl rfl)
        by_cases hb : (ks.length : Int) ≤ n
        · have hb' : ¬ n < (ks.length : Int) := by omega
          simp [f79, r79_0, r79_1, r79_2, r79_3, r79_5, r79_6, Ex.enc_mk, hSb, hS1, hS2, hS8, upd2_ne_d, hne, hne2, h0δ, hm', Ex.kinds, finK, hb, hb', nf]
        · have hg := getInt n0 hb
          have hb' : n < (ks.length : Int) := by omega
          have e1 : ((n.toNat : Nat) : Int) = n := by omega
          simp [f79, r79_0, r79_1, r79_2, r79_3, r79_5, r79_6, r79_7, Ex.enc_mk, hSb, hS1, hS2, hS8, upd2_ne_d, hne, hne2, h0δ, hm', Ex.kinds, finK, hb, hb', nt, hg, n0, e1]
      · have n0 := hn (.inr rfl)
        by_cases hb : (ps.length : Int) ≤ n
        · have hb' : ¬ n < (ps.length : Int) := by omega
          simp [f79, r79_0, r79_1, r79_2, r79_3, r79_5, r79_8, r79_9, Ex.enc_mk, hSb, hS1, hS2, hS8, upd2_ne_d, hne, hne2, h0δ, hm', Ex.kinds, finK, hb, hb', nf]
        · have hg := getInt n0 hb
          have hb' : n < (ps.length : Int) := by omega
          have e1 : ((n.toNat : Nat) : Int) = n := by omega
          simp [f79, r79_0, r79_1, r79_2, r79_3, r79_5, r79_8, r79_9, r79_10, Ex.enc_mk, hSb, hS1, hS2, hS8, upd2_ne_d, hne, hne2, h0δ, hm', Ex.kinds, finK, hb, hb', nt, hg, n0, e1]
    · have q1 : ¬ op = 1 := by omega
      have q2 : ¬ op = 2 := by omega
      have q3 : ¬ op = 3 := by omega
      obtain ⟨fv, rest, htab⟩ := tab_at o1 o2
      have o0 : 0 ≤ op := by omega
      have o33 : op.toNat < 33 := by omega
      simp only [Ex.kinds, q1, q2, q3, if_false]
      cases hk : kindsL ks ps subs with
      | inl x =>
        have hx : x.2 ≠ 0 := by
          have : ∀ (l : List Ex) (x : Int × Int), kindsL ks ps l = .inl x → x.2 ≠ 0 := by
            intro l
            induction l with
            | nil => intro x h; simp [kindsL] at h
            | cons e es ih2 =>
              intro x h
              simp only [kindsL] at h
              split at h
              · rename_i h0; injection h with h; subst h; exact h0
              · cases h2 : kindsL ks ps es with
                | inl y => rw [h2] at h; injection h with h; subst h; exact ih2 _ h2
                | inr y => rw [h2] at h; cases h
          exact this _ _ hk
        have hm' : ∀ (S : Store) (δ : Nat), 1 < δ → S 1 b = .cells [chkF b] → S 1 1 = .cells [encInts ks] → S 1 2 = .cells [encInts ps] → S 1 8 = .cells [.cptr tab] → C ft none (.fn 80 [] []) [.slice .none 6 (subs.map Ex.enc), chkF b] S δ = pan δ x.2 := by
          intro S δ a1 a2 a3 a4 a5
          rw [hm S δ a1 a2 a3 a4 a5, hk]; rfl
        simp only [chkF, encInts] at hm' hSb hS1 hS2
        simp [f79, r79_0, r79_1, Ex.enc_mk, hSb, hS1, hS2, hS8, upd2_ne_d, hne, hne2, h0δ, hm', finK, hx]
      | inr l =>
        have hll := kindsL_len hk
        obtain ⟨tk, htk, hm'⟩ : ∃ tk : Tk, (tk = .none ∨ tk = .own) ∧ ∀ (S : Store) (δ : Nat), 1 < δ → S 1 b = .cells [chkF b] → S 1 1 = .cells [encInts ks] → S 1 2 = .cells [encInts ps] → S 1 8 = .cells [.cptr tab] → C ft none (.fn 80 [] []) [.slice .none 6 (subs.map Ex.enc), chkF b] S δ = ans δ (.slice tk 1 (l.map (D.int .i64))) := by
          refine ⟨if l = [] then .none else .own, by split <;> simp, fun S δ a1 a2 a3 a4 a5 => ?_⟩
          rw [hm S δ a1 a2 a3 a4 a5, hk]; rfl
        have ho := fun S δ => operands_ok h81 h75 h154 (op := op) (n := n) (d := d) (subs := subs) (ks := l) (by omega) (by omega) o2 (S := S) (δ := δ)
        simp only [chkF, encInts, Ex.enc_mk] at hm' hSb hS1 hS2 ho
        show _ = finK δ (kindK op l)
        rw [← nodeK_eq (by omega) o2]
        by_cases hz : (opsK op l).2 = 0
        · simp only [finK, hz, if_true] at ho
          by_cases hr : resK op = -1
          · rcases htk with rfl | rfl <;>
              simp [f79, r79_0, r79_1, r79_2, r79_3, r79_5, r79_8, r79_11, r79_12, r79_13, r79_14, Ex.enc_mk, hSb, hS1, hS2, hS8, upd2_ne_d, hne, hne2, h0δ, hm', q1, q2, q3, ho, htab, o0, o33, nodeK, hz, hr, finK]
          · rcases htk with rfl | rfl <;>
              simp [f79, r79_0, r79_1, r79_2, r79_3, r79_5, r79_8, r79_11, r79_12, r79_13, r79_14, Ex.enc_mk, hSb, hS1, hS2, hS8, upd2_ne_d, hne, hne2, h0δ, hm', q1, q2, q3, ho, htab, o0, o33, nodeK, hz, hr, finK]
        · simp only [finK, hz, if_false] at ho
          rcases htk with rfl | rfl <;>
            simp [f79, r79_0, r79_1, r79_2, r79_3, r79_5, r79_8, r79_11, r79_12, r79_13, r79_14, Ex.enc_mk, hSb, hS1, hS2, hS8, upd2_ne_d, hne, hne2, h0δ, hm', q1, q2, q3, ho, htab, o0, o33, nodeK, hz, finK]
end Go.Mia
/- What functions of the program return: Check. -/
namespace Go.Mia
open Go

theorem zero_ok {ft : FT} (hf : ft 73 = some (.ir f73)) {S : Store} {δ : Nat} (h1δ : 1 < δ) {x : Int} (hS : S 1 3 = .cells [.int .i64 x]) :
    C ft none (.fn 73 [] [.ptr 1 3 0]) [] S δ = some ⟨.ret (.tup []), false, 1, some (upd2 (trim δ S) 1 3 (.cells [.int .i64 0]))⟩ := by
  have hmin : min δ 1 = 1 := by omega
  have hmin2 : min 1 δ = 1 := by omega
  rw [C_deep hf (by simp [f73]) (by simp)]
  simp [f73, r73_0, hS, h1δ, hmin, hmin2]

theorem caught_none {ft : FT} (hf : ft 72 = some (.ir f72)) {S : Store} {δ : Nat} {a b : D} : C ft (some none) (.fn 72 [] []) [a, b] S δ = some ⟨.ret (.tup []), false, δ, none⟩ := by
  rw [C_defer hf (by simp [f72])]
  simp [f72, r72_0, r72_1, r72_2]

theorem caught_some {ft : FT} (hf : ft 72 = some (.ir f72)) (h73 : ft 73 = some (.ir f73)) {S : Store} {δ : Nat} (h1δ : 1 < δ) {e x y : Int} (hS3 : S 1 3 = .cells [.int .i64 x]) (hS4 : S 1 4 = .cells [.int .i64 y]) :
    C ft (some (some (.iface 157 (.agg [.int .i64 e])))) (.fn 72 [] []) [.ptr 1 4 0, .fn 73 [] [.ptr 1 3 0]] S δ =
      some ⟨.ret (.tup []), true, 1, some (upd2 (upd2 (trim δ S) 1 3 (.cells [.int .i64 0])) 1 4 (.cells [.int .i64 e]))⟩ := by
  have hmin : min δ 1 = 1 := by omega
  have hmin2 : min 1 δ = 1 := by omega
  have hne : (1 = δ) = False := by simp; omega
  have hne2 : (δ = 1) = False := by simp; omega
  have h0δ : 0 < δ := by omega
  have hz := fun (S : Store) (δ : Nat) (h : 1 < δ) (hS : S 1 3 = .cells [.int .i64 x]) => zero_ok h73 h hS
  rw [C_defer hf (by simp [f72])]
  simp [f72, r72_0, r72_1, r72_3, r72_4, r72_5, r72_6, h1δ, h0δ, hmin, hmin2, upd2_ne_d, hne, hne2, hS3, hS4, hz]

/-- the deferred call of Check -/
def dfC : List IDefer := [.call (.fn 72 [] []) [.ptr 1 4 0, .fn 73 [] [.ptr 1 3 0]]]
/-- the answer of Check -/
abbrev ansP (δ : Nat) (p : Int × Int) : Option Ret := ans δ (.tup [.int .i64 p.1, .int .i64 p.2])

theorem Check_loop {ft : FT} (h72 : ft 72 = some (.ir f72)) (h73 : ft 73 = some (.ir f73)) (h75 : ft 75 = some (.ir f75)) (h78 : ft 78 = some (.ir f78)) {l0 : List Int} {δ : Nat} {K : List Item} {X : Option Ret} {S1 : Store} (hl : l0.length ≤ 1000000000)
    (h3 : S1 1 3 = .cells [.int .i64 0]) (h4 : S1 1 4 = .cells [.int .i64 0]) (hX : areKinds l0 = false → X = ansP δ (0, 1))
    (hK : areKinds l0 = true → ∀ st : St, st.σ 3 = .ptr 1 0 0 → st.σ 4 = .ptr 1 1 0 → st.σ 5 = .ptr 1 2 0 → st.σ 6 = .ptr 1 3 0 → st.σ 7 = .ptr 1 4 0 → st.σ 8 = .ptr 1 8 0 → st.S = S1 → 9 ≤ st.m → st.low = 1 → st.recd = false → isoB δ (W ft ⟨1, false, [.cell 6 false 1, .cell 7 false 1], none⟩ K dfC st) = X) :
    ∀ (l : List Int) (i : Nat) (st : St), l0.drop i = l → i ≤ l0.length → areKinds l0 = areKinds l → st.σ 3 = .ptr 1 0 0 → st.σ 4 = .ptr 1 1 0 → st.σ 5 = .ptr 1 2 0 → st.σ 6 = .ptr 1 3 0 → st.σ 7 = .ptr 1 4 0 → st.σ 8 = .ptr 1 8 0 →
      st.σ 21 = encInts l0 → st.σ 22 = .int .i64 (l0.length : Int) → st.σ 23 = .int .i64 (i : Int) → st.S = S1 → 9 ≤ st.m → st.low = 1 → st.recd = false →
      isoB δ (W ft ⟨1, false, [.cell 6 false 1, .cell 7 false 1], none⟩ (.inLoop l19_9 :: .inBlock 0 :: K) dfC st) = X := by
  have nt := fun e S δ => need_true h75 (e := e) (S := S) (δ := δ)
  have nf := fun e S δ => need_false h75 (e := e) (S := S) (δ := δ)
  have hk := fun k S δ => isKind_ok h78 (k := k) (S := S) (δ := δ)
  have hcs := fun e (S : Store) (x y : Int) (h3 : S 1 3 = .cells [.int .i64 x]) (h4 : S 1 4 = .cells [.int .i64 y]) => caught_some h72 h73 (δ := 2) (S := S) (by omega) (e := e) h3 h4
  have hc0 := fun e (S : Store) h3 h4 => hcs e S 0 0 h3 h4
  intro l
  induction l with
  | nil =>
    intro i st hd hi hA s3 s4 s5 s6 s7 s8 s21 s22 s23 hS hm hlow hrec
    have hn := drop_nil hd
    rw [W_inLoop]
    simp [l19_9, r19_5, s22, s23, hlow, hrec, hn]
    exact hK (by rw [hA]; rfl) _ (by simp [s3]) (by simp [s4]) (by simp [s5]) (by simp [s6]) (by simp [s7]) (by simp [s8]) (by simp [hS]) (by simp; omega) (by simp [hlow]) (by simp [hrec])
  | cons x l ih =>
    intro i st hd hi hA s3 s4 s5 s6 s7 s8 s21 s22 s23 hS hm hlow hrec
    obtain ⟨h1, h2, h3'⟩ := drop_get hd
    have h1' : (i : Int) < (l0.length : Int) := by omega
    have w : IntKind.i64.wrap ((i : Int) + 1) = (i : Int) + 1 := wrap64 (by omega) (by omega)
    rw [W_inLoop]
    cases hx : (decide (x = 1) || decide (x = 2) || decide (x = 3)) with
    | true =>
      simp only [encInts] at s21
      simp [l19_9, r19_5, r19_6, r19_7, r19_8, s21, s22, s23, hlow, hrec, h1', h2, w, hk, hx, nt]
      refine ih (i + 1) _ h3' (by omega) ?_ ?_ ?_ ?_ ?_ ?_ ?_ ?_ ?_ ?_ ?_ ?_ ?_ ?_
      · rw [hA]; simp only [areKinds, List.all_cons, hx, Bool.true_and]
      all_goals simp [s3, s4, s5, s6, s7, s8, s21, s22, encInts, hS]
    | false =>
      simp only [encInts] at s21
      rw [hX (by rw [hA]; simp only [areKinds, List.all_cons, hx, Bool.false_and])]
      simp [l19_9, r19_5, r19_6, r19_7, r19_8, s6, s7, s21, s22, s23, hlow, hrec, h1', h2, w, hk, hx, nf, dfC, hS, hc0, h3, h4]

theorem areKinds_app (a b : List Int) : areKinds (a ++ b) = (areKinds a && areKinds b) := by simp [areKinds]

theorem kindK_err {op : Int} {l : List Int} (h : (kindK op l).2 ≠ 0) : (kindK op l).1 = 0 := by
  have hw : ∀ b k, (whenK b k).2 ≠ 0 → (whenK b k).1 = 0 := by
    intro b k h
    cases b <;> simp [whenK] at *
  have hc : ∀ l, (commonK l 0).2 ≠ 0 → (commonK l 0).1 = 0 := by
    intro l h
    rcases commonK_cases l 0 with h1 | h1
    · exact absurd h1 h
    · rw [h1]
  unfold kindK at *
  split at h
  · rename_i c; rw [if_pos c]; exact hw _ _ h
  rename_i c; rw [if_neg c]
  split at h
  · rename_i c; rw [if_pos c]; exact hw _ _ h
  rename_i c; rw [if_neg c]
  split at h
  · rename_i c; rw [if_pos c]; exact hw _ _ h
  rename_i c; rw [if_neg c]
  split at h
  · rename_i c; simp at h
  rename_i c; rw [if_neg c]
  split at h
  · rename_i c; rw [if_pos c]
    split at h
    · rename_i c; rw [if_pos c]; exact hc _ h
    · rename_i c; rw [if_neg c]
  rename_i c; rw [if_neg c]
  split at h
  · rename_i c; rw [if_pos c]; exact hc _ h
  rename_i c; rw [if_neg c]
  split at h
  · rename_i c; rw [if_pos c]; exact hw _ _ h
  rename_i c; rw [if_neg c]
  split at h
  · rename_i c; rw [if_pos c]; exact hw _ _ h
  rename_i c; rw [if_neg c]
  split at h
  · rename_i c; rw [if_pos c]; exact hw _ _ h
  rename_i c; rw [if_neg c]
  split at h
  · rename_i c; rw [if_pos c]; exact hw _ _ h
  · simp at h

theorem kinds_err {ks ps : List Int} : ∀ e : Ex, (e.kinds ks ps).2 ≠ 0 → (e.kinds ks ps).1 = 0 := by
  intro e
  induction e using Ex.ind with
  | h op n d subs ih =>
    intro h
    have hL : ∀ (l : List Ex), (∀ e ∈ l, (e.kinds ks ps).2 ≠ 0 → (e.kinds ks ps).1 = 0) → ∀ x, kindsL ks ps l = .inl x → x.1 = 0 := by
      intro l
      induction l with
      | nil => intro _ x h; simp [kindsL] at h
      | cons e es ih2 =>
        intro hall x h
        simp only [kindsL] at h
        split at h
        · rename_i h0; injection h with h; subst h; exact hall e (by simp) h0
        · cases h2 : kindsL ks ps es with
          | inl y => rw [h2] at h; injection h with h; subst h; exact ih2 (fun e he => hall e (by simp [he])) _ h2
          | inr y => rw [h2] at h; cases h
    simp only [Ex.kinds] at *
    split
    · rename_i c; rw [if_pos c] at h; simp at h
    rename_i c; rw [if_neg c] at h
    split
    · rename_i c; rw [if_pos c] at h
      split
      · rfl
      · rename_i c; rw [if_neg c] at h; simp at h
    rename_i c; rw [if_neg c] at h
    split
    · rename_i c; rw [if_pos c] at h
      split
      · rfl
      · rename_i c; rw [if_neg c] at h; simp at h
    rename_i c; rw [if_neg c] at h
    cases hk : kindsL ks ps subs with
    | inl x => exact hL subs ih x hk
    | inr l =>
      rw [hk] at h
      exact kindK_err h

/-- the boxes of Check -/
def S1e (e : Ex) (ks ps : List Int) : Store := upd2 (upd2 (upd2 (upd2 (upd2 (upd2 S0 1 0 (.cells e.enc.cells)) 1 1 (.cells [encInts ks])) 1 2 (.cells [encInts ps])) 1 3 (.cells [.int .i64 0])) 1 4 (.cells [.int .i64 0])) 1 8 (.cells [.cptr tab])

theorem Check_ok {ft : FT} (hf : ft 19 = some (.ir f19)) (h72 : ft 72 = some (.ir f72)) (h73 : ft 73 = some (.ir f73)) (hT : ∀ S δ, C ft none (.fn 74 [] []) [] S δ = ans δ (.cptr tab)) (h75 : ft 75 = some (.ir f75)) (h76 : ft 76 = some (.ir f76)) (h77 : ft 77 = some (.ir f77)) (h78 : ft 78 = some (.ir f78)) (h79 : ft 79 = some (.ir f79)) (h80 : ft 80 = some (.ir f80)) (h81 : ft 81 = some (.ir f81))
    (h150 : ft 150 = some (.ir f150)) (h151 : ft 151 = some (.ir f151)) (h152 : ft 152 = some (.ir f152)) (h154 : ft 154 = some (.ir f154)) (h198 : ft 198 = some (.ir f198)) (h257 : ft 257 = some (.ir f257)) (h260 : ft 260 = some (.ir f260)) (h266 : ft 266 = some (.ir f266)) (h271 : ft 271 = some (.ir f271))
    {e : Ex} (hr : e.rng) {ks ps : List Int} (hks : ks.length ≤ 1000000) (hps : ps.length ≤ 1000000) {S : Store} {δ : Nat} :
    C ft none (.fn 19 [] []) [e.enc, encInts ks, encInts ps] S δ = ansP δ (checkR e ks ps) := by
  have nt := fun e S δ => need_true h75 (e := e) (S := S) (δ := δ)
  have nf := fun e S δ => need_false h75 (e := e) (S := S) (δ := δ)
  have hF := fun S δ => formed_ok h76 h150 h151 h152 h198 h257 h260 h266 h271 hr (S := S) (δ := δ)
  have hC := fun S δ => Concat_ok h77 hks hps (S := S) (δ := δ)
  have hcs := fun e (S : Store) (h3 : S 1 3 = .cells [.int .i64 0]) (h4 : S 1 4 = .cells [.int .i64 0]) => caught_some h72 h73 (δ := 2) (S := S) (by omega) (e := e) h3 h4
  have hcn := fun (S : Store) (δ : Nat) (a b : D) => caught_none h72 (S := S) (δ := δ) (a := a) (b := b)
  rw [C_iso hf (by simp [f19]) (by simp [encInts])]
  by_cases hc : 300 < e.count 1
  · have hc' : ¬ e.count 1 ≤ 300 := by omega
    simp [f19, r19_0, r19_1, r19_2, r19_3, encInts, hT, hF, hc', nf, hcs, checkR, hc]
  have hc' : e.count 1 ≤ 300 := by omega
  have hg := good_of_count e 1 (by omega) hc'
  simp only [encInts] at hC
  simp [f19, r19_0, r19_1, r19_2, r19_3, r19_4, encInts, hT, hF, hc', nt, hC]
  refine Check_loop (l0 := ks ++ ps) (S1 := S1e e ks ps) h72 h73 h75 h78 (by simp; omega) (by simp [S1e]) (by simp [S1e]) ?_ ?_ (ks ++ ps) 0 _ rfl (by omega) rfl ?_ ?_ ?_ ?_ ?_ ?_ ?_ ?_ ?_ ?_ ?_ ?_ ?_
  · intro hA
    rw [areKinds_app] at hA
    simp [checkR, hc, hA]
  · intro hA st s3 s4 s5 s6 s7 s8 hS hm hlow hrec
    rw [areKinds_app] at hA
    have hk := chk_ok (b := st.m) (ks := ks) (ps := ps) h79 h80 h75 h81 h154 (by omega) (by omega) e hg
    have m0 : (0 = st.m) = False := by simp; omega
    have m1 : (1 = st.m) = False := by simp; omega
    have m2 : (2 = st.m) = False := by simp; omega
    have m3 : (3 = st.m) = False := by simp; omega
    have m4 : (4 = st.m) = False := by simp; omega
    have m8 : (8 = st.m) = False := by simp; omega
    have b0 : S1e e ks ps 1 0 = .cells e.enc.cells := by simp [S1e]
    have b1 : S1e e ks ps 1 1 = .cells [encInts ks] := by simp [S1e]
    have b2 : S1e e ks ps 1 2 = .cells [encInts ps] := by simp [S1e]
    have b3 : S1e e ks ps 1 3 = .cells [.int .i64 0] := by simp [S1e]
    have b4 : S1e e ks ps 1 4 = .cells [.int .i64 0] := by simp [S1e]
    have b8 : S1e e ks ps 1 8 = .cells [.cptr tab] := by simp [S1e]
    have hR : checkR e ks ps = e.kinds ks ps := by simp [checkR, hc, hA]
    rw [hR]
    simp only [chkF, encInts] at hk b1 b2
    by_cases hz : (e.kinds ks ps).2 = 0
    · simp only [finK, hz, if_true] at hk
      simp [r19_10, r19_11, r19_12, dfC, s3, s4, s5, s6, s7, s8, hS, hlow, hrec, m0, m1, m2, m3, m4, m8, b0, b1, b2, b3, b4, b8, hk, hcn, hz]
    · simp only [finK, hz, if_false] at hk
      simp [r19_10, r19_11, r19_12, dfC, s3, s4, s5, s6, s7, s8, hS, hlow, hrec, m0, m1, m2, m3, m4, m8, b0, b1, b2, b3, b4, b8, hk, hcs]
      exact (kinds_err e hz).symm
  all_goals simp [S1e, encInts]
end Go.Mia
/- What functions of the laws return: size, few. -/
namespace Go.Mia
open Go

mutual
def Ex.size : Ex → Int → Int
  | .mk _ _ d subs, depth => if 40 < depth ∨ 500 < subs.length ∨ 2000 < d.s.length then 501 else sizes subs (depth + 1) (1 + (d.s.length : Int) / 10)
def sizes : List Ex → Int → Int → Int
  | [], _, n => n
  | e :: es, depth, n => if n ≤ 500 then sizes es depth (n + e.size depth) else n
end

theorem sizes_le {depth B : Int} (hB : 0 ≤ B) : ∀ (l : List Ex) (n : Int), 0 ≤ n → n ≤ 500 + B → (∀ e ∈ l, 0 ≤ e.size depth ∧ e.size depth ≤ B) → 0 ≤ sizes l depth n ∧ sizes l depth n ≤ 500 + B
  | [], n, h0, h1, _ => by simp only [sizes]; omega
  | e :: es, n, h0, h1, h => by
    simp only [sizes]
    have := h e (by simp)
    split
    · exact sizes_le hB es _ (by omega) (by omega) fun x hx => h x (by simp [hx])
    · omega
theorem size_le (e : Ex) : ∀ depth : Int, depth ≤ 41 → 0 ≤ e.size depth ∧ e.size depth ≤ 501 + 500 * (41 - depth) := by
  induction e using Ex.ind with
  | h op n d subs ih =>
    intro depth hd
    simp only [Ex.size]
    split
    · omega
    · rename_i h
      have := sizes_le (depth := depth + 1) (B := 501 + 500 * (41 - (depth + 1))) (by omega) subs (1 + (d.s.length : Int) / 10) (by omega) (by omega) fun e he => ih e he (depth + 1) (by omega)
      omega

theorem size_loop {ft : FT} {op n : Int} {d : Dat} {subs : List Ex} {depth : Int} {δ : Nat} (hl : subs.length ≤ 500) (h0 : 0 ≤ depth) (h40 : depth ≤ 40)
    (ih : ∀ e ∈ subs, ∀ (S : Store) (δ : Nat), C ft none (.fn 68 [] []) [e.enc, .int .i64 (depth + 1)] S δ = some ⟨.ret (.int .i64 (e.size (depth + 1))), false, δ, none⟩) :
    ∀ (l : List Ex) (i : Nat) (acc : Int) (st : St), subs.drop i = l → i ≤ subs.length → 0 ≤ acc → acc ≤ 30000 → st.σ 1 = .int .i64 depth → st.σ 2 = .ptr 1 0 0 → st.σ 5 = .int .i64 acc → st.σ 6 = .int .i64 (i : Int) →
      st.S 1 0 = .cells [.int .i64 op, .int .i64 n, .int .i64 d.k, .int .i64 d.n, .str d.s, .slice .none 6 (subs.map Ex.enc)] → st.low = 1 → st.recd = false →
      isoB δ (W ft ⟨1, false, [.tmp 4], none⟩ [.inLoop l68_8, .inBlock 0, .code (.seq (.region r68_9) .ret)] [] st) = some ⟨.ret (.int .i64 (sizes l (depth + 1) acc)), false, δ, none⟩ := by
  intro l
  induction l with
  | nil =>
    intro i acc st hdr hi a0 a1 s1 s2 s5 s6 hS hlow hrec
    have : ¬ (i : Int) < (subs.length : Int) := by
      have := congrArg List.length hdr
      simp at this; omega
    rw [W_inLoop]
    simp [l68_8, r68_5, r68_9, s1, s2, s5, s6, hS, hlow, hrec, this, sizes]
  | cons x l hrest =>
    intro i acc st hdr hi a0 a1 s1 s2 s5 s6 hS hlow hrec
    have hlt : i < subs.length := by
      have := congrArg List.length hdr
      simp at this; omega
    have hlt' : (i : Int) < (subs.length : Int) := by omega
    have hx : subs[i]? = some x := by
      have := congrArg (·[0]?) hdr
      simpa using this
    have hm : x ∈ subs := List.mem_of_getElem? hx
    have hdr' : subs.drop (i + 1) = l := by
      rw [← List.drop_drop, hdr]; rfl
    rw [W_inLoop]
    by_cases hacc : acc ≤ 500
    · have hb := size_le x (depth + 1) (by omega)
      have w1 : IntKind.i64.wrap (depth + 1) = depth + 1 := wrap64 (by omega) (by omega)
      have w2 : IntKind.i64.wrap ((i : Int) + 1) = (i : Int) + 1 := wrap64 (by omega) (by omega)
      have w3 : IntKind.i64.wrap (acc + x.size (depth + 1)) = acc + x.size (depth + 1) := wrap64 (by omega) (by omega)
      have hcall := fun S δ => ih x hm S δ
      simp [l68_8, r68_5, r68_6, r68_7, s1, s2, s5, s6, hS, hlow, hrec, hlt', hacc, w1, w2, w3, hx, hcall, sizes]
      apply hrest (i + 1) _ _ hdr' <;> first | omega | simp [s1, s2, hS]
    · simp [l68_8, r68_5, r68_9, s1, s2, s5, s6, hS, hlow, hrec, hlt', hacc, sizes]

theorem size_ok {ft : FT} (hf : ft 68 = some (.ir f68)) : ∀ (e : Ex) (depth : Int) (S : Store) (δ : Nat), 0 ≤ depth → depth ≤ 41 → C ft none (.fn 68 [] []) [e.enc, .int .i64 depth] S δ = some ⟨.ret (.int .i64 (e.size depth)), false, δ, none⟩ := by
  intro e
  induction e using Ex.ind with
  | h op n d subs ih =>
    intro depth S δ h0 h41
    rw [C_iso hf (by simp [f68]) (by simp)]
    by_cases h1 : 40 < depth
    · simp [Ex.enc, f68, r68_0, r68_1, r68_2, h1, Ex.size]
    · by_cases h2 : 500 < subs.length
      · have h2' : (500 : Int) < (subs.length : Int) := by omega
        simp [Ex.enc, f68, r68_0, r68_1, r68_2, h1, h2, h2', Ex.size, Ex.encs_eq]
      · by_cases h3 : 2000 < d.s.length
        · have h2' : ¬ (500 : Int) < (subs.length : Int) := by omega
          have h3' : (2000 : Int) < (d.s.length : Int) := by omega
          simp [Ex.enc, f68, r68_0, r68_1, r68_2, h1, h2, h2', h3, h3', Ex.size, Ex.encs_eq]
        · have h2' : ¬ (500 : Int) < (subs.length : Int) := by omega
          have h3' : ¬ (2000 : Int) < (d.s.length : Int) := by omega
          have w1 : IntKind.i64.wrap ((d.s.length : Int) / 10) = (d.s.length : Int) / 10 := wrap64 (by omega) (by omega)
          have w2 : IntKind.i64.wrap (1 + (d.s.length : Int) / 10) = 1 + (d.s.length : Int) / 10 := wrap64 (by omega) (by omega)
          simp [Ex.enc, f68, r68_0, r68_1, r68_2, r68_3, r68_4, h1, h2, h2', h3, h3', w1, w2, Ex.size, Ex.encs_eq]
          apply size_loop (op := op) (n := n) (d := d) (subs := subs) (by omega) h0 (by omega) (fun e he S δ => ih e he (depth + 1) S δ (by omega) (by omega)) subs 0 _ _ rfl <;> first | omega | simp

/-- few -/
def fewL : List Ex → Int → Bool
  | [], _ => true
  | e :: es, n => if 500 < n + e.size 1 then false else fewL es (n + e.size 1)

theorem few_loop {ft : FT} (h68 : ft 68 = some (.ir f68)) {es : List Ex} {δ : Nat} (hl : es.length ≤ 1000000000) : ∀ (l : List Ex) (i : Nat) (n : Int) (tk : Tk) (st : St), es.drop i = l → i ≤ es.length → 0 ≤ n → n ≤ 500 → st.σ 0 = .slice tk 6 (es.map Ex.enc) → st.σ 3 = .int .i64 n → st.σ 4 = .int .i64 (i : Int) → st.low = 1 → st.recd = false →
    isoB δ (W ft ⟨1, false, [.tmp 2], none⟩ [.inLoop l17_8, .inBlock 0, .code (.seq (.region r17_9) .ret)] [] st) = ans δ (.bool (fewL l n)) := by
  intro l
  induction l with
  | nil =>
    intro i n tk st hd hi n0 n5 s0 s3 s4 hlow hrec
    have hn := drop_nil hd
    rw [W_inLoop]
    simp [l17_8, r17_3, r17_9, s0, s3, s4, hlow, hrec, hn, fewL]
  | cons x l ih =>
    intro i n tk st hd hi n0 n5 s0 s3 s4 hlow hrec
    obtain ⟨h1, h2, h3⟩ := drop_get hd
    have h1' : (i : Int) < (es.length : Int) := by omega
    have w : IntKind.i64.wrap ((i : Int) + 1) = (i : Int) + 1 := wrap64 (by omega) (by omega)
    have hb := size_le x 1 (by omega)
    have wn : IntKind.i64.wrap (n + x.size 1) = n + x.size 1 := wrap64 (by omega) (by omega)
    have hs := fun S δ => size_ok h68 x 1 S δ (by omega) (by omega)
    rw [W_inLoop]
    by_cases hc : 500 < n + x.size 1
    · simp [l17_8, r17_3, r17_4, r17_5, r17_6, s0, s3, s4, hlow, hrec, h1', h2, w, wn, hs, hc, fewL]
    · simp [l17_8, r17_3, r17_4, r17_5, r17_7, s0, s3, s4, hlow, hrec, h1', h2, w, wn, hs, hc, fewL]
      refine ih (i + 1) (n + x.size 1) tk _ h3 (by omega) (by omega) (by omega) ?_ ?_ ?_ ?_ ?_
      all_goals simp [s0]

theorem few_ok {ft : FT} (hf : ft 17 = some (.ir f17)) (h68 : ft 68 = some (.ir f68)) {es : List Ex} (hl : es.length ≤ 1000000000) {S : Store} {δ : Nat} : C ft none (.fn 17 [] []) [.slice .none 6 (es.map Ex.enc)] S δ = ans δ (.bool (fewL es 0)) := by
  rw [C_iso hf (by simp [f17]) (by simp)]
  simp [f17, r17_0, r17_1, r17_2]
  refine few_loop h68 hl es 0 0 .none _ rfl (by omega) (by omega) (by omega) ?_ ?_ ?_ ?_ ?_
  all_goals simp

/-- the law ExprChecks -/
theorem checks_ok {ft : FT} (hf : ft 3 = some (.ir f3)) (h17 : ft 17 = some (.ir f17)) (h68 : ft 68 = some (.ir f68)) (hS : ∀ S δ, C ft none (.fn 18 [] []) [] S δ = ans δ (.bool true))
    {e : Ex} {ks ps : List Int} (hk : ks.length ≤ 9223372036854775807) (hp : ps.length ≤ 9223372036854775807)
    (hP : ks.length ≤ 200 → ps.length ≤ 200 → ∀ S δ, C ft none (.fn 19 [] []) [e.enc, encInts ks, encInts ps] S δ = ansP δ (checkR e ks ps))
    (hR : ks.length ≤ 200 → ps.length ≤ 200 → ∀ S δ, C ft none (.fn 20 [] []) [e.enc, encInts ks, encInts ps] S δ = ans δ (encKind (checkR e ks ps)))
    {S : Store} {δ : Nat} : C ft none (.fn 3 [] []) [e.enc, encInts ks, encInts ps] S δ = ans δ (.bool true) := by
  have hw := fun S δ => few_ok h17 h68 (es := [e]) (by simp) (S := S) (δ := δ)
  simp only [List.map_cons, List.map_nil] at hw
  rw [C_iso hf (by simp [f3]) (by simp [encInts])]
  cases hfew : fewL [e] 0 with
  | false => simp [f3, r3_0, r3_1, r3_2, hw, hfew, hS, encInts]
  | true =>
    by_cases h1 : (200 : Int) < (ks.length : Int)
    · simp [f3, r3_0, r3_1, r3_2, hw, hfew, hS, encInts, h1]
    · by_cases h2 : (200 : Int) < (ps.length : Int)
      · simp [f3, r3_0, r3_1, r3_2, hw, hfew, hS, encInts, h1, h2]
      · have hP' := hP (by omega) (by omega)
        have hR' := hR (by omega) (by omega)
        simp only [encInts, encKind] at hP' hR'
        simp [f3, r3_0, r3_1, r3_3, r3_4, r3_5, hw, hfew, hS, encInts, h1, h2, hP', hR']
end Go.Mia
