import Derived.KernelRfl
import Derived.Test.YteehkgkgpogffaaGreatDoorExprA
import Derived.Test.YteehkgkgpogffaaGreatDoorExprB
import Derived.Test.YteehkgkgpogffaaGreatDoorIrE
import Derived.Test.YteehkgkgpogffaaGreatDoorMiaF
import Derived.Test.YteehkgkgpogffaaGreatDoorProg
import Derived.Test.YteehkgkgpogffaaGreatDoorRows
set_option linter.unusedSimpArgs false
set_option linter.unusedVariables false
set_option linter.unusedSectionVars false
/- A closed call. -/
namespace Go.Mia
open Go

/-- what a function without arguments comes to where it is run once, it comes to everywhere -/
theorem C_closed {ft : FT} {f : FuncId} {fn : IFunc} {n : Nat} {d : D} (hf : ft f = some (.ir fn)) (h : mkCall ft (R ft n) none (.fn f [] []) [] S0 1 = some ⟨.ret d, false, 1, none⟩) (S : Store) (δ : Nat) : C ft none (.fn f [] []) [] S δ = ans δ d := by
  have hl : (([] : List D) ++ [] ++ []).length ≤ fn.nt := Nat.zero_le _
  rw [C_iso hf hl (by simp)]
  unfold mkCall at h
  simp only [hf, if_pos hl] at h
  split at h
  · split at h
    · rename_i rt hrt
      have hW := R_W ft n _ _ _ _ _ hrt
      rw [hW]
      simp only [isoB]
      unfold isoRet at h ⊢
      split at h
      · rename_i c
        rw [if_pos c]
        split at h
        · rename_i d' ho
          split at h
          · rename_i hp
            simp only [Option.some.injEq, Ret.mk.injEq, Out.ret.injEq] at h
            obtain rfl := h.1
            simp only [hp, if_true]
          · cases h
        · split at h <;> simp at h
      · cases h
    · cases h
  · rename_i hc
    simp at hc

end Go.Mia
/- The functions that the law reaches, as the reading takes them: each is the translation of the program's own. -/
namespace Go.Mia
open Go
def polE : Pol := { vec := [(102, 37), (222, 29), (103, 61), (16, 50)], own := [80, 113, 205, 206, 123], clones := [173, 182], grows := [153, 307] }
theorem tr3 : trFunc Go.Proofs.Tryz.prog polE 3 = some f3 := by kernel_rfl
theorem tr17 : trFunc Go.Proofs.Tryz.prog polE 17 = some f17 := by kernel_rfl
theorem tr18 : trFunc Go.Proofs.Tryz.prog polE 18 = some f18 := by kernel_rfl
theorem tr19 : trFunc Go.Proofs.Tryz.prog polE 19 = some f19 := by kernel_rfl
theorem tr20 : trFunc Go.Proofs.Tryz.prog polE 20 = some f20 := by kernel_rfl
theorem tr22 : trFunc Go.Proofs.Tryz.prog polE 22 = some f22 := by kernel_rfl
theorem tr24 : trFunc Go.Proofs.Tryz.prog polE 24 = some f24 := by kernel_rfl
theorem tr25 : trFunc Go.Proofs.Tryz.prog polE 25 = some f25 := by kernel_rfl
theorem tr26 : trFunc Go.Proofs.Tryz.prog polE 26 = some f26 := by kernel_rfl
theorem tr33 : trFunc Go.Proofs.Tryz.prog polE 33 = some f33 := by kernel_rfl
theorem tr34 : trFunc Go.Proofs.Tryz.prog polE 34 = some f34 := by kernel_rfl
theorem tr36 : trFunc Go.Proofs.Tryz.prog polE 36 = some f36 := by kernel_rfl
theorem tr37 : trFunc Go.Proofs.Tryz.prog polE 37 = some f37 := by kernel_rfl
theorem tr38 : trFunc Go.Proofs.Tryz.prog polE 38 = some f38 := by kernel_rfl
theorem tr46 : trFunc Go.Proofs.Tryz.prog polE 46 = some f46 := by kernel_rfl
theorem tr61 : trFunc Go.Proofs.Tryz.prog polE 61 = some f61 := by kernel_rfl
theorem tr68 : trFunc Go.Proofs.Tryz.prog polE 68 = some f68 := by kernel_rfl
theorem tr69 : trFunc Go.Proofs.Tryz.prog polE 69 = some f69 := by kernel_rfl
theorem tr70 : trFunc Go.Proofs.Tryz.prog polE 70 = some f70 := by kernel_rfl
theorem tr71 : trFunc Go.Proofs.Tryz.prog polE 71 = some f71 := by kernel_rfl
theorem tr72 : trFunc Go.Proofs.Tryz.prog polE 72 = some f72 := by kernel_rfl
theorem tr73 : trFunc Go.Proofs.Tryz.prog polE 73 = some f73 := by kernel_rfl
theorem tr74 : trFunc Go.Proofs.Tryz.prog polE 74 = some f74 := by kernel_rfl
theorem tr75 : trFunc Go.Proofs.Tryz.prog polE 75 = some f75 := by kernel_rfl
theorem tr76 : trFunc Go.Proofs.Tryz.prog polE 76 = some f76 := by kernel_rfl
theorem tr77 : trFunc Go.Proofs.Tryz.prog polE 77 = some f77 := by kernel_rfl
theorem tr78 : trFunc Go.Proofs.Tryz.prog polE 78 = some f78 := by kernel_rfl
theorem tr79 : trFunc Go.Proofs.Tryz.prog polE 79 = some f79 := by kernel_rfl
theorem tr80 : trFunc Go.Proofs.Tryz.prog polE 80 = some f80 := by kernel_rfl
theorem tr81 : trFunc Go.Proofs.Tryz.prog polE 81 = some f81 := by kernel_rfl
theorem tr82 : trFunc Go.Proofs.Tryz.prog polE 82 = some f82 := by kernel_rfl
theorem tr83 : trFunc Go.Proofs.Tryz.prog polE 83 = some f83 := by kernel_rfl
theorem tr84 : trFunc Go.Proofs.Tryz.prog polE 84 = some f84 := by kernel_rfl
theorem tr86 : trFunc Go.Proofs.Tryz.prog polE 86 = some f86 := by kernel_rfl
theorem tr89 : trFunc Go.Proofs.Tryz.prog polE 89 = some f89 := by kernel_rfl
theorem tr90 : trFunc Go.Proofs.Tryz.prog polE 90 = some f90 := by kernel_rfl
theorem tr91 : trFunc Go.Proofs.Tryz.prog polE 91 = some f91 := by kernel_rfl
theorem tr92 : trFunc Go.Proofs.Tryz.prog polE 92 = some f92 := by kernel_rfl
theorem tr93 : trFunc Go.Proofs.Tryz.prog polE 93 = some f93 := by kernel_rfl
theorem tr99 : trFunc Go.Proofs.Tryz.prog polE 99 = some f99 := by kernel_rfl
theorem tr101 : trFunc Go.Proofs.Tryz.prog polE 101 = some f101 := by kernel_rfl
theorem tr102 : trFunc Go.Proofs.Tryz.prog polE 102 = some f102 := by kernel_rfl
theorem tr105 : trFunc Go.Proofs.Tryz.prog polE 105 = some f105 := by kernel_rfl
theorem tr110 : trFunc Go.Proofs.Tryz.prog polE 110 = some f110 := by kernel_rfl
theorem tr113 : trFunc Go.Proofs.Tryz.prog polE 113 = some f113 := by kernel_rfl
theorem tr114 : trFunc Go.Proofs.Tryz.prog polE 114 = some f114 := by kernel_rfl
theorem tr119 : trFunc Go.Proofs.Tryz.prog polE 119 = some f119 := by kernel_rfl
theorem tr125 : trFunc Go.Proofs.Tryz.prog polE 125 = some f125 := by kernel_rfl
theorem tr128 : trFunc Go.Proofs.Tryz.prog polE 128 = some f128 := by kernel_rfl
theorem tr130 : trFunc Go.Proofs.Tryz.prog polE 130 = some f130 := by kernel_rfl
theorem tr140 : trFunc Go.Proofs.Tryz.prog polE 140 = some f140 := by kernel_rfl
theorem tr146 : trFunc Go.Proofs.Tryz.prog polE 146 = some f146 := by kernel_rfl
theorem tr147 : trFunc Go.Proofs.Tryz.prog polE 147 = some f147 := by kernel_rfl
theorem tr150 : trFunc Go.Proofs.Tryz.prog polE 150 = some f150 := by kernel_rfl
theorem tr151 : trFunc Go.Proofs.Tryz.prog polE 151 = some f151 := by kernel_rfl
theorem tr152 : trFunc Go.Proofs.Tryz.prog polE 152 = some f152 := by kernel_rfl
theorem tr154 : trFunc Go.Proofs.Tryz.prog polE 154 = some f154 := by kernel_rfl
theorem tr155 : trFunc Go.Proofs.Tryz.prog polE 155 = some f155 := by kernel_rfl
theorem tr156 : trFunc Go.Proofs.Tryz.prog polE 156 = some f156 := by kernel_rfl
theorem tr157 : trFunc Go.Proofs.Tryz.prog polE 157 = some f157 := by kernel_rfl
theorem tr163 : trFunc Go.Proofs.Tryz.prog polE 163 = some f163 := by kernel_rfl
theorem tr164 : trFunc Go.Proofs.Tryz.prog polE 164 = some f164 := by kernel_rfl
theorem tr165 : trFunc Go.Proofs.Tryz.prog polE 165 = some f165 := by kernel_rfl
theorem tr170 : trFunc Go.Proofs.Tryz.prog polE 170 = some f170 := by kernel_rfl
theorem tr171 : trFunc Go.Proofs.Tryz.prog polE 171 = some f171 := by kernel_rfl
theorem tr172 : trFunc Go.Proofs.Tryz.prog polE 172 = some f172 := by kernel_rfl
theorem tr174 : trFunc Go.Proofs.Tryz.prog polE 174 = some f174 := by kernel_rfl
theorem tr175 : trFunc Go.Proofs.Tryz.prog polE 175 = some f175 := by kernel_rfl
theorem tr181 : trFunc Go.Proofs.Tryz.prog polE 181 = some f181 := by kernel_rfl
theorem tr198 : trFunc Go.Proofs.Tryz.prog polE 198 = some f198 := by kernel_rfl
theorem tr199 : trFunc Go.Proofs.Tryz.prog polE 199 = some f199 := by kernel_rfl
theorem tr200 : trFunc Go.Proofs.Tryz.prog polE 200 = some f200 := by kernel_rfl
theorem tr201 : trFunc Go.Proofs.Tryz.prog polE 201 = some f201 := by kernel_rfl
theorem tr202 : trFunc Go.Proofs.Tryz.prog polE 202 = some f202 := by kernel_rfl
theorem tr203 : trFunc Go.Proofs.Tryz.prog polE 203 = some f203 := by kernel_rfl
theorem tr205 : trFunc Go.Proofs.Tryz.prog polE 205 = some f205 := by kernel_rfl
theorem tr206 : trFunc Go.Proofs.Tryz.prog polE 206 = some f206 := by kernel_rfl
theorem tr207 : trFunc Go.Proofs.Tryz.prog polE 207 = some f207 := by kernel_rfl
theorem tr222 : trFunc Go.Proofs.Tryz.prog polE 222 = some f222 := by kernel_rfl
theorem tr223 : trFunc Go.Proofs.Tryz.prog polE 223 = some f223 := by kernel_rfl
theorem tr224 : trFunc Go.Proofs.Tryz.prog polE 224 = some f224 := by kernel_rfl
theorem tr225 : trFunc Go.Proofs.Tryz.prog polE 225 = some f225 := by kernel_rfl
theorem tr226 : trFunc Go.Proofs.Tryz.prog polE 226 = some f226 := by kernel_rfl
theorem tr228 : trFunc Go.Proofs.Tryz.prog polE 228 = some f228 := by kernel_rfl
theorem tr257 : trFunc Go.Proofs.Tryz.prog polE 257 = some f257 := by kernel_rfl
theorem tr260 : trFunc Go.Proofs.Tryz.prog polE 260 = some f260 := by kernel_rfl
theorem tr266 : trFunc Go.Proofs.Tryz.prog polE 266 = some f266 := by kernel_rfl
theorem tr271 : trFunc Go.Proofs.Tryz.prog polE 271 = some f271 := by kernel_rfl
theorem tr277 : trFunc Go.Proofs.Tryz.prog polE 277 = some f277 := by kernel_rfl
theorem tr278 : trFunc Go.Proofs.Tryz.prog polE 278 = some f278 := by kernel_rfl
theorem tr280 : trFunc Go.Proofs.Tryz.prog polE 280 = some f280 := by kernel_rfl
theorem tr281 : trFunc Go.Proofs.Tryz.prog polE 281 = some f281 := by kernel_rfl
theorem tr305 : trFunc Go.Proofs.Tryz.prog polE 305 = some f305 := by kernel_rfl
theorem tr306 : trFunc Go.Proofs.Tryz.prog polE 306 = some f306 := by kernel_rfl
def tabE : List (Nat × IFunc) := [(3, f3), (17, f17), (18, f18), (19, f19), (20, f20), (22, f22), (24, f24), (25, f25), (26, f26), (33, f33), (34, f34), (36, f36), (37, f37), (38, f38), (46, f46), (61, f61), (68, f68), (69, f69), (70, f70), (71, f71), (72, f72), (73, f73), (74, f74), (75, f75), (76, f76), (77, f77), (78, f78), (79, f79), (80, f80), (81, f81), (82, f82), (83, f83), (84, f84), (86, f86), (89, f89), (90, f90), (91, f91), (92, f92), (93, f93), (99, f99), (101, f101), (102, f102), (105, f105), (110, f110), (113, f113), (114, f114), (119, f119), (125, f125), (128, f128), (130, f130), (140, f140), (146, f146), (147, f147), (150, f150), (151, f151), (152, f152), (154, f154), (155, f155), (156, f156), (157, f157), (163, f163), (164, f164), (165, f165), (170, f170), (171, f171), (172, f172), (174, f174), (175, f175), (181, f181), (198, f198), (199, f199), (200, f200), (201, f201), (202, f202), (203, f203), (205, f205), (206, f206), (207, f207), (222, f222), (223, f223), (224, f224), (225, f225), (226, f226), (228, f228), (257, f257), (260, f260), (266, f266), (271, f271), (277, f277), (278, f278), (280, f280), (281, f281), (305, f305), (306, f306)]
def ftE : FT := ftOf tabE
theorem ftE_ok : FtOk Go.Proofs.Tryz.prog polE ftE := ftOf_ok (show AllTr _ _ tabE from ⟨tr3, tr17, tr18, tr19, tr20, tr22, tr24, tr25, tr26, tr33, tr34, tr36, tr37, tr38, tr46, tr61, tr68, tr69, tr70, tr71, tr72, tr73, tr74, tr75, tr76, tr77, tr78, tr79, tr80, tr81, tr82, tr83, tr84, tr86, tr89, tr90, tr91, tr92, tr93, tr99, tr101, tr102, tr105, tr110, tr113, tr114, tr119, tr125, tr128, tr130, tr140, tr146, tr147, tr150, tr151, tr152, tr154, tr155, tr156, tr157, tr163, tr164, tr165, tr170, tr171, tr172, tr174, tr175, tr181, tr198, tr199, tr200, tr201, tr202, tr203, tr205, tr206, tr207, tr222, tr223, tr224, tr225, tr226, tr228, tr257, tr260, tr266, tr271, tr277, tr278, tr280, tr281, tr305, tr306, trivial⟩)
theorem he3 : ftE 3 = some (.ir f3) := by kernel_rfl
theorem he17 : ftE 17 = some (.ir f17) := by kernel_rfl
theorem he18 : ftE 18 = some (.ir f18) := by kernel_rfl
theorem he19 : ftE 19 = some (.ir f19) := by kernel_rfl
theorem he20 : ftE 20 = some (.ir f20) := by kernel_rfl
theorem he22 : ftE 22 = some (.ir f22) := by kernel_rfl
theorem he24 : ftE 24 = some (.ir f24) := by kernel_rfl
theorem he25 : ftE 25 = some (.ir f25) := by kernel_rfl
theorem he26 : ftE 26 = some (.ir f26) := by kernel_rfl
theorem he33 : ftE 33 = some (.ir f33) := by kernel_rfl
theorem he34 : ftE 34 = some (.ir f34) := by kernel_rfl
theorem he36 : ftE 36 = some (.ir f36) := by kernel_rfl
theorem he37 : ftE 37 = some (.ir f37) := by kernel_rfl
theorem he38 : ftE 38 = some (.ir f38) := by kernel_rfl
theorem he46 : ftE 46 = some (.ir f46) := by kernel_rfl
theorem he61 : ftE 61 = some (.ir f61) := by kernel_rfl
theorem he68 : ftE 68 = some (.ir f68) := by kernel_rfl
theorem he69 : ftE 69 = some (.ir f69) := by kernel_rfl
theorem he70 : ftE 70 = some (.ir f70) := by kernel_rfl
theorem he71 : ftE 71 = some (.ir f71) := by kernel_rfl
theorem he72 : ftE 72 = some (.ir f72) := by kernel_rfl
theorem he73 : ftE 73 = some (.ir f73) := by kernel_rfl
theorem he74 : ftE 74 = some (.ir f74) := by kernel_rfl
theorem he75 : ftE 75 = some (.ir f75) := by kernel_rfl
theorem he76 : ftE 76 = some (.ir f76) := by kernel_rfl
theorem he77 : ftE 77 = some (.ir f77) := by kernel_rfl
theorem he78 : ftE 78 = some (.ir f78) := by kernel_rfl
theorem he79 : ftE 79 = some (.ir f79) := by kernel_rfl
theorem he80 : ftE 80 = some (.ir f80) := by kernel_rfl
theorem he81 : ftE 81 = some (.ir f81) := by kernel_rfl
theorem he82 : ftE 82 = some (.ir f82) := by kernel_rfl
theorem he83 : ftE 83 = some (.ir f83) := by kernel_rfl
theorem he84 : ftE 84 = some (.ir f84) := by kernel_rfl
theorem he86 : ftE 86 = some (.ir f86) := by kernel_rfl
theorem he89 : ftE 89 = some (.ir f89) := by kernel_rfl
theorem he90 : ftE 90 = some (.ir f90) := by kernel_rfl
theorem he91 : ftE 91 = some (.ir f91) := by kernel_rfl
theorem he92 : ftE 92 = some (.ir f92) := by kernel_rfl
theorem he93 : ftE 93 = some (.ir f93) := by kernel_rfl
theorem he99 : ftE 99 = some (.ir f99) := by kernel_rfl
theorem he101 : ftE 101 = some (.ir f101) := by kernel_rfl
theorem he102 : ftE 102 = some (.ir f102) := by kernel_rfl
theorem he105 : ftE 105 = some (.ir f105) := by kernel_rfl
theorem he110 : ftE 110 = some (.ir f110) := by kernel_rfl
theorem he113 : ftE 113 = some (.ir f113) := by kernel_rfl
theorem he114 : ftE 114 = some (.ir f114) := by kernel_rfl
theorem he119 : ftE 119 = some (.ir f119) := by kernel_rfl
theorem he125 : ftE 125 = some (.ir f125) := by kernel_rfl
theorem he128 : ftE 128 = some (.ir f128) := by kernel_rfl
theorem he130 : ftE 130 = some (.ir f130) := by kernel_rfl
theorem he140 : ftE 140 = some (.ir f140) := by kernel_rfl
theorem he146 : ftE 146 = some (.ir f146) := by kernel_rfl
theorem he147 : ftE 147 = some (.ir f147) := by kernel_rfl
theorem he150 : ftE 150 = some (.ir f150) := by kernel_rfl
theorem he151 : ftE 151 = some (.ir f151) := by kernel_rfl
theorem he152 : ftE 152 = some (.ir f152) := by kernel_rfl
theorem he154 : ftE 154 = some (.ir f154) := by kernel_rfl
theorem he155 : ftE 155 = some (.ir f155) := by kernel_rfl
theorem he156 : ftE 156 = some (.ir f156) := by kernel_rfl
theorem he157 : ftE 157 = some (.ir f157) := by kernel_rfl
theorem he163 : ftE 163 = some (.ir f163) := by kernel_rfl
theorem he164 : ftE 164 = some (.ir f164) := by kernel_rfl
theorem he165 : ftE 165 = some (.ir f165) := by kernel_rfl
theorem he170 : ftE 170 = some (.ir f170) := by kernel_rfl
theorem he171 : ftE 171 = some (.ir f171) := by kernel_rfl
theorem he172 : ftE 172 = some (.ir f172) := by kernel_rfl
theorem he174 : ftE 174 = some (.ir f174) := by kernel_rfl
theorem he175 : ftE 175 = some (.ir f175) := by kernel_rfl
theorem he181 : ftE 181 = some (.ir f181) := by kernel_rfl
theorem he198 : ftE 198 = some (.ir f198) := by kernel_rfl
theorem he199 : ftE 199 = some (.ir f199) := by kernel_rfl
theorem he200 : ftE 200 = some (.ir f200) := by kernel_rfl
theorem he201 : ftE 201 = some (.ir f201) := by kernel_rfl
theorem he202 : ftE 202 = some (.ir f202) := by kernel_rfl
theorem he203 : ftE 203 = some (.ir f203) := by kernel_rfl
theorem he205 : ftE 205 = some (.ir f205) := by kernel_rfl
theorem he206 : ftE 206 = some (.ir f206) := by kernel_rfl
theorem he207 : ftE 207 = some (.ir f207) := by kernel_rfl
theorem he222 : ftE 222 = some (.ir f222) := by kernel_rfl
theorem he223 : ftE 223 = some (.ir f223) := by kernel_rfl
theorem he224 : ftE 224 = some (.ir f224) := by kernel_rfl
theorem he225 : ftE 225 = some (.ir f225) := by kernel_rfl
theorem he226 : ftE 226 = some (.ir f226) := by kernel_rfl
theorem he228 : ftE 228 = some (.ir f228) := by kernel_rfl
theorem he257 : ftE 257 = some (.ir f257) := by kernel_rfl
theorem he260 : ftE 260 = some (.ir f260) := by kernel_rfl
theorem he266 : ftE 266 = some (.ir f266) := by kernel_rfl
theorem he271 : ftE 271 = some (.ir f271) := by kernel_rfl
theorem he277 : ftE 277 = some (.ir f277) := by kernel_rfl
theorem he278 : ftE 278 = some (.ir f278) := by kernel_rfl
theorem he280 : ftE 280 = some (.ir f280) := by kernel_rfl
theorem he281 : ftE 281 = some (.ir f281) := by kernel_rfl
theorem he305 : ftE 305 = some (.ir f305) := by kernel_rfl
theorem he306 : ftE 306 = some (.ir f306) := by kernel_rfl
end Go.Mia
/- Clone and Grow of the program. -/
namespace Go.Mia
open Go Go.Proofs

theorem appTy_of {P : Program} {t u e : TypeId} (ht : P.underlying t = some (.slice e)) (hu : kindOfU P u) (h : ((P.info? e).any fun i => i.zero.any (fun z => z.cells.size == i.size) && decide (i.bytes ≠ 0) && decide (i.bytes ≤ 1048576) && decide (i.size ≠ 0)) = true) :
    ∃ i z, AppTy P t u e i z i.size i.bytes ∧ i.size ≠ 0 := by
  cases hi : P.info? e with
  | none => rw [hi] at h; cases h
  | some i =>
    rw [hi] at h
    simp only [Option.any_some, Bool.and_eq_true, decide_eq_true_eq] at h
    obtain ⟨⟨⟨h1, h2⟩, h3⟩, h4⟩ := h
    cases hz : i.zero with
    | none => rw [hz] at h1; cases h1
    | some z =>
      rw [hz] at h1
      simp only [Option.any_some, beq_iff_eq] at h1
      exact ⟨i, z, ⟨ht, hu, hi, hz, rfl, h1, rfl, h2, h3⟩, h4⟩

theorem ic173 : IsClone Tryz.prog 173 27 27 := ⟨⟨Tryz.f173, _, _, _, _, _, _, _, _, _, _, _, _, _, Tryz.func173, by decide, rfl, rfl, rfl, ⟨rfl, rfl, rfl⟩, ⟨rfl, rfl, rfl⟩, ⟨rfl, rfl, rfl⟩, ⟨rfl, rfl, rfl⟩, ⟨rfl, rfl, rfl⟩, ⟨rfl, rfl, rfl⟩, ⟨rfl, rfl, rfl, rfl⟩, ⟨rfl, rfl, rfl⟩⟩⟩
theorem ic182 : IsClone Tryz.prog 182 24 24 := ⟨⟨Tryz.f182, _, _, _, _, _, _, _, _, _, _, _, _, _, Tryz.func182, by decide, rfl, rfl, rfl, ⟨rfl, rfl, rfl⟩, ⟨rfl, rfl, rfl⟩, ⟨rfl, rfl, rfl⟩, ⟨rfl, rfl, rfl⟩, ⟨rfl, rfl, rfl⟩, ⟨rfl, rfl, rfl⟩, ⟨rfl, rfl, rfl, rfl⟩, ⟨rfl, rfl, rfl⟩⟩⟩
set_option maxRecDepth 100000
theorem ig153 : IsGrow Tryz.prog 153 27 3 27 := ⟨⟨Tryz.f153, _, _, _, _, _, _, _, _, _, _, _, _, _, _, _, _, _, _, _, _, _, _, _, _, _, _, _, _, _, _, _, _, _, _, _, _, _, _, Tryz.func153, by decide, rfl, rfl, rfl, ⟨rfl, rfl, rfl⟩, ⟨rfl, rfl, rfl⟩, ⟨rfl, rfl, rfl⟩, ⟨rfl, rfl, rfl⟩, ⟨rfl, rfl, rfl⟩, ⟨rfl, rfl, rfl⟩, ⟨rfl, rfl, rfl⟩, ⟨rfl, rfl, rfl⟩, ⟨rfl, rfl, rfl⟩, ⟨rfl, rfl, rfl⟩, ⟨rfl, rfl, rfl⟩, ⟨rfl, rfl, rfl⟩, ⟨rfl, rfl, rfl⟩, ⟨rfl, rfl, rfl⟩, ⟨rfl, rfl, rfl⟩, ⟨rfl, rfl, rfl⟩, ⟨rfl, rfl, rfl⟩, ⟨rfl, rfl, rfl⟩, ⟨rfl, rfl, rfl⟩, rfl, ⟨rfl, rfl, rfl⟩, ⟨rfl, rfl, rfl⟩, ⟨rfl, rfl, rfl⟩, ⟨rfl, rfl, rfl⟩, ⟨rfl, rfl, rfl⟩, ⟨rfl, rfl, rfl⟩⟩⟩
theorem ig307 : IsGrow Tryz.prog 307 24 3 24 := ⟨⟨Tryz.f307, _, _, _, _, _, _, _, _, _, _, _, _, _, _, _, _, _, _, _, _, _, _, _, _, _, _, _, _, _, _, _, _, _, _, _, _, _, _, Tryz.func307, by decide, rfl, rfl, rfl, ⟨rfl, rfl, rfl⟩, ⟨rfl, rfl, rfl⟩, ⟨rfl, rfl, rfl⟩, ⟨rfl, rfl, rfl⟩, ⟨rfl, rfl, rfl⟩, ⟨rfl, rfl, rfl⟩, ⟨rfl, rfl, rfl⟩, ⟨rfl, rfl, rfl⟩, ⟨rfl, rfl, rfl⟩, ⟨rfl, rfl, rfl⟩, ⟨rfl, rfl, rfl⟩, ⟨rfl, rfl, rfl⟩, ⟨rfl, rfl, rfl⟩, ⟨rfl, rfl, rfl⟩, ⟨rfl, rfl, rfl⟩, ⟨rfl, rfl, rfl⟩, ⟨rfl, rfl, rfl⟩, ⟨rfl, rfl, rfl⟩, ⟨rfl, rfl, rfl⟩, rfl, ⟨rfl, rfl, rfl⟩, ⟨rfl, rfl, rfl⟩, ⟨rfl, rfl, rfl⟩, ⟨rfl, rfl, rfl⟩, ⟨rfl, rfl, rfl⟩, ⟨rfl, rfl, rfl⟩⟩⟩

theorem ap27 : ∃ i z, AppTy Tryz.prog 27 27 3 i z i.size i.bytes ∧ i.size ≠ 0 := appTy_of Tryz.underlying27 (.inl ⟨_, Tryz.underlying27⟩) (by kernel_rfl)
theorem ap24 : ∃ i z, AppTy Tryz.prog 24 24 26 i z i.size i.bytes ∧ i.size ≠ 0 := appTy_of Tryz.underlying24 (.inl ⟨_, Tryz.underlying24⟩) (by kernel_rfl)

theorem goE : GoOk Tryz.prog polE := by
  refine go_ok ?_ ?_
  · intro g hg
    have : g = 173 ∨ g = 182 := by simpa [polE] using hg
    rcases this with rfl | rfl
    · obtain ⟨i, z, h, h0⟩ := ap27
      exact ⟨27, 3, 27, i, z, ic173, by kernel_rfl, h⟩
    · obtain ⟨i, z, h, h0⟩ := ap24
      exact ⟨24, 26, 24, i, z, ic182, by kernel_rfl, h⟩
  · intro g hg
    have : g = 153 ∨ g = 307 := by simpa [polE] using hg
    rcases this with rfl | rfl
    · obtain ⟨i, z, h, h0⟩ := ap27
      exact ⟨27, 3, 3, 27, .i64, i, z, ig153, by kernel_rfl, h, Tryz.underlying3, h0⟩
    · obtain ⟨i, z, h, h0⟩ := ap24
      exact ⟨24, 3, 26, 24, .i64, i, z, ig307, by kernel_rfl, h, Tryz.underlying3, h0⟩
end Go.Mia
/- Closed calls, run by the reading. -/
namespace Go.Mia
open Go

theorem tabRun : mkCall ftE (R ftE 100000) none (.fn 74 [] []) [] S0 1 = some ⟨.ret (.cptr tab), false, 1, none⟩ := by kernel_rfl
theorem saneRun : mkCall ftE (R ftE 100000) none (.fn 18 [] []) [] S0 1 = some ⟨.ret (.bool true), false, 1, none⟩ := by kernel_rfl
theorem newTable_ok (S : Store) (δ : Nat) : C ftE none (.fn 74 [] []) [] S δ = ans δ (.cptr tab) := C_closed he74 tabRun S δ
theorem sane_ok (S : Store) (δ : Nat) : C ftE none (.fn 18 [] []) [] S δ = ans δ (.bool true) := C_closed he18 saneRun S δ

/-- the law ExprChecks answers true -/
theorem exprChecks_true {e : Ex} {ks ps : List Int} (hr : e.rng) (hk : ks.length ≤ maxLen) (hp : ps.length ≤ maxLen) : C ftE none (.fn 3 [] []) [e.enc, encInts ks, encInts ps] S0 1 = some ⟨.ret (.bool true), false, 1, none⟩ :=
  checks_ok he3 he17 he68 sane_ok (by unfold maxLen at hk; omega) (by unfold maxLen at hp; omega)
    (fun h1 h2 S δ => Check_ok he19 he72 he73 newTable_ok he75 he76 he77 he78 he79 he80 he81 he150 he151 he152 he154 he198 he257 he260 he266 he271 hr (by omega) (by omega))
    (fun h1 h2 S δ => CheckR_ok he20 he38 he93 he174 he175 he82 he83 he155 he199 he200 he201 (by omega) (by omega) S δ)
end Go.Mia
