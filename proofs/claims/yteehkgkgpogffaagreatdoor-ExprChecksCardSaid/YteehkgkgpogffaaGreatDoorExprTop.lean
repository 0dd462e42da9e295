/- Proved: the card of understorylaw23.ExprChecks (Rows.ExprChecksCardSaid): for every input the call returns true, and each argument reads afterwards as it read before.
   Conditions: those of the given row and card alone (the listed package variables lie as the program's text lays them); no others. -/
import Derived.Below
import Derived.Carry
import Derived.ChangeOld
import Derived.KernelRfl
import Derived.LaidMore
import Derived.Lay
import Derived.OpenShut
import Derived.ProofKit
import Derived.SevenTiedAt
import Derived.ShutString
import Derived.SizedLaws
import Derived.Stop.Joined
import Derived.WalkKit
import Derived.Test.YteehkgkgpogffaaGreatDoorCards
import Derived.Test.YteehkgkgpogffaaGreatDoorExprA
import Derived.Test.YteehkgkgpogffaaGreatDoorExprC
import Derived.Test.YteehkgkgpogffaaGreatDoorExprJ
import Derived.Test.YteehkgkgpogffaaGreatDoorTie
set_option linter.unusedSimpArgs false
set_option linter.unusedVariables false
set_option linter.unusedSectionVars false
/- The law ExprChecks: for every input the call returns true, and the arguments read afterwards as before. -/
namespace Go.Proofs.YteehkgkgpogffaaGreatDoor
open Go Go.ChangeShapes Go.WideShapes Go.ChangeAt Go.RowKit Go.Mia
open Go.ChangeMaps (open_string shut_string)

theorem own : ownKnob Tryz.prog.godebug = none := by kernel_rfl
theorem laidOut : laidOutB Tryz.prog = true := jf_laid
theorem exprTy : ExprTy Tryz.prog 3 9 23 24 26 := ⟨Tryz.underlying3, Tryz.underlying9, ⟨_, Tryz.underlying23, rfl⟩, Tryz.underlying24, ⟨_, Tryz.underlying26, rfl⟩, by kernel_rfl, by kernel_rfl, by kernel_rfl, by kernel_rfl, by kernel_rfl⟩

/-- a struct's cells, read, and the struct -/
theorem rep_agg {w : World} {cs : Array Value} {e : Ex} (h : Reps (K0 w) cs.toList e.enc.cells) : Rep (K0 w) (.agg cs) e.enc := by
  have he : e.enc = .agg e.enc.cells := by cases e; simp only [Ex.enc]; rfl
  rw [he]
  have := Rep.agg (k := K0 w) (cs := e.enc.cells) cs.toList h.1 (fun d hd => by
    obtain ⟨op, n, d', subs⟩ := e
    rw [Ex.enc_mk] at hd
    simp only [cells_agg, List.mem_cons, List.not_mem_nil, or_false] at hd
    rcases hd with rfl | rfl | rfl | rfl | rfl | rfl <;> exact ⟨rfl, rfl⟩) h.2
  simpa using this


def laidE : List (String × DataW Unit) := Rows.exprChecksRow.laid

set_option maxRecDepth 100000 in
theorem exprChecks_lifted (os : Os) (started : os.Started) (H : Type) (enc : TypeId × Value → H) :
    ReturnsInHanded {} Tryz.checked os 3 .any (fun w args => (Rows.exprChecksSpec.pre enc Tryz.prog Tryz.f3 Rows.exprChecksRow.domain false w args ∧ laidMetH Tryz.prog laidE w) ∧ sizedMet enc Tryz.prog Tryz.f3 (OpenSpec.ofChange Rows.exprChecksSpec) false w args)
      (Rows.exprChecksSpec.post enc Tryz.prog Tryz.f3 false true false false) := by
  refine returnsInHanded_of_change_and (C := Tryz.checked) (X := fun w _ => laidMetH Tryz.prog laidE w) (fun _ _ _ hh h => h.of_heap hh) own started (by kernel_rfl) Tryz.func3
    (ChangeSpec.witness_shaped (enc := enc) (C := Tryz.checked) (os := os) (X := fun w _ => laidMetH Tryz.prog laidE w) false (World.laidAll Tryz.prog os laidE) #[.agg #[.int .i64 0, .int .i64 0, .int .i64 0, .int .i64 0, .string ByteArray.empty, .slice none 0 0], .slice none 0 0, .slice none 0 0] 8 (World.laidAll_os _ _ _)
      (World.shaped_of_ZipB (by kernel_rfl) (by kernel_rfl)) (by kernel_rfl) (by kernel_rfl) (by kernel_rfl)
      (by rw [MakeChecks.laidMetH_plain _ _ _ (by kernel_rfl)]; exact laidMet_laidAll _ (by kernel_rfl) (by kernel_rfl))) ?_
  intro W base args ds gs before hval0 hW _ _ _ _
  have hval : ∀ (j : Nat) t v, Tryz.f3.params[j]? = some t → args[j]? = some v → Value.okWide Tryz.prog W .any base t v := hval0
  have hW' := hW
  obtain ⟨p, q, hA0, hV, rfl, hfz, hnd⟩ := hW
  have hA : DataW.TrodAll enc Tryz.prog W 0 (fun _ => true) true Tryz.f3.params.toList args.toList ds p := hA0
  rw [Tryz.params3] at hA hval
  obtain ⟨v0, vs0, d0, ds0, p0, q0, hargs, rfl, rfl, h0, r0⟩ := trodAll_cons hA
  obtain ⟨v1, vs1, d1, ds1, p1, q1, rfl, rfl, rfl, h1, r1⟩ := trodAll_cons r0
  obtain ⟨v2, vs2, d2, ds2, p2, q2, rfl, rfl, rfl, h2, r2⟩ := trodAll_cons r1
  obtain ⟨rfl, rfl, rfl⟩ := trodAll_nil r2
  obtain rfl : args = #[v0, v1, v2] := by cases args; simp_all
  obtain ⟨rfl, rfl⟩ := trodVars_none hV
  obtain ⟨c0, rfl, _⟩ := okWide_struct Tryz.underlying26 (hval 0 26 v0 rfl rfl)
  obtain ⟨a1, l1, m1, rfl⟩ := okWide_slice Tryz.underlying27 (hval 1 27 v1 rfl rfl)
  obtain ⟨a2, l2, m2, rfl⟩ := okWide_slice Tryz.underlying27 (hval 2 27 v2 rfl rfl)
  have k0 := h0
  have k1 := h1
  have k2 := h2
  have lt0 : ∀ x ∈ p0, x.block < W.heap.size := by obtain ⟨m, hm⟩ := k0; exact DataW.trod_lt m _ _ _ hm
  have lt1 : ∀ x ∈ p1, x.block < W.heap.size := by obtain ⟨m, hm⟩ := k1; exact DataW.trod_lt m _ _ _ hm
  have lt2 : ∀ x ∈ p2, x.block < W.heap.size := by obtain ⟨m, hm⟩ := k2; exact DataW.trod_lt m _ _ _ hm
  obtain ⟨n0, f0⟩ := h0
  obtain ⟨n1, f1⟩ := h1
  obtain ⟨n2, f2⟩ := h2
  obtain ⟨e, hr, hR⟩ := read_expr exprTy _ _ _ f0
  obtain ⟨ks, w1, e1, _, hk, hK⟩ := read_ints exprTy Tryz.underlying27 f1
  obtain ⟨ps, w2, e2, _, hp, hP⟩ := read_ints exprTy Tryz.underlying27 f2
  simp [Value.cells] at e1 e2
  subst e1 e2
  refine (law_calls goE ftE_ok he3 (vs := [.agg c0, .slice a1 l1 m1, .slice a2 l2 m2]) (.cons (rep_agg hR) (.cons hK (.cons hP .nil))) (exprChecks_true hr hk hp)).mono fun e W' ⟨he, bel⟩ => ?_
  subst he
  exact ⟨_, rfl, _, _, _, [], _, [], hW', trodAll_mk1 (shut_bool Tryz.underlying4 _), (trodAll_cons_mk (Below.trod laidOut (by kernel_rfl) (of_decide_eq_true (by kernel_rfl)) k0 bel lt0) (trodAll_cons_mk (Below.trod laidOut (by kernel_rfl) (of_decide_eq_true (by kernel_rfl)) k1 bel lt1) (trodAll_cons_mk (Below.trod laidOut (by kernel_rfl) (of_decide_eq_true (by kernel_rfl)) k2 bel lt2) trodAll_mk0))), rfl, bel.frame _, fun h => by cases h⟩

theorem exprChecks_holds : Rows.ExprChecksSaid :=
  OpenClaim.holds_of_wide 3 Tryz.f3 rfl rfl rfl rfl rfl rfl rfl ⟨rfl, rfl, rfl, rfl, rfl⟩ rfl rfl rfl rfl rfl exprChecks_named Tryz.func3 exprChecks_joined
    (of_decide_eq_true (by kernel_rfl)) (by unfold Func.isWrapper; first | (rw [if_pos (by decide +kernel)]; kernel_rfl) | (rw [if_neg (by decide +kernel)]; exact ⟨rfl, rfl⟩))
    (fun os started H enc _ => exprChecks_lifted os started H enc)

/-- THE CARD of the law ExprChecks. -/
theorem exprChecks_card_holds : Rows.ExprChecksCardSaid :=
  Claim7.holds_tied_plain_at .later [] [.data, .data, .data, .data, .sentinel, .sentinel, .pinned] true (true, "2d7692be5541b3e613b3dfd8af561a0c2ec286e0ede7ab0ef98489d4cefc276b") true
    exprChecks_holds (fun _ h => by cases h) (by kernel_rfl) (fun _ h => by cases h) exprChecks_row_tie rfl ⟨rfl, rfl⟩ tryz_main rfl
    (fun f fn hf hfn => by
      obtain rfl : f = 3 := Option.some.inj (exprChecks_named.symm.trans hf) |>.symm
      obtain rfl : fn = Tryz.f3 := (Option.some.inj (Tryz.func3.symm.trans hfn)).symm
      exact ⟨by kernel_rfl, fun j t ht => by
        rw [Tryz.params3] at ht
        have hm : t ∈ [26, 27, 27] := by simpa using Array.mem_of_getElem? ht
        have hall : ([26, 27, 27].all fun u => !Tryz.prog.wantsStandIn u) = true := by kernel_rfl
        exact (show Tryz.prog.wantsStandIn t = false by simpa using List.all_eq_true.1 hall t hm)⟩)
    exprChecks_goes
#print axioms exprChecks_card_holds
end Go.Proofs.YteehkgkgpogffaaGreatDoor
