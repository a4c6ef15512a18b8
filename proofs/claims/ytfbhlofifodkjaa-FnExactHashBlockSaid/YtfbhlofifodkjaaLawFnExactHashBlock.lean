/- The row of the law FnExactHashBlock: what the law's Go function computes is true, for every input that the row lets in; the plain law behind it is YtfbhlofifodkjaaPureFnExactHashBlock. No condition beyond the row's own. (Written by the session's program pp.py.) -/
import Derived.Test.YtfbhlofifodkjaaRows
import Derived.Test.YtfbhlofifodkjaaJFacts
import Derived.Test.YtfbhlofifodkjaaOpenK
import Derived.Test.YtfbhlofifodkjaaFLawsFnExactHashBlock
import Derived.Test.YtfbhlofifodkjaaPureFnExactHashBlock
import Derived.WalkKit
import Derived.ProofKit
import Derived.OpenShut
import Derived.ShutString
import Derived.ChangeOld
import Derived.Below
import Derived.SizedLaws
import Derived.JoinedOf
namespace Go.Proofs.Ytfbhlofifodkjaa.fnExactHashBlock
open Go.ChangeShapes Go.WideShapes Go.ChangeAt Go.RowKit Go.Proofs.Ytfbhlofifodkjaa.Opening Go.Proofs.Ytfbhlofifodkjaa.B Go.Proofs.YtfbhlofifodkjaaW.PrintWords
set_option linter.unusedVariables false
theorem own : ownKnob Try.prog.godebug = none := by kernel_rfl
set_option maxRecDepth 100000 in
theorem lifted (os : Os) (started : os.Started) (H : Type) (enc : TypeId × Value → H) :
    ReturnsInHanded {} Try.checked os 11 .any (Rows.fnExactHashBlockSpec.pre6 enc Try.prog Try.f11 Rows.fnExactHashBlockRow.domain false) (Rows.fnExactHashBlockSpec.post enc Try.prog Try.f11 false true false false) := by
  refine returnsInHanded_of_change_sized (C := Try.checked) own started (by kernel_rfl) Try.func11
    (ChangeSpec.witness6 (enc := enc) (C := Try.checked) false ⟨#[], #[.agg #[.int .u64 0, .int .u64 0, .int .u64 0, .int .u64 0], .agg #[.int .u64 0, .int .u64 0, .int .u64 0, .int .u64 0]], []⟩ 8 (by kernel_rfl) (by kernel_rfl) (by kernel_rfl) (by kernel_rfl)) ?_
  intro W base args ds gs before hval0 hW hcnd hsz0 _
  have hval : ∀ (j : Nat) t v, Try.f11.params[j]? = some t → args[j]? = some v → Value.okWide Try.prog W .any base t v := hval0
  have hW' := hW
  obtain ⟨p, q, hA0, hV, rfl, hfz, hnd⟩ := hW
  have hA : DataW.TrodAll enc Try.prog W 0 (fun _ => true) true Try.f11.params.toList args.toList ds p := hA0
  rw [Try.params11] at hA hval
  obtain ⟨v0, vs0, d0, ds0, p0, q0, hargs, rfl, rfl, h0, r0⟩ := trodAll_cons hA
  obtain ⟨v1, vs1, d1, ds1, p1, q1, rfl, rfl, rfl, h1, r1⟩ := trodAll_cons r0
  obtain ⟨rfl, rfl, rfl⟩ := trodAll_nil r1
  obtain rfl : args = #[v0, v1] := by cases args; simp_all
  obtain ⟨rfl, rfl⟩ := trodVars_none hV
  have k0 := h0
  have lt0 : ∀ x ∈ p0, x.block < W.heap.size := by obtain ⟨m, hm⟩ := k0; exact DataW.trod_lt m _ _ _ hm
  obtain ⟨fuel0, hf0⟩ := h0
  obtain ⟨y0, K0, ok0⟩ := opens28 H enc W fuel0 _ _ hf0
  obtain ⟨cs0, rfl, hz0⟩ := okWide_struct Try.underlying28 (hval 0 28 v0 rfl rfl)
  have e0 := k28_open K0
  obtain rfl : cs0 = #[.int .u64 y0.f0, .int .u64 y0.f1, .int .u64 y0.f2, .int .u64 y0.f3] := by cases cs0; simpa [Value.cells] using e0
  have k1 := h1
  have lt1 : ∀ x ∈ p1, x.block < W.heap.size := by obtain ⟨m, hm⟩ := k1; exact DataW.trod_lt m _ _ _ hm
  obtain ⟨fuel1, hf1⟩ := h1
  obtain ⟨y1, K1, ok1⟩ := opens28 H enc W fuel1 _ _ hf1
  obtain ⟨cs1, rfl, hz1⟩ := okWide_struct Try.underlying28 (hval 1 28 v1 rfl rfl)
  have e1 := k28_open K1
  obtain rfl : cs1 = #[.int .u64 y1.f0, .int .u64 y1.f1, .int .u64 y1.f2, .int .u64 y1.f3] := by cases cs1; simpa [Value.cells] using e1
  clear hA0 hval0 hsz0
  obtain ⟨k, hp⟩ := Pure.FnExactHashBlock y0 y1 ok0 ok1
  refine (B.laws_FnExactHashBlock.calls k (y0.f0) (y0.f1) (y0.f2) (y0.f3) (y1.f0) (y1.f1) (y1.f2) (y1.f3) true W hp).mono fun e W' he => ?_
  obtain ⟨he, bel0⟩ := he
  have bel := bel0
  subst he
  exact ⟨_, rfl, _, _, _, [], _, [], hW', trodAll_mk1 (shut_bool Try.underlying4 _), (trodAll_cons_mk (Below.trod JFacts.laidOut (by kernel_rfl) (of_decide_eq_true (by kernel_rfl)) k0 bel lt0) (trodAll_cons_mk (Below.trod JFacts.laidOut (by kernel_rfl) (of_decide_eq_true (by kernel_rfl)) k1 bel lt1) trodAll_mk0)), rfl, bel.frame _, fun h => by cases h⟩
theorem j0 : Rows.fnExactHashBlockRow.wf (OpenSpec.ofChange Rows.fnExactHashBlockSpec) = true := by kernel_rfl
theorem j3 : Try.f11.params.all (fun x => Try.prog.readableRec x) = true := by kernel_rfl
theorem j4 : namedTie Try.prog Rows.fnExactHashBlockRow.named Rows.fnExactHashBlockSpec.vars = true := by kernel_rfl
theorem j5 : (Rows.fnExactHashBlockRow.stops == []) = true := by kernel_rfl
theorem j7 : (Rows.fnExactHashBlockRow.knobs == []) = true := by kernel_rfl
theorem j9 : (Rows.fnExactHashBlockRow.inPlace == Try.prog.inPlace 11) = true := by kernel_rfl
theorem j10 : (Rows.fnExactHashBlockRow.unfollowed == Try.prog.unfollowed 11) = true := by kernel_rfl
theorem j11 : (Rows.fnExactHashBlockRow.recurses == Try.prog.recurses 11) = true := by kernel_rfl
theorem j12 : (Rows.fnExactHashBlockRow.named == Try.prog.varsNamed 11) = true := by kernel_rfl
theorem j13 : (Rows.fnExactHashBlockRow.maps == (Try.f11.params.toList ++ Rows.fnExactHashBlockSpec.plain.varTypes Try.prog).any (fun x => Try.prog.mapsRec x)) = true := by kernel_rfl
theorem j14 : (Rows.fnExactHashBlockRow.ifaces == (Try.f11.params.toList ++ Rows.fnExactHashBlockSpec.plain.varTypes Try.prog).any (fun x => Try.prog.ifacesRec x)) = true := by kernel_rfl
theorem j15 : (Rows.fnExactHashBlockRow.mapsOut == Try.prog.mapsAmong Try.f11.resultTypes.toList) = true := by kernel_rfl
theorem j16 : (Rows.fnExactHashBlockRow.loops == (Try.f11.params.toList ++ Rows.fnExactHashBlockSpec.plain.varTypes Try.prog).any (fun x => Try.prog.loopsFrom x)) = true := by kernel_rfl
theorem j17 : (Rows.fnExactHashBlockRow.wideKeys == (Try.f11.params.toList ++ Rows.fnExactHashBlockSpec.plain.varTypes Try.prog ++ Try.f11.resultTypes.toList).any (fun x => Try.prog.wideKeysFrom x)) = true := by kernel_rfl
theorem j18 : Rows.fnExactHashBlockSpec.vars.all (fun x => Try.prog.varReadable x) = true := by kernel_rfl
theorem j19 : Try.f11.resultTypes.all (fun t => Try.prog.readableRec t && decide (t < Try.prog.types.size)) = true := by kernel_rfl
theorem j20 : (Rows.fnExactHashBlockRow.ifacesOut == Try.f11.resultTypes.toList.any (fun x => Try.prog.ifacesRec x)) = true := by kernel_rfl
theorem j21 : (Rows.fnExactHashBlockRow.loopsOut == Try.f11.resultTypes.toList.any (fun x => Try.prog.loopsFrom x)) = true := by kernel_rfl
theorem j22 : (Rows.fnExactHashBlockRow.plainKeys == Try.prog.plainKeys) = true := by kernel_rfl
theorem j23 : Rows.fnExactHashBlockRow.shortTexts.isNone = true := by kernel_rfl
theorem j26 : (Rows.fnExactHashBlockRow.lifted == Try.prog.liftsFinal) = true := by rw [JFacts.lifts]; rfl
theorem j27 : (Try.prog.make == some Rows.fnExactHashBlockRow.make) = true := by rw [JFacts.make]; rfl
theorem j28 : JFacts.kindsFact Try.prog Try.f11 Rows.fnExactHashBlockRow = true := by kernel_rfl
theorem j29 : (Rows.fnExactHashBlockRow.pinned == Rows.fnExactHashBlockRow.pinnedBy) = true := by kernel_rfl
theorem j30 : (Rows.fnExactHashBlockRow.veiled == (Try.f11.params.toList ++ Rows.fnExactHashBlockSpec.plain.varTypes Try.prog ++ Try.f11.resultTypes.toList).any (fun x => Try.prog.veiledRec x)) = true := by kernel_rfl
theorem j31 : Rows.fnExactHashBlockRow.veiledFits Try.prog Try.f11.params.toList (Try.f11.params.toList ++ Rows.fnExactHashBlockSpec.plain.varTypes Try.prog ++ Try.f11.resultTypes.toList) = true := by kernel_rfl
theorem closed : joinedFacts Try.prog 11 Try.f11 Rows.fnExactHashBlockSpec Rows.fnExactHashBlockRow = true := JFacts.joined_of j0 JFacts.laidOut JFacts.mapsRowed j3 j4 j5 JFacts.stops j7 JFacts.knobs j9 j10 j11 j12 j13 j14 j15 j16 j17 j18 j19 j20 j21 j22 j23 JFacts.heard JFacts.mayEnter j26 j27 j28 j29 j30 j31
theorem over : Rows.fnExactHashBlockRow.holds Try.pinned (OpenSpec.ofChange Rows.fnExactHashBlockSpec) :=
  OpenClaim.holds_of_wide 11 Try.f11 rfl rfl rfl rfl rfl rfl rfl ⟨rfl, rfl, rfl, rfl, rfl⟩ rfl rfl rfl rfl rfl (by kernel_rfl) Try.func11 closed
    (of_decide_eq_true (by kernel_rfl)) (by unfold Func.isWrapper; first | (rw [if_pos (by decide +kernel)]; kernel_rfl) | (rw [if_neg (by decide +kernel)]; exact ⟨rfl, rfl⟩))
    (fun os started H enc _ => lifted os started H enc)
theorem proved : Rows.FnExactHashBlockSaid := over
end Go.Proofs.Ytfbhlofifodkjaa.fnExactHashBlock
namespace Go.Proofs.Ytfbhlofifodkjaa
/-- The row, under a short name, for the claim. -/
theorem fnExactHashBlock_holds : Rows.FnExactHashBlockSaid := fnExactHashBlock.proved
#print axioms fnExactHashBlock_holds
end Go.Proofs.Ytfbhlofifodkjaa
