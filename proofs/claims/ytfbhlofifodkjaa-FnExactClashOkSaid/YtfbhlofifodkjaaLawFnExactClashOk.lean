/- The row of the law FnExactClashOk: what the law's Go function computes is true, for every input that the row lets in; the plain law behind it is YtfbhlofifodkjaaPureFnExactClashOk. No condition beyond the row's own. (Written by the session's program pp.py.) -/
import Derived.Test.YtfbhlofifodkjaaRows
import Derived.Test.YtfbhlofifodkjaaJFacts
import Derived.Test.YtfbhlofifodkjaaOpenK
import Derived.Test.YtfbhlofifodkjaaFLawsFnExactClashOk
import Derived.Test.YtfbhlofifodkjaaPureFnExactClashOk
import Derived.WalkKit
import Derived.ProofKit
import Derived.OpenShut
import Derived.ShutString
import Derived.ChangeOld
import Derived.Below
import Derived.SizedLaws
import Derived.JoinedOf
namespace Go.Proofs.Ytfbhlofifodkjaa.fnExactClashOk
open Go.ChangeShapes Go.WideShapes Go.ChangeAt Go.RowKit Go.Proofs.Ytfbhlofifodkjaa.Opening Go.Proofs.Ytfbhlofifodkjaa.B Go.Proofs.YtfbhlofifodkjaaW.PrintWords
set_option linter.unusedVariables false
theorem own : ownKnob Try.prog.godebug = none := by kernel_rfl
set_option maxRecDepth 100000 in
theorem lifted (os : Os) (started : os.Started) (H : Type) (enc : TypeId × Value → H) :
    ReturnsInHanded {} Try.checked os 16 .any (Rows.fnExactClashOkSpec.pre6 enc Try.prog Try.f16 Rows.fnExactClashOkRow.domain false) (Rows.fnExactClashOkSpec.post enc Try.prog Try.f16 false true false false) := by
  refine returnsInHanded_of_change_sized (C := Try.checked) own started (by kernel_rfl) Try.func16
    (ChangeSpec.witness6 (enc := enc) (C := Try.checked) false ⟨#[], #[.agg #[.string ByteArray.empty, .string ByteArray.empty]], []⟩ 8 (by kernel_rfl) (by kernel_rfl) (by kernel_rfl) (by kernel_rfl)) ?_
  intro W base args ds gs before hval0 hW hcnd hsz0 _
  have hval : ∀ (j : Nat) t v, Try.f16.params[j]? = some t → args[j]? = some v → Value.okWide Try.prog W .any base t v := hval0
  have hW' := hW
  obtain ⟨p, q, hA0, hV, rfl, hfz, hnd⟩ := hW
  have hA : DataW.TrodAll enc Try.prog W 0 (fun _ => true) true Try.f16.params.toList args.toList ds p := hA0
  rw [Try.params16] at hA hval
  obtain ⟨v0, vs0, d0, ds0, p0, q0, hargs, rfl, rfl, h0, r0⟩ := trodAll_cons hA
  obtain ⟨rfl, rfl, rfl⟩ := trodAll_nil r0
  obtain rfl : args = #[v0] := by cases args; simp_all
  obtain ⟨rfl, rfl⟩ := trodVars_none hV
  have k0 := h0
  have lt0 : ∀ x ∈ p0, x.block < W.heap.size := by obtain ⟨m, hm⟩ := k0; exact DataW.trod_lt m _ _ _ hm
  obtain ⟨fuel0, hf0⟩ := h0
  obtain ⟨y0, K0, ok0⟩ := opens52 H enc W fuel0 _ _ hf0
  obtain ⟨cs0, rfl, hz0⟩ := okWide_struct Try.underlying52 (hval 0 52 v0 rfl rfl)
  have e0 := k52_open K0
  obtain rfl : cs0 = #[.string y0.f0, .string y0.f1] := by cases cs0; simpa [Value.cells] using e0
  clear hA0 hval0 hsz0
  obtain ⟨k, hp⟩ := Pure.FnExactClashOk y0 ok0
  refine (B.laws_FnExactClashOk.calls k (y0.f0) (y0.f1) true W hp).mono fun e W' he => ?_
  obtain ⟨he, bel0⟩ := he
  have bel := bel0
  subst he
  exact ⟨_, rfl, _, _, _, [], _, [], hW', trodAll_mk1 (shut_bool Try.underlying4 _), (trodAll_cons_mk (Below.trod JFacts.laidOut (by kernel_rfl) (of_decide_eq_true (by kernel_rfl)) k0 bel lt0) trodAll_mk0), rfl, bel.frame _, fun h => by cases h⟩
theorem j0 : Rows.fnExactClashOkRow.wf (OpenSpec.ofChange Rows.fnExactClashOkSpec) = true := by kernel_rfl
theorem j3 : Try.f16.params.all (fun x => Try.prog.readableRec x) = true := by kernel_rfl
theorem j4 : namedTie Try.prog Rows.fnExactClashOkRow.named Rows.fnExactClashOkSpec.vars = true := by kernel_rfl
theorem j5 : (Rows.fnExactClashOkRow.stops == []) = true := by kernel_rfl
theorem j7 : (Rows.fnExactClashOkRow.knobs == []) = true := by kernel_rfl
theorem j9 : (Rows.fnExactClashOkRow.inPlace == Try.prog.inPlace 16) = true := by kernel_rfl
theorem j10 : (Rows.fnExactClashOkRow.unfollowed == Try.prog.unfollowed 16) = true := by kernel_rfl
theorem j11 : (Rows.fnExactClashOkRow.recurses == Try.prog.recurses 16) = true := by kernel_rfl
theorem j12 : (Rows.fnExactClashOkRow.named == Try.prog.varsNamed 16) = true := by kernel_rfl
theorem j13 : (Rows.fnExactClashOkRow.maps == (Try.f16.params.toList ++ Rows.fnExactClashOkSpec.plain.varTypes Try.prog).any (fun x => Try.prog.mapsRec x)) = true := by kernel_rfl
theorem j14 : (Rows.fnExactClashOkRow.ifaces == (Try.f16.params.toList ++ Rows.fnExactClashOkSpec.plain.varTypes Try.prog).any (fun x => Try.prog.ifacesRec x)) = true := by kernel_rfl
theorem j15 : (Rows.fnExactClashOkRow.mapsOut == Try.prog.mapsAmong Try.f16.resultTypes.toList) = true := by kernel_rfl
theorem j16 : (Rows.fnExactClashOkRow.loops == (Try.f16.params.toList ++ Rows.fnExactClashOkSpec.plain.varTypes Try.prog).any (fun x => Try.prog.loopsFrom x)) = true := by kernel_rfl
theorem j17 : (Rows.fnExactClashOkRow.wideKeys == (Try.f16.params.toList ++ Rows.fnExactClashOkSpec.plain.varTypes Try.prog ++ Try.f16.resultTypes.toList).any (fun x => Try.prog.wideKeysFrom x)) = true := by kernel_rfl
theorem j18 : Rows.fnExactClashOkSpec.vars.all (fun x => Try.prog.varReadable x) = true := by kernel_rfl
theorem j19 : Try.f16.resultTypes.all (fun t => Try.prog.readableRec t && decide (t < Try.prog.types.size)) = true := by kernel_rfl
theorem j20 : (Rows.fnExactClashOkRow.ifacesOut == Try.f16.resultTypes.toList.any (fun x => Try.prog.ifacesRec x)) = true := by kernel_rfl
theorem j21 : (Rows.fnExactClashOkRow.loopsOut == Try.f16.resultTypes.toList.any (fun x => Try.prog.loopsFrom x)) = true := by kernel_rfl
theorem j22 : (Rows.fnExactClashOkRow.plainKeys == Try.prog.plainKeys) = true := by kernel_rfl
theorem j23 : Rows.fnExactClashOkRow.shortTexts.isNone = true := by kernel_rfl
theorem j26 : (Rows.fnExactClashOkRow.lifted == Try.prog.liftsFinal) = true := by rw [JFacts.lifts]; rfl
theorem j27 : (Try.prog.make == some Rows.fnExactClashOkRow.make) = true := by rw [JFacts.make]; rfl
theorem j28 : JFacts.kindsFact Try.prog Try.f16 Rows.fnExactClashOkRow = true := by kernel_rfl
theorem j29 : (Rows.fnExactClashOkRow.pinned == Rows.fnExactClashOkRow.pinnedBy) = true := by kernel_rfl
theorem j30 : (Rows.fnExactClashOkRow.veiled == (Try.f16.params.toList ++ Rows.fnExactClashOkSpec.plain.varTypes Try.prog ++ Try.f16.resultTypes.toList).any (fun x => Try.prog.veiledRec x)) = true := by kernel_rfl
theorem j31 : Rows.fnExactClashOkRow.veiledFits Try.prog Try.f16.params.toList (Try.f16.params.toList ++ Rows.fnExactClashOkSpec.plain.varTypes Try.prog ++ Try.f16.resultTypes.toList) = true := by kernel_rfl
theorem closed : joinedFacts Try.prog 16 Try.f16 Rows.fnExactClashOkSpec Rows.fnExactClashOkRow = true := JFacts.joined_of j0 JFacts.laidOut JFacts.mapsRowed j3 j4 j5 JFacts.stops j7 JFacts.knobs j9 j10 j11 j12 j13 j14 j15 j16 j17 j18 j19 j20 j21 j22 j23 JFacts.heard JFacts.mayEnter j26 j27 j28 j29 j30 j31
theorem over : Rows.fnExactClashOkRow.holds Try.pinned (OpenSpec.ofChange Rows.fnExactClashOkSpec) :=
  OpenClaim.holds_of_wide 16 Try.f16 rfl rfl rfl rfl rfl rfl rfl ⟨rfl, rfl, rfl, rfl, rfl⟩ rfl rfl rfl rfl rfl (by kernel_rfl) Try.func16 closed
    (of_decide_eq_true (by kernel_rfl)) (by unfold Func.isWrapper; first | (rw [if_pos (by decide +kernel)]; kernel_rfl) | (rw [if_neg (by decide +kernel)]; exact ⟨rfl, rfl⟩))
    (fun os started H enc _ => lifted os started H enc)
theorem proved : Rows.FnExactClashOkSaid := over
end Go.Proofs.Ytfbhlofifodkjaa.fnExactClashOk
namespace Go.Proofs.Ytfbhlofifodkjaa
/-- The row, under a short name, for the claim. -/
theorem fnExactClashOk_holds : Rows.FnExactClashOkSaid := fnExactClashOk.proved
#print axioms fnExactClashOk_holds
end Go.Proofs.Ytfbhlofifodkjaa
