/- The row of the law FnExactHashText: what the law's Go function computes is true, for every input that the row lets in; the plain law behind it is YtflcbanemolkfaaPureFnExactHashText. No condition beyond the row's own. (Written by the session's program pp.py.) -/
import Derived.Test.YtflcbanemolkfaaRows
import Derived.WalkKit
import Derived.ProofKit
import Derived.OpenShut
import Derived.ShutString
import Derived.ChangeOld
import Derived.Below
import Derived.SizedLaws
import Derived.JoinedOf
import Derived.Test.YtflcbanemolkfaaZHTJFacts
import Derived.Test.YtflcbanemolkfaaZHTOpenK
import Derived.Test.YtflcbanemolkfaaZHTFLawsFnExactHashText
import Derived.Test.YtflcbanemolkfaaZHTPureFnExactHashText
namespace Go.Proofs.Ytflcbanemolkfaa.fnExactHashText
open Go.ChangeShapes Go.WideShapes Go.ChangeAt Go.RowKit Go.Proofs.Ytflcbanemolkfaa.Opening Go.Proofs.Ytflcbanemolkfaa.B Go.Proofs.YtflcbanemolkfaaW.PrintWords
set_option linter.unusedVariables false
theorem own : ownKnob Try.prog.godebug = none := by kernel_rfl
set_option maxRecDepth 100000 in
theorem lifted (os : Os) (started : os.Started) (H : Type) (enc : TypeId × Value → H) :
    ReturnsInHanded {} Try.checked os 3 .any (Rows.fnExactHashTextSpec.pre6 enc Try.prog Try.f3 Rows.fnExactHashTextRow.domain false) (Rows.fnExactHashTextSpec.post enc Try.prog Try.f3 false true false false) := by
  refine returnsInHanded_of_change_sized (C := Try.checked) own started (by kernel_rfl) Try.func3
    (ChangeSpec.witness6 (enc := enc) (C := Try.checked) false ⟨#[], #[.agg #[.int .u64 0, .int .u64 0, .int .u64 0, .int .u64 0]], []⟩ 8 (by kernel_rfl) (by kernel_rfl) (by kernel_rfl) (by kernel_rfl)) ?_
  intro W base args ds gs before hval0 hW hcnd hsz0 _
  have hval : ∀ (j : Nat) t v, Try.f3.params[j]? = some t → args[j]? = some v → Value.okWide Try.prog W .any base t v := hval0
  have hW' := hW
  obtain ⟨p, q, hA0, hV, rfl, hfz, hnd⟩ := hW
  have hA : DataW.TrodAll enc Try.prog W 0 (fun _ => true) true Try.f3.params.toList args.toList ds p := hA0
  rw [Try.params3] at hA hval
  obtain ⟨v0, vs0, d0, ds0, p0, q0, hargs, rfl, rfl, h0, r0⟩ := trodAll_cons hA
  obtain ⟨rfl, rfl, rfl⟩ := trodAll_nil r0
  obtain rfl : args = #[v0] := by cases args; simp_all
  obtain ⟨rfl, rfl⟩ := trodVars_none hV
  have k0 := h0
  have lt0 : ∀ x ∈ p0, x.block < W.heap.size := by obtain ⟨m, hm⟩ := k0; exact DataW.trod_lt m _ _ _ hm
  obtain ⟨fuel0, hf0⟩ := h0
  obtain ⟨y0, K0, ok0⟩ := opens24 H enc W fuel0 _ _ hf0
  obtain ⟨cs0, rfl, hz0⟩ := okWide_struct Try.underlying24 (hval 0 24 v0 rfl rfl)
  have e0 := k24_open K0
  obtain rfl : cs0 = #[.int .u64 y0.f0, .int .u64 y0.f1, .int .u64 y0.f2, .int .u64 y0.f3] := by cases cs0; simpa [Value.cells] using e0
  clear hA0 hval0 hsz0
  obtain ⟨k, hp⟩ := Pure.FnExactHashText y0 ok0
  refine (B.laws_FnExactHashText.calls k (y0.f0) (y0.f1) (y0.f2) (y0.f3) true rfl W hp).mono fun e W' he => ?_
  obtain ⟨he, bel0⟩ := he
  have bel := bel0
  subst he
  exact ⟨_, rfl, _, _, _, [], _, [], hW', trodAll_mk1 (shut_bool Try.underlying4 _), (trodAll_cons_mk (Below.trod JFacts.laidOut (by kernel_rfl) (of_decide_eq_true (by kernel_rfl)) k0 bel lt0) trodAll_mk0), rfl, bel.frame _, fun h => by cases h⟩
theorem j0 : Rows.fnExactHashTextRow.wf (OpenSpec.ofChange Rows.fnExactHashTextSpec) = true := by kernel_rfl
theorem j3 : Try.f3.params.all (fun x => Try.prog.readableRec x) = true := by kernel_rfl
theorem j4 : namedTie Try.prog Rows.fnExactHashTextRow.named Rows.fnExactHashTextSpec.vars = true := by kernel_rfl
theorem j5 : (Rows.fnExactHashTextRow.stops == []) = true := by kernel_rfl
theorem j7 : (Rows.fnExactHashTextRow.knobs == []) = true := by kernel_rfl
theorem j9 : (Rows.fnExactHashTextRow.inPlace == Try.prog.inPlace 3) = true := by kernel_rfl
theorem j10 : (Rows.fnExactHashTextRow.unfollowed == Try.prog.unfollowed 3) = true := by kernel_rfl
theorem j11 : (Rows.fnExactHashTextRow.recurses == Try.prog.recurses 3) = true := by kernel_rfl
theorem j12 : (Rows.fnExactHashTextRow.named == Try.prog.varsNamed 3) = true := by kernel_rfl
theorem j13 : (Rows.fnExactHashTextRow.maps == (Try.f3.params.toList ++ Rows.fnExactHashTextSpec.plain.varTypes Try.prog).any (fun x => Try.prog.mapsRec x)) = true := by kernel_rfl
theorem j14 : (Rows.fnExactHashTextRow.ifaces == (Try.f3.params.toList ++ Rows.fnExactHashTextSpec.plain.varTypes Try.prog).any (fun x => Try.prog.ifacesRec x)) = true := by kernel_rfl
theorem j15 : (Rows.fnExactHashTextRow.mapsOut == Try.prog.mapsAmong Try.f3.resultTypes.toList) = true := by kernel_rfl
theorem j16 : (Rows.fnExactHashTextRow.loops == (Try.f3.params.toList ++ Rows.fnExactHashTextSpec.plain.varTypes Try.prog).any (fun x => Try.prog.loopsFrom x)) = true := by kernel_rfl
theorem j17 : (Rows.fnExactHashTextRow.wideKeys == (Try.f3.params.toList ++ Rows.fnExactHashTextSpec.plain.varTypes Try.prog ++ Try.f3.resultTypes.toList).any (fun x => Try.prog.wideKeysFrom x)) = true := by kernel_rfl
theorem j18 : Rows.fnExactHashTextSpec.vars.all (fun x => Try.prog.varReadable x) = true := by kernel_rfl
theorem j19 : Try.f3.resultTypes.all (fun t => Try.prog.readableRec t && decide (t < Try.prog.types.size)) = true := by kernel_rfl
theorem j20 : (Rows.fnExactHashTextRow.ifacesOut == Try.f3.resultTypes.toList.any (fun x => Try.prog.ifacesRec x)) = true := by kernel_rfl
theorem j21 : (Rows.fnExactHashTextRow.loopsOut == Try.f3.resultTypes.toList.any (fun x => Try.prog.loopsFrom x)) = true := by kernel_rfl
theorem j22 : (Rows.fnExactHashTextRow.plainKeys == Try.prog.plainKeys) = true := by kernel_rfl
theorem j23 : Rows.fnExactHashTextRow.shortTexts.isNone = true := by kernel_rfl
theorem j26 : (Rows.fnExactHashTextRow.lifted == Try.prog.liftsFinal) = true := by rw [JFacts.lifts]; rfl
theorem j27 : (Try.prog.make == some Rows.fnExactHashTextRow.make) = true := by rw [JFacts.make]; rfl
theorem j28 : JFacts.kindsFact Try.prog Try.f3 Rows.fnExactHashTextRow = true := by kernel_rfl
theorem j29 : (Rows.fnExactHashTextRow.pinned == Rows.fnExactHashTextRow.pinnedBy) = true := by kernel_rfl
theorem j30 : (Rows.fnExactHashTextRow.veiled == (Try.f3.params.toList ++ Rows.fnExactHashTextSpec.plain.varTypes Try.prog ++ Try.f3.resultTypes.toList).any (fun x => Try.prog.veiledRec x)) = true := by kernel_rfl
theorem j31 : Rows.fnExactHashTextRow.veiledFits Try.prog Try.f3.params.toList (Try.f3.params.toList ++ Rows.fnExactHashTextSpec.plain.varTypes Try.prog ++ Try.f3.resultTypes.toList) = true := by kernel_rfl
theorem closed : joinedFacts Try.prog 3 Try.f3 Rows.fnExactHashTextSpec Rows.fnExactHashTextRow = true := JFacts.joined_of j0 JFacts.laidOut JFacts.mapsRowed j3 j4 j5 JFacts.stops j7 JFacts.knobs j9 j10 j11 j12 j13 j14 j15 j16 j17 j18 j19 j20 j21 j22 j23 JFacts.heard JFacts.mayEnter j26 j27 j28 j29 j30 j31
theorem over : Rows.fnExactHashTextRow.holds Try.pinned (OpenSpec.ofChange Rows.fnExactHashTextSpec) :=
  OpenClaim.holds_of_wide 3 Try.f3 rfl rfl rfl rfl rfl rfl rfl ⟨rfl, rfl, rfl, rfl, rfl⟩ rfl rfl rfl rfl rfl (by kernel_rfl) Try.func3 closed
    (of_decide_eq_true (by kernel_rfl)) (by unfold Func.isWrapper; first | (rw [if_pos (by decide +kernel)]; kernel_rfl) | (rw [if_neg (by decide +kernel)]; exact ⟨rfl, rfl⟩))
    (fun os started H enc _ => lifted os started H enc)
theorem proved : Rows.FnExactHashTextSaid := over
end Go.Proofs.Ytflcbanemolkfaa.fnExactHashText
namespace Go.Proofs.Ytflcbanemolkfaa
theorem fnExactHashText_holds : Rows.FnExactHashTextSaid := fnExactHashText.proved
#print axioms fnExactHashText_holds
end Go.Proofs.Ytflcbanemolkfaa
