/- The row of the law FnExactWireName: what the law's Go function computes is true, for every input that the row lets in; the plain law behind it is YtfbhlofifodkjaaPureFnExactWireName. No condition beyond the row's own. (Written by the session's program pp.py.) -/
import Derived.Test.YtfbhlofifodkjaaRows
import Derived.Test.YtfbhlofifodkjaaJFacts
import Derived.Test.YtfbhlofifodkjaaOpenK
import Derived.Test.YtfbhlofifodkjaaFLawsFnExactWireName
import Derived.Test.YtfbhlofifodkjaaPureFnExactWireName
import Derived.WalkKit
import Derived.ProofKit
import Derived.OpenShut
import Derived.ShutString
import Derived.ChangeOld
import Derived.Below
import Derived.SizedLaws
import Derived.JoinedOf
namespace Go.Proofs.Ytfbhlofifodkjaa.fnExactWireName
open Go.ChangeShapes Go.WideShapes Go.ChangeAt Go.RowKit Go.Proofs.Ytfbhlofifodkjaa.Opening Go.Proofs.Ytfbhlofifodkjaa.B Go.Proofs.YtfbhlofifodkjaaW.PrintWords
set_option linter.unusedVariables false
theorem own : ownKnob Try.prog.godebug = none := by kernel_rfl
set_option maxRecDepth 100000 in
theorem lifted (os : Os) (started : os.Started) (H : Type) (enc : TypeId × Value → H) :
    ReturnsInHanded {} Try.checked os 5 .any (Rows.fnExactWireNameSpec.pre6 enc Try.prog Try.f5 Rows.fnExactWireNameRow.domain false) (Rows.fnExactWireNameSpec.post enc Try.prog Try.f5 false true false false) := by
  refine returnsInHanded_of_change_sized (C := Try.checked) own started (by kernel_rfl) Try.func5
    (ChangeSpec.witness6 (enc := enc) (C := Try.checked) false ⟨#[], #[.int .i64 0], []⟩ 8 (by kernel_rfl) (by kernel_rfl) (by kernel_rfl) (by kernel_rfl)) ?_
  intro W base args ds gs before hval0 hW hcnd hsz0 _
  have hval : ∀ (j : Nat) t v, Try.f5.params[j]? = some t → args[j]? = some v → Value.okWide Try.prog W .any base t v := hval0
  have hW' := hW
  obtain ⟨p, q, hA0, hV, rfl, hfz, hnd⟩ := hW
  have hA : DataW.TrodAll enc Try.prog W 0 (fun _ => true) true Try.f5.params.toList args.toList ds p := hA0
  rw [Try.params5] at hA hval
  obtain ⟨v0, vs0, d0, ds0, p0, q0, hargs, rfl, rfl, h0, r0⟩ := trodAll_cons hA
  obtain ⟨rfl, rfl, rfl⟩ := trodAll_nil r0
  obtain rfl : args = #[v0] := by cases args; simp_all
  obtain ⟨rfl, rfl⟩ := trodVars_none hV
  have k0 := h0
  have lt0 : ∀ x ∈ p0, x.block < W.heap.size := by obtain ⟨m, hm⟩ := k0; exact DataW.trod_lt m _ _ _ hm
  obtain ⟨fuel0, hf0⟩ := h0
  obtain ⟨y0, K0, ok0⟩ := (opens_int Try.underlying3) H enc W fuel0 _ _ hf0
  obtain ⟨q0, rfl⟩ := okWide_int Try.underlying3 (hval 0 3 v0 rfl rfl)
  have e0 := K0
  obtain rfl : q0 = y0 := by first | simpa [Value.cells, Kd.int, Kd.bool, Kd.string, Kd.scalar] using e0 | (simp [Value.cells, Kd.int, Kd.bool, Kd.string, Kd.scalar] at e0; exact e0)
  clear hA0 hval0 hsz0
  have hp := Pure.FnExactWireName q0 ok0
  refine (B.laws_FnExactWireName.calls q0 true W hp).mono fun e W' he => ?_
  obtain ⟨he, bel0⟩ := he
  have bel := bel0
  subst he
  exact ⟨_, rfl, _, _, _, [], _, [], hW', trodAll_mk1 (shut_bool Try.underlying4 _), (trodAll_cons_mk (Below.trod JFacts.laidOut (by kernel_rfl) (of_decide_eq_true (by kernel_rfl)) k0 bel lt0) trodAll_mk0), rfl, bel.frame _, fun h => by cases h⟩
theorem j0 : Rows.fnExactWireNameRow.wf (OpenSpec.ofChange Rows.fnExactWireNameSpec) = true := by kernel_rfl
theorem j3 : Try.f5.params.all (fun x => Try.prog.readableRec x) = true := by kernel_rfl
theorem j4 : namedTie Try.prog Rows.fnExactWireNameRow.named Rows.fnExactWireNameSpec.vars = true := by kernel_rfl
theorem j5 : (Rows.fnExactWireNameRow.stops == []) = true := by kernel_rfl
theorem j7 : (Rows.fnExactWireNameRow.knobs == []) = true := by kernel_rfl
theorem j9 : (Rows.fnExactWireNameRow.inPlace == Try.prog.inPlace 5) = true := by kernel_rfl
theorem j10 : (Rows.fnExactWireNameRow.unfollowed == Try.prog.unfollowed 5) = true := by kernel_rfl
theorem j11 : (Rows.fnExactWireNameRow.recurses == Try.prog.recurses 5) = true := by kernel_rfl
theorem j12 : (Rows.fnExactWireNameRow.named == Try.prog.varsNamed 5) = true := by kernel_rfl
theorem j13 : (Rows.fnExactWireNameRow.maps == (Try.f5.params.toList ++ Rows.fnExactWireNameSpec.plain.varTypes Try.prog).any (fun x => Try.prog.mapsRec x)) = true := by kernel_rfl
theorem j14 : (Rows.fnExactWireNameRow.ifaces == (Try.f5.params.toList ++ Rows.fnExactWireNameSpec.plain.varTypes Try.prog).any (fun x => Try.prog.ifacesRec x)) = true := by kernel_rfl
theorem j15 : (Rows.fnExactWireNameRow.mapsOut == Try.prog.mapsAmong Try.f5.resultTypes.toList) = true := by kernel_rfl
theorem j16 : (Rows.fnExactWireNameRow.loops == (Try.f5.params.toList ++ Rows.fnExactWireNameSpec.plain.varTypes Try.prog).any (fun x => Try.prog.loopsFrom x)) = true := by kernel_rfl
theorem j17 : (Rows.fnExactWireNameRow.wideKeys == (Try.f5.params.toList ++ Rows.fnExactWireNameSpec.plain.varTypes Try.prog ++ Try.f5.resultTypes.toList).any (fun x => Try.prog.wideKeysFrom x)) = true := by kernel_rfl
theorem j18 : Rows.fnExactWireNameSpec.vars.all (fun x => Try.prog.varReadable x) = true := by kernel_rfl
theorem j19 : Try.f5.resultTypes.all (fun t => Try.prog.readableRec t && decide (t < Try.prog.types.size)) = true := by kernel_rfl
theorem j20 : (Rows.fnExactWireNameRow.ifacesOut == Try.f5.resultTypes.toList.any (fun x => Try.prog.ifacesRec x)) = true := by kernel_rfl
theorem j21 : (Rows.fnExactWireNameRow.loopsOut == Try.f5.resultTypes.toList.any (fun x => Try.prog.loopsFrom x)) = true := by kernel_rfl
theorem j22 : (Rows.fnExactWireNameRow.plainKeys == Try.prog.plainKeys) = true := by kernel_rfl
theorem j23 : Rows.fnExactWireNameRow.shortTexts.isNone = true := by kernel_rfl
theorem j26 : (Rows.fnExactWireNameRow.lifted == Try.prog.liftsFinal) = true := by rw [JFacts.lifts]; rfl
theorem j27 : (Try.prog.make == some Rows.fnExactWireNameRow.make) = true := by rw [JFacts.make]; rfl
theorem j28 : JFacts.kindsFact Try.prog Try.f5 Rows.fnExactWireNameRow = true := by kernel_rfl
theorem j29 : (Rows.fnExactWireNameRow.pinned == Rows.fnExactWireNameRow.pinnedBy) = true := by kernel_rfl
theorem j30 : (Rows.fnExactWireNameRow.veiled == (Try.f5.params.toList ++ Rows.fnExactWireNameSpec.plain.varTypes Try.prog ++ Try.f5.resultTypes.toList).any (fun x => Try.prog.veiledRec x)) = true := by kernel_rfl
theorem j31 : Rows.fnExactWireNameRow.veiledFits Try.prog Try.f5.params.toList (Try.f5.params.toList ++ Rows.fnExactWireNameSpec.plain.varTypes Try.prog ++ Try.f5.resultTypes.toList) = true := by kernel_rfl
theorem closed : joinedFacts Try.prog 5 Try.f5 Rows.fnExactWireNameSpec Rows.fnExactWireNameRow = true := JFacts.joined_of j0 JFacts.laidOut JFacts.mapsRowed j3 j4 j5 JFacts.stops j7 JFacts.knobs j9 j10 j11 j12 j13 j14 j15 j16 j17 j18 j19 j20 j21 j22 j23 JFacts.heard JFacts.mayEnter j26 j27 j28 j29 j30 j31
theorem over : Rows.fnExactWireNameRow.holds Try.pinned (OpenSpec.ofChange Rows.fnExactWireNameSpec) :=
  OpenClaim.holds_of_wide 5 Try.f5 rfl rfl rfl rfl rfl rfl rfl ⟨rfl, rfl, rfl, rfl, rfl⟩ rfl rfl rfl rfl rfl (by kernel_rfl) Try.func5 closed
    (of_decide_eq_true (by kernel_rfl)) (by unfold Func.isWrapper; first | (rw [if_pos (by decide +kernel)]; kernel_rfl) | (rw [if_neg (by decide +kernel)]; exact ⟨rfl, rfl⟩))
    (fun os started H enc _ => lifted os started H enc)
theorem proved : Rows.FnExactWireNameSaid := over
end Go.Proofs.Ytfbhlofifodkjaa.fnExactWireName
namespace Go.Proofs.Ytfbhlofifodkjaa
/-- The row, under a short name, for the claim. -/
theorem fnExactWireName_holds : Rows.FnExactWireNameSaid := fnExactWireName.proved
#print axioms fnExactWireName_holds
end Go.Proofs.Ytfbhlofifodkjaa
