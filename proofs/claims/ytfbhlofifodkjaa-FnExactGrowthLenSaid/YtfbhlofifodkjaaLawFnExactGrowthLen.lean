/- The row of the law FnExactGrowthLen: what the law's Go function computes is true, for every input that the row lets in; the plain law behind it is YtfbhlofifodkjaaPureFnExactGrowthLen. No condition beyond the row's own. (Written by the session's program pp.py.) -/
import Derived.Test.YtfbhlofifodkjaaRows
import Derived.Test.YtfbhlofifodkjaaJFacts
import Derived.Test.YtfbhlofifodkjaaOpenK
import Derived.Test.YtfbhlofifodkjaaFLawsFnExactGrowthLen
import Derived.Test.YtfbhlofifodkjaaPureFnExactGrowthLen
import Derived.WalkKit
import Derived.ProofKit
import Derived.OpenShut
import Derived.ShutString
import Derived.ChangeOld
import Derived.Below
import Derived.SizedLaws
import Derived.JoinedOf
namespace Go.Proofs.Ytfbhlofifodkjaa.fnExactGrowthLen
open Go.ChangeShapes Go.WideShapes Go.ChangeAt Go.RowKit Go.Proofs.Ytfbhlofifodkjaa.Opening Go.Proofs.Ytfbhlofifodkjaa.B Go.Proofs.YtfbhlofifodkjaaW.PrintWords
set_option linter.unusedVariables false
theorem own : ownKnob Try.prog.godebug = none := by kernel_rfl
set_option maxRecDepth 100000 in
theorem lifted (os : Os) (started : os.Started) (H : Type) (enc : TypeId × Value → H) :
    ReturnsInHanded {} Try.checked os 14 .any (Rows.fnExactGrowthLenSpec.pre6 enc Try.prog Try.f14 Rows.fnExactGrowthLenRow.domain false) (Rows.fnExactGrowthLenSpec.post enc Try.prog Try.f14 false true false false) := by
  refine returnsInHanded_of_change_sized (C := Try.checked) own started (by kernel_rfl) Try.func14
    (ChangeSpec.witness6 (enc := enc) (C := Try.checked) false ⟨#[], #[.int .i64 0, .int .i64 0], []⟩ 8 (by kernel_rfl) (by kernel_rfl) (by kernel_rfl) (by kernel_rfl)) ?_
  intro W base args ds gs before hval0 hW hcnd hsz0 _
  have hval : ∀ (j : Nat) t v, Try.f14.params[j]? = some t → args[j]? = some v → Value.okWide Try.prog W .any base t v := hval0
  have hW' := hW
  obtain ⟨p, q, hA0, hV, rfl, hfz, hnd⟩ := hW
  have hA : DataW.TrodAll enc Try.prog W 0 (fun _ => true) true Try.f14.params.toList args.toList ds p := hA0
  rw [Try.params14] at hA hval
  obtain ⟨v0, vs0, d0, ds0, p0, q0, hargs, rfl, rfl, h0, r0⟩ := trodAll_cons hA
  obtain ⟨v1, vs1, d1, ds1, p1, q1, rfl, rfl, rfl, h1, r1⟩ := trodAll_cons r0
  obtain ⟨rfl, rfl, rfl⟩ := trodAll_nil r1
  obtain rfl : args = #[v0, v1] := by cases args; simp_all
  obtain ⟨rfl, rfl⟩ := trodVars_none hV
  have k0 := h0
  have lt0 : ∀ x ∈ p0, x.block < W.heap.size := by obtain ⟨m, hm⟩ := k0; exact DataW.trod_lt m _ _ _ hm
  obtain ⟨fuel0, hf0⟩ := h0
  obtain ⟨y0, K0, ok0⟩ := (opens_int Try.underlying3) H enc W fuel0 _ _ hf0
  obtain ⟨q0, rfl⟩ := okWide_int Try.underlying3 (hval 0 3 v0 rfl rfl)
  have e0 := K0
  obtain rfl : q0 = y0 := by first | simpa [Value.cells, Kd.int, Kd.bool, Kd.string, Kd.scalar] using e0 | (simp [Value.cells, Kd.int, Kd.bool, Kd.string, Kd.scalar] at e0; exact e0)
  have k1 := h1
  have lt1 : ∀ x ∈ p1, x.block < W.heap.size := by obtain ⟨m, hm⟩ := k1; exact DataW.trod_lt m _ _ _ hm
  obtain ⟨fuel1, hf1⟩ := h1
  obtain ⟨y1, K1, ok1⟩ := (opens_int Try.underlying3) H enc W fuel1 _ _ hf1
  obtain ⟨q1, rfl⟩ := okWide_int Try.underlying3 (hval 1 3 v1 rfl rfl)
  have e1 := K1
  obtain rfl : q1 = y1 := by first | simpa [Value.cells, Kd.int, Kd.bool, Kd.string, Kd.scalar] using e1 | (simp [Value.cells, Kd.int, Kd.bool, Kd.string, Kd.scalar] at e1; exact e1)
  clear hA0 hval0 hsz0
  obtain ⟨k, hp⟩ := Pure.FnExactGrowthLen q0 q1 ok0 ok1
  refine (B.laws_FnExactGrowthLen.calls k q0 q1 true W hp).mono fun e W' he => ?_
  obtain ⟨he, bel0⟩ := he
  have bel := bel0
  subst he
  exact ⟨_, rfl, _, _, _, [], _, [], hW', trodAll_mk1 (shut_bool Try.underlying4 _), (trodAll_cons_mk (Below.trod JFacts.laidOut (by kernel_rfl) (of_decide_eq_true (by kernel_rfl)) k0 bel lt0) (trodAll_cons_mk (Below.trod JFacts.laidOut (by kernel_rfl) (of_decide_eq_true (by kernel_rfl)) k1 bel lt1) trodAll_mk0)), rfl, bel.frame _, fun h => by cases h⟩
theorem j0 : Rows.fnExactGrowthLenRow.wf (OpenSpec.ofChange Rows.fnExactGrowthLenSpec) = true := by kernel_rfl
theorem j3 : Try.f14.params.all (fun x => Try.prog.readableRec x) = true := by kernel_rfl
theorem j4 : namedTie Try.prog Rows.fnExactGrowthLenRow.named Rows.fnExactGrowthLenSpec.vars = true := by kernel_rfl
theorem j5 : (Rows.fnExactGrowthLenRow.stops == []) = true := by kernel_rfl
theorem j7 : (Rows.fnExactGrowthLenRow.knobs == []) = true := by kernel_rfl
theorem j9 : (Rows.fnExactGrowthLenRow.inPlace == Try.prog.inPlace 14) = true := by kernel_rfl
theorem j10 : (Rows.fnExactGrowthLenRow.unfollowed == Try.prog.unfollowed 14) = true := by kernel_rfl
theorem j11 : (Rows.fnExactGrowthLenRow.recurses == Try.prog.recurses 14) = true := by kernel_rfl
theorem j12 : (Rows.fnExactGrowthLenRow.named == Try.prog.varsNamed 14) = true := by kernel_rfl
theorem j13 : (Rows.fnExactGrowthLenRow.maps == (Try.f14.params.toList ++ Rows.fnExactGrowthLenSpec.plain.varTypes Try.prog).any (fun x => Try.prog.mapsRec x)) = true := by kernel_rfl
theorem j14 : (Rows.fnExactGrowthLenRow.ifaces == (Try.f14.params.toList ++ Rows.fnExactGrowthLenSpec.plain.varTypes Try.prog).any (fun x => Try.prog.ifacesRec x)) = true := by kernel_rfl
theorem j15 : (Rows.fnExactGrowthLenRow.mapsOut == Try.prog.mapsAmong Try.f14.resultTypes.toList) = true := by kernel_rfl
theorem j16 : (Rows.fnExactGrowthLenRow.loops == (Try.f14.params.toList ++ Rows.fnExactGrowthLenSpec.plain.varTypes Try.prog).any (fun x => Try.prog.loopsFrom x)) = true := by kernel_rfl
theorem j17 : (Rows.fnExactGrowthLenRow.wideKeys == (Try.f14.params.toList ++ Rows.fnExactGrowthLenSpec.plain.varTypes Try.prog ++ Try.f14.resultTypes.toList).any (fun x => Try.prog.wideKeysFrom x)) = true := by kernel_rfl
theorem j18 : Rows.fnExactGrowthLenSpec.vars.all (fun x => Try.prog.varReadable x) = true := by kernel_rfl
theorem j19 : Try.f14.resultTypes.all (fun t => Try.prog.readableRec t && decide (t < Try.prog.types.size)) = true := by kernel_rfl
theorem j20 : (Rows.fnExactGrowthLenRow.ifacesOut == Try.f14.resultTypes.toList.any (fun x => Try.prog.ifacesRec x)) = true := by kernel_rfl
theorem j21 : (Rows.fnExactGrowthLenRow.loopsOut == Try.f14.resultTypes.toList.any (fun x => Try.prog.loopsFrom x)) = true := by kernel_rfl
theorem j22 : (Rows.fnExactGrowthLenRow.plainKeys == Try.prog.plainKeys) = true := by kernel_rfl
theorem j23 : Rows.fnExactGrowthLenRow.shortTexts.isNone = true := by kernel_rfl
theorem j26 : (Rows.fnExactGrowthLenRow.lifted == Try.prog.liftsFinal) = true := by rw [JFacts.lifts]; rfl
theorem j27 : (Try.prog.make == some Rows.fnExactGrowthLenRow.make) = true := by rw [JFacts.make]; rfl
theorem j28 : JFacts.kindsFact Try.prog Try.f14 Rows.fnExactGrowthLenRow = true := by kernel_rfl
theorem j29 : (Rows.fnExactGrowthLenRow.pinned == Rows.fnExactGrowthLenRow.pinnedBy) = true := by kernel_rfl
theorem j30 : (Rows.fnExactGrowthLenRow.veiled == (Try.f14.params.toList ++ Rows.fnExactGrowthLenSpec.plain.varTypes Try.prog ++ Try.f14.resultTypes.toList).any (fun x => Try.prog.veiledRec x)) = true := by kernel_rfl
theorem j31 : Rows.fnExactGrowthLenRow.veiledFits Try.prog Try.f14.params.toList (Try.f14.params.toList ++ Rows.fnExactGrowthLenSpec.plain.varTypes Try.prog ++ Try.f14.resultTypes.toList) = true := by kernel_rfl
theorem closed : joinedFacts Try.prog 14 Try.f14 Rows.fnExactGrowthLenSpec Rows.fnExactGrowthLenRow = true := JFacts.joined_of j0 JFacts.laidOut JFacts.mapsRowed j3 j4 j5 JFacts.stops j7 JFacts.knobs j9 j10 j11 j12 j13 j14 j15 j16 j17 j18 j19 j20 j21 j22 j23 JFacts.heard JFacts.mayEnter j26 j27 j28 j29 j30 j31
theorem over : Rows.fnExactGrowthLenRow.holds Try.pinned (OpenSpec.ofChange Rows.fnExactGrowthLenSpec) :=
  OpenClaim.holds_of_wide 14 Try.f14 rfl rfl rfl rfl rfl rfl rfl ⟨rfl, rfl, rfl, rfl, rfl⟩ rfl rfl rfl rfl rfl (by kernel_rfl) Try.func14 closed
    (of_decide_eq_true (by kernel_rfl)) (by unfold Func.isWrapper; first | (rw [if_pos (by decide +kernel)]; kernel_rfl) | (rw [if_neg (by decide +kernel)]; exact ⟨rfl, rfl⟩))
    (fun os started H enc _ => lifted os started H enc)
theorem proved : Rows.FnExactGrowthLenSaid := over
end Go.Proofs.Ytfbhlofifodkjaa.fnExactGrowthLen
namespace Go.Proofs.Ytfbhlofifodkjaa
/-- The row, under a short name, for the claim. -/
theorem fnExactGrowthLen_holds : Rows.FnExactGrowthLenSaid := fnExactGrowthLen.proved
#print axioms fnExactGrowthLen_holds
end Go.Proofs.Ytfbhlofifodkjaa
