/- The row of the law FnExactGrowthCheck: what the law's Go function computes is true, for every input that the row lets in; the plain law behind it is YtflckegggopdnaaPureFnExactGrowthCheck. No condition beyond the row's own. (Written by the session's program pp.py.) -/
import Derived.Test.YtflckegggopdnaaRows
import Derived.Test.YtflckegggopdnaaJFacts
import Derived.Test.YtflckegggopdnaaOpenK
import Derived.Test.YtflckegggopdnaaFLawsFnExactGrowthCheck
import Derived.Test.YtflckegggopdnaaPureFnExactGrowthCheck
import Derived.WalkKit
import Derived.ProofKit
import Derived.OpenShut
import Derived.ShutString
import Derived.ChangeOld
import Derived.Below
import Derived.SizedLaws
import Derived.JoinedOf
namespace Go.Proofs.Ytflckegggopdnaa.fnExactGrowthCheck
open Go.ChangeShapes Go.WideShapes Go.ChangeAt Go.RowKit Go.Proofs.Ytflckegggopdnaa.Opening Go.Proofs.Ytflckegggopdnaa.B Go.Proofs.YtflckegggopdnaaW.PrintWords
set_option linter.unusedVariables false
theorem own : ownKnob Try.prog.godebug = none := by kernel_rfl
set_option maxRecDepth 100000 in
theorem lifted (os : Os) (started : os.Started) (H : Type) (enc : TypeId × Value → H) :
    ReturnsInHanded {} Try.checked os 7 .any (Rows.fnExactGrowthCheckSpec.pre6 enc Try.prog Try.f7 Rows.fnExactGrowthCheckRow.domain false) (Rows.fnExactGrowthCheckSpec.post enc Try.prog Try.f7 false true false false) := by
  refine returnsInHanded_of_change_sized (C := Try.checked) own started (by kernel_rfl) Try.func7
    (ChangeSpec.witness6 (enc := enc) (C := Try.checked) false ⟨#[], #[.agg #[.int .i64 0, .int .u64 0, .int .u64 0, .int .u64 0, .int .u64 0], .agg #[.int .i64 0, .int .u64 0, .int .u64 0, .int .u64 0, .int .u64 0], .slice none 0 0], []⟩ 8 (by kernel_rfl) (by kernel_rfl) (by kernel_rfl) (by kernel_rfl)) ?_
  intro W base args ds gs before hval0 hW hcnd hsz0 _
  have hval : ∀ (j : Nat) t v, Try.f7.params[j]? = some t → args[j]? = some v → Value.okWide Try.prog W .any base t v := hval0
  have hW' := hW
  obtain ⟨p, q, hA0, hV, rfl, hfz, hnd⟩ := hW
  have hA : DataW.TrodAll enc Try.prog W 0 (fun _ => true) true Try.f7.params.toList args.toList ds p := hA0
  rw [Try.params7] at hA hval
  obtain ⟨v0, vs0, d0, ds0, p0, q0, hargs, rfl, rfl, h0, r0⟩ := trodAll_cons hA
  obtain ⟨v1, vs1, d1, ds1, p1, q1, rfl, rfl, rfl, h1, r1⟩ := trodAll_cons r0
  obtain ⟨v2, vs2, d2, ds2, p2, q2, rfl, rfl, rfl, h2, r2⟩ := trodAll_cons r1
  obtain ⟨rfl, rfl, rfl⟩ := trodAll_nil r2
  obtain rfl : args = #[v0, v1, v2] := by cases args; simp_all
  obtain ⟨rfl, rfl⟩ := trodVars_none hV
  have k0 := h0
  have lt0 : ∀ x ∈ p0, x.block < W.heap.size := by obtain ⟨m, hm⟩ := k0; exact DataW.trod_lt m _ _ _ hm
  obtain ⟨fuel0, hf0⟩ := h0
  obtain ⟨y0, K0, ok0⟩ := opens26 H enc W fuel0 _ _ hf0
  obtain ⟨cs0, rfl, hz0⟩ := okWide_struct Try.underlying26 (hval 0 26 v0 rfl rfl)
  have e0 := k26_open K0
  obtain rfl : cs0 = #[.int .i64 y0.f0, .int .u64 y0.f1.f0, .int .u64 y0.f1.f1, .int .u64 y0.f1.f2, .int .u64 y0.f1.f3] := by cases cs0; simpa [Value.cells] using e0
  have k1 := h1
  have lt1 : ∀ x ∈ p1, x.block < W.heap.size := by obtain ⟨m, hm⟩ := k1; exact DataW.trod_lt m _ _ _ hm
  obtain ⟨fuel1, hf1⟩ := h1
  obtain ⟨y1, K1, ok1⟩ := opens26 H enc W fuel1 _ _ hf1
  obtain ⟨cs1, rfl, hz1⟩ := okWide_struct Try.underlying26 (hval 1 26 v1 rfl rfl)
  have e1 := k26_open K1
  obtain rfl : cs1 = #[.int .i64 y1.f0, .int .u64 y1.f1.f0, .int .u64 y1.f1.f1, .int .u64 y1.f1.f2, .int .u64 y1.f1.f3] := by cases cs1; simpa [Value.cells] using e1
  have k2 := h2
  have lt2 : ∀ x ∈ p2, x.block < W.heap.size := by obtain ⟨m, hm⟩ := k2; exact DataW.trod_lt m _ _ _ hm
  obtain ⟨fuel2, hf2⟩ := h2
  obtain ⟨y2, K2, ok2⟩ := (opens_slice Try.underlying40 (by kernel_rfl) opens24) H enc W fuel2 _ _ hf2
  obtain ⟨A2, len2, cap2, rfl⟩ := okWide_slice Try.underlying40 (hval 2 40 v2 rfl rfl)
  obtain ⟨B2, c2, e2, hc2, hr2⟩ := K2
  obtain ⟨rfl, rfl, rfl⟩ : A2 = B2 ∧ len2 = y2.length ∧ cap2 = c2 := by simpa [Value.cells] using e2
  clear hA0 hval0 hsz0
  obtain ⟨k, hp⟩ := Pure.FnExactGrowthCheck y0 y1 y2 ok0 ok1 ok2
  refine (B.laws_FnExactGrowthCheck.calls k (y0.f0) (y0.f1.f0) (y0.f1.f1) (y0.f1.f2) (y0.f1.f3) (y1.f0) (y1.f1.f0) (y1.f1.f1) (y1.f1.f2) (y1.f1.f3) A2 cap2 y2 true rfl W hr2 hc2 hp).mono fun e W' he => ?_
  obtain ⟨he, bel0⟩ := he
  have bel := bel0
  subst he
  exact ⟨_, rfl, _, _, _, [], _, [], hW', trodAll_mk1 (shut_bool Try.underlying4 _), (trodAll_cons_mk (Below.trod JFacts.laidOut (by kernel_rfl) (of_decide_eq_true (by kernel_rfl)) k0 bel lt0) (trodAll_cons_mk (Below.trod JFacts.laidOut (by kernel_rfl) (of_decide_eq_true (by kernel_rfl)) k1 bel lt1) (trodAll_cons_mk (Below.trod JFacts.laidOut (by kernel_rfl) (of_decide_eq_true (by kernel_rfl)) k2 bel lt2) trodAll_mk0))), rfl, bel.frame _, fun h => by cases h⟩
theorem j0 : Rows.fnExactGrowthCheckRow.wf (OpenSpec.ofChange Rows.fnExactGrowthCheckSpec) = true := by kernel_rfl
theorem j3 : Try.f7.params.all (fun x => Try.prog.readableRec x) = true := by kernel_rfl
theorem j4 : namedTie Try.prog Rows.fnExactGrowthCheckRow.named Rows.fnExactGrowthCheckSpec.vars = true := by kernel_rfl
theorem j5 : (Rows.fnExactGrowthCheckRow.stops == []) = true := by kernel_rfl
theorem j7 : (Rows.fnExactGrowthCheckRow.knobs == []) = true := by kernel_rfl
theorem j9 : (Rows.fnExactGrowthCheckRow.inPlace == Try.prog.inPlace 7) = true := by kernel_rfl
theorem j10 : (Rows.fnExactGrowthCheckRow.unfollowed == Try.prog.unfollowed 7) = true := by kernel_rfl
theorem j11 : (Rows.fnExactGrowthCheckRow.recurses == Try.prog.recurses 7) = true := by kernel_rfl
theorem j12 : (Rows.fnExactGrowthCheckRow.named == Try.prog.varsNamed 7) = true := by kernel_rfl
theorem j13 : (Rows.fnExactGrowthCheckRow.maps == (Try.f7.params.toList ++ Rows.fnExactGrowthCheckSpec.plain.varTypes Try.prog).any (fun x => Try.prog.mapsRec x)) = true := by kernel_rfl
theorem j14 : (Rows.fnExactGrowthCheckRow.ifaces == (Try.f7.params.toList ++ Rows.fnExactGrowthCheckSpec.plain.varTypes Try.prog).any (fun x => Try.prog.ifacesRec x)) = true := by kernel_rfl
theorem j15 : (Rows.fnExactGrowthCheckRow.mapsOut == Try.prog.mapsAmong Try.f7.resultTypes.toList) = true := by kernel_rfl
theorem j16 : (Rows.fnExactGrowthCheckRow.loops == (Try.f7.params.toList ++ Rows.fnExactGrowthCheckSpec.plain.varTypes Try.prog).any (fun x => Try.prog.loopsFrom x)) = true := by kernel_rfl
theorem j17 : (Rows.fnExactGrowthCheckRow.wideKeys == (Try.f7.params.toList ++ Rows.fnExactGrowthCheckSpec.plain.varTypes Try.prog ++ Try.f7.resultTypes.toList).any (fun x => Try.prog.wideKeysFrom x)) = true := by kernel_rfl
theorem j18 : Rows.fnExactGrowthCheckSpec.vars.all (fun x => Try.prog.varReadable x) = true := by kernel_rfl
theorem j19 : Try.f7.resultTypes.all (fun t => Try.prog.readableRec t && decide (t < Try.prog.types.size)) = true := by kernel_rfl
theorem j20 : (Rows.fnExactGrowthCheckRow.ifacesOut == Try.f7.resultTypes.toList.any (fun x => Try.prog.ifacesRec x)) = true := by kernel_rfl
theorem j21 : (Rows.fnExactGrowthCheckRow.loopsOut == Try.f7.resultTypes.toList.any (fun x => Try.prog.loopsFrom x)) = true := by kernel_rfl
theorem j22 : (Rows.fnExactGrowthCheckRow.plainKeys == Try.prog.plainKeys) = true := by kernel_rfl
theorem j23 : Rows.fnExactGrowthCheckRow.shortTexts.isNone = true := by kernel_rfl
theorem j26 : (Rows.fnExactGrowthCheckRow.lifted == Try.prog.liftsFinal) = true := by rw [JFacts.lifts]; rfl
theorem j27 : (Try.prog.make == some Rows.fnExactGrowthCheckRow.make) = true := by rw [JFacts.make]; rfl
theorem j28 : JFacts.kindsFact Try.prog Try.f7 Rows.fnExactGrowthCheckRow = true := by kernel_rfl
theorem j29 : (Rows.fnExactGrowthCheckRow.pinned == Rows.fnExactGrowthCheckRow.pinnedBy) = true := by kernel_rfl
theorem j30 : (Rows.fnExactGrowthCheckRow.veiled == (Try.f7.params.toList ++ Rows.fnExactGrowthCheckSpec.plain.varTypes Try.prog ++ Try.f7.resultTypes.toList).any (fun x => Try.prog.veiledRec x)) = true := by kernel_rfl
theorem j31 : Rows.fnExactGrowthCheckRow.veiledFits Try.prog Try.f7.params.toList (Try.f7.params.toList ++ Rows.fnExactGrowthCheckSpec.plain.varTypes Try.prog ++ Try.f7.resultTypes.toList) = true := by kernel_rfl
theorem closed : joinedFacts Try.prog 7 Try.f7 Rows.fnExactGrowthCheckSpec Rows.fnExactGrowthCheckRow = true := JFacts.joined_of j0 JFacts.laidOut JFacts.mapsRowed j3 j4 j5 JFacts.stops j7 JFacts.knobs j9 j10 j11 j12 j13 j14 j15 j16 j17 j18 j19 j20 j21 j22 j23 JFacts.heard JFacts.mayEnter j26 j27 j28 j29 j30 j31
theorem over : Rows.fnExactGrowthCheckRow.holds Try.pinned (OpenSpec.ofChange Rows.fnExactGrowthCheckSpec) :=
  OpenClaim.holds_of_wide 7 Try.f7 rfl rfl rfl rfl rfl rfl rfl ⟨rfl, rfl, rfl, rfl, rfl⟩ rfl rfl rfl rfl rfl (by kernel_rfl) Try.func7 closed
    (of_decide_eq_true (by kernel_rfl)) (by unfold Func.isWrapper; first | (rw [if_pos (by decide +kernel)]; kernel_rfl) | (rw [if_neg (by decide +kernel)]; exact ⟨rfl, rfl⟩))
    (fun os started H enc _ => lifted os started H enc)
theorem proved : Rows.FnExactGrowthCheckSaid := over
end Go.Proofs.Ytflckegggopdnaa.fnExactGrowthCheck
namespace Go.Proofs.Ytflckegggopdnaa
/-- The row, under a short name, for the claim. -/
theorem fnExactGrowthCheck_holds : Rows.FnExactGrowthCheckSaid := fnExactGrowthCheck.proved
#print axioms fnExactGrowthCheck_holds
end Go.Proofs.Ytflckegggopdnaa
