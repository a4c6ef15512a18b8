/- The row of the law FnExactPathOf: what the law's Go function computes is true, for every input that the row lets in; the plain law behind it is YtemfciflhbhobaaPureFnExactPathOf. No condition beyond the row's own. (Written by the session's program pp.py.) -/
import Derived.Test.YtemfciflhbhobaaRows
import Derived.Test.YtemfciflhbhobaaJFacts
import Derived.Test.YtemfciflhbhobaaOpenK
import Derived.Test.YtemfciflhbhobaaFLawsFnExactPathOf
import Derived.Test.YtemfciflhbhobaaPureFnExactPathOf
import Derived.WalkKit
import Derived.ProofKit
import Derived.OpenShut
import Derived.ShutString
import Derived.ChangeOld
import Derived.Below
import Derived.SizedLaws
import Derived.JoinedOf
namespace Go.Proofs.Ytemfciflhbhobaa.fnExactPathOf
open Go.ChangeShapes Go.WideShapes Go.ChangeAt Go.RowKit Go.Proofs.Ytemfciflhbhobaa.Opening Go.Proofs.Ytemfciflhbhobaa.B Go.Proofs.YtemfciflhbhobaaW.PrintWords
set_option linter.unusedVariables false
theorem own : ownKnob Try.prog.godebug = none := by kernel_rfl
set_option maxRecDepth 100000 in
theorem lifted (os : Os) (started : os.Started) (H : Type) (enc : TypeId × Value → H) :
    ReturnsInHanded {} Try.checked os 14 .any (Rows.fnExactPathOfSpec.pre6 enc Try.prog Try.f14 Rows.fnExactPathOfRow.domain false) (Rows.fnExactPathOfSpec.post enc Try.prog Try.f14 false true false false) := by
  refine returnsInHanded_of_change_sized (C := Try.checked) own started (by kernel_rfl) Try.func14
    (ChangeSpec.witness6 (enc := enc) (C := Try.checked) false ⟨#[], #[.slice none 0 0, .int .i64 0], []⟩ 8 (by kernel_rfl) (by kernel_rfl) (by kernel_rfl) (by kernel_rfl)) ?_
  intro W base args ds gs before hval0 hW hcnd hsz0 _
  have hval : ∀ (j : Nat) t v, Try.f14.params[j]? = some t → args[j]? = some v → Value.okWide Try.prog W .any base t v := hval0
  have hW' := hW
  obtain ⟨p, q, hA0, hV, rfl, hfz, hnd⟩ := hW
  have hA : DataW.TrodAll enc Try.prog W 0 (fun _ => true) true Try.f14.params.toList args.toList ds p := hA0
  rw [Try.params14] at hA hval
  obtain ⟨v0, vs0, d0, ds0, p0, q0, hargs, rfl, rfl, h0, r0⟩ := trodAll_cons hA
  obtain ⟨v1, vs1, d1, ds1, p1, q1, rfl, rfl, rfl, h1, r1⟩ := trodAll_cons r0
  obtain ⟨rfl, rfl, rfl⟩ := trodAll_nil r1
  obtain rfl : args = #[v0, v1] := by cases args; simp_all
  obtain ⟨rfl, rfl⟩ := trodVars_none hV
  have k0 := h0
  have lt0 : ∀ x ∈ p0, x.block < W.heap.size := by obtain ⟨m, hm⟩ := k0; exact DataW.trod_lt m _ _ _ hm
  obtain ⟨fuel0, hf0⟩ := h0
  obtain ⟨y0, K0, ok0⟩ := (opens_slice Try.underlying60 (by kernel_rfl) (opens_string Try.underlying9)) H enc W fuel0 _ _ hf0
  obtain ⟨A0, len0, cap0, rfl⟩ := okWide_slice Try.underlying60 (hval 0 60 v0 rfl rfl)
  obtain ⟨B0, c0, e0, hc0, hr0⟩ := K0
  obtain ⟨rfl, rfl, rfl⟩ : A0 = B0 ∧ len0 = y0.length ∧ cap0 = c0 := by simpa [Value.cells] using e0
  have k1 := h1
  have lt1 : ∀ x ∈ p1, x.block < W.heap.size := by obtain ⟨m, hm⟩ := k1; exact DataW.trod_lt m _ _ _ hm
  obtain ⟨fuel1, hf1⟩ := h1
  obtain ⟨y1, K1, ok1⟩ := (opens_int Try.underlying3) H enc W fuel1 _ _ hf1
  obtain ⟨q1, rfl⟩ := okWide_int Try.underlying3 (hval 1 3 v1 rfl rfl)
  have e1 := K1
  obtain rfl : q1 = y1 := by first | simpa [Value.cells, Kd.int, Kd.bool, Kd.string, Kd.scalar] using e1 | (simp [Value.cells, Kd.int, Kd.bool, Kd.string, Kd.scalar] at e1; exact e1)
  clear hA0 hval0 hsz0
  obtain ⟨k, hp⟩ := Pure.FnExactPathOf y0 q1 ok0 ok1
  refine (B.laws_FnExactPathOf.calls k A0 cap0 y0 q1 true rfl W hr0 hc0 hp).mono fun e W' he => ?_
  obtain ⟨he, bel0⟩ := he
  have bel := bel0
  subst he
  exact ⟨_, rfl, _, _, _, [], _, [], hW', trodAll_mk1 (shut_bool Try.underlying4 _), (trodAll_cons_mk (Below.trod JFacts.laidOut (by kernel_rfl) (of_decide_eq_true (by kernel_rfl)) k0 bel lt0) (trodAll_cons_mk (Below.trod JFacts.laidOut (by kernel_rfl) (of_decide_eq_true (by kernel_rfl)) k1 bel lt1) trodAll_mk0)), rfl, bel.frame _, fun h => by cases h⟩
theorem j0 : Rows.fnExactPathOfRow.wf (OpenSpec.ofChange Rows.fnExactPathOfSpec) = true := by kernel_rfl
theorem j3 : Try.f14.params.all (fun x => Try.prog.readableRec x) = true := by kernel_rfl
theorem j4 : namedTie Try.prog Rows.fnExactPathOfRow.named Rows.fnExactPathOfSpec.vars = true := by kernel_rfl
theorem j5 : (Rows.fnExactPathOfRow.stops == []) = true := by kernel_rfl
theorem j7 : (Rows.fnExactPathOfRow.knobs == []) = true := by kernel_rfl
theorem j9 : (Rows.fnExactPathOfRow.inPlace == Try.prog.inPlace 14) = true := by kernel_rfl
theorem j10 : (Rows.fnExactPathOfRow.unfollowed == Try.prog.unfollowed 14) = true := by kernel_rfl
theorem j11 : (Rows.fnExactPathOfRow.recurses == Try.prog.recurses 14) = true := by kernel_rfl
theorem j12 : (Rows.fnExactPathOfRow.named == Try.prog.varsNamed 14) = true := by kernel_rfl
theorem j13 : (Rows.fnExactPathOfRow.maps == (Try.f14.params.toList ++ Rows.fnExactPathOfSpec.plain.varTypes Try.prog).any (fun x => Try.prog.mapsRec x)) = true := by kernel_rfl
theorem j14 : (Rows.fnExactPathOfRow.ifaces == (Try.f14.params.toList ++ Rows.fnExactPathOfSpec.plain.varTypes Try.prog).any (fun x => Try.prog.ifacesRec x)) = true := by kernel_rfl
theorem j15 : (Rows.fnExactPathOfRow.mapsOut == Try.prog.mapsAmong Try.f14.resultTypes.toList) = true := by kernel_rfl
theorem j16 : (Rows.fnExactPathOfRow.loops == (Try.f14.params.toList ++ Rows.fnExactPathOfSpec.plain.varTypes Try.prog).any (fun x => Try.prog.loopsFrom x)) = true := by kernel_rfl
theorem j17 : (Rows.fnExactPathOfRow.wideKeys == (Try.f14.params.toList ++ Rows.fnExactPathOfSpec.plain.varTypes Try.prog ++ Try.f14.resultTypes.toList).any (fun x => Try.prog.wideKeysFrom x)) = true := by kernel_rfl
theorem j18 : Rows.fnExactPathOfSpec.vars.all (fun x => Try.prog.varReadable x) = true := by kernel_rfl
theorem j19 : Try.f14.resultTypes.all (fun t => Try.prog.readableRec t && decide (t < Try.prog.types.size)) = true := by kernel_rfl
theorem j20 : (Rows.fnExactPathOfRow.ifacesOut == Try.f14.resultTypes.toList.any (fun x => Try.prog.ifacesRec x)) = true := by kernel_rfl
theorem j21 : (Rows.fnExactPathOfRow.loopsOut == Try.f14.resultTypes.toList.any (fun x => Try.prog.loopsFrom x)) = true := by kernel_rfl
theorem j22 : (Rows.fnExactPathOfRow.plainKeys == Try.prog.plainKeys) = true := by kernel_rfl
theorem j23 : Rows.fnExactPathOfRow.shortTexts.isNone = true := by kernel_rfl
theorem j26 : (Rows.fnExactPathOfRow.lifted == Try.prog.liftsFinal) = true := by rw [JFacts.lifts]; rfl
theorem j27 : (Try.prog.make == some Rows.fnExactPathOfRow.make) = true := by rw [JFacts.make]; rfl
theorem j28 : JFacts.kindsFact Try.prog Try.f14 Rows.fnExactPathOfRow = true := by kernel_rfl
theorem j29 : (Rows.fnExactPathOfRow.pinned == Rows.fnExactPathOfRow.pinnedBy) = true := by kernel_rfl
theorem j30 : (Rows.fnExactPathOfRow.veiled == (Try.f14.params.toList ++ Rows.fnExactPathOfSpec.plain.varTypes Try.prog ++ Try.f14.resultTypes.toList).any (fun x => Try.prog.veiledRec x)) = true := by kernel_rfl
theorem j31 : Rows.fnExactPathOfRow.veiledFits Try.prog Try.f14.params.toList (Try.f14.params.toList ++ Rows.fnExactPathOfSpec.plain.varTypes Try.prog ++ Try.f14.resultTypes.toList) = true := by kernel_rfl
theorem closed : joinedFacts Try.prog 14 Try.f14 Rows.fnExactPathOfSpec Rows.fnExactPathOfRow = true := JFacts.joined_of j0 JFacts.laidOut JFacts.mapsRowed j3 j4 j5 JFacts.stops j7 JFacts.knobs j9 j10 j11 j12 j13 j14 j15 j16 j17 j18 j19 j20 j21 j22 j23 JFacts.heard JFacts.mayEnter j26 j27 j28 j29 j30 j31
theorem over : Rows.fnExactPathOfRow.holds Try.pinned (OpenSpec.ofChange Rows.fnExactPathOfSpec) :=
  OpenClaim.holds_of_wide 14 Try.f14 rfl rfl rfl rfl rfl rfl rfl ⟨rfl, rfl, rfl, rfl, rfl⟩ rfl rfl rfl rfl rfl (by kernel_rfl) Try.func14 closed
    (of_decide_eq_true (by kernel_rfl)) (by unfold Func.isWrapper; first | (rw [if_pos (by decide +kernel)]; kernel_rfl) | (rw [if_neg (by decide +kernel)]; exact ⟨rfl, rfl⟩))
    (fun os started H enc _ => lifted os started H enc)
theorem proved : Rows.FnExactPathOfSaid := over
end Go.Proofs.Ytemfciflhbhobaa.fnExactPathOf
namespace Go.Proofs.Ytemfciflhbhobaa
/-- The row, under a short name, for the claim. -/
theorem fnExactPathOf_holds : Rows.FnExactPathOfSaid := fnExactPathOf.proved
#print axioms fnExactPathOf_holds
end Go.Proofs.Ytemfciflhbhobaa
