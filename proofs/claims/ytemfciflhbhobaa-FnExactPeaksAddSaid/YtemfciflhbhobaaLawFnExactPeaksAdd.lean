/- The row of the law FnExactPeaksAdd: what the law's Go function computes is true, for every input that the row lets in; the plain law behind it is YtemfciflhbhobaaPureFnExactPeaksAdd. No condition beyond the row's own. (Written by the session's program pp.py.) -/
import Derived.Test.YtemfciflhbhobaaRows
import Derived.Test.YtemfciflhbhobaaJFacts
import Derived.Test.YtemfciflhbhobaaOpenK
import Derived.Test.YtemfciflhbhobaaFLawsFnExactPeaksAdd
import Derived.Test.YtemfciflhbhobaaPureFnExactPeaksAdd
import Derived.WalkKit
import Derived.ProofKit
import Derived.OpenShut
import Derived.ShutString
import Derived.ChangeOld
import Derived.Below
import Derived.SizedLaws
import Derived.JoinedOf
namespace Go.Proofs.Ytemfciflhbhobaa.fnExactPeaksAdd
open Go.ChangeShapes Go.WideShapes Go.ChangeAt Go.RowKit Go.Proofs.Ytemfciflhbhobaa.Opening Go.Proofs.Ytemfciflhbhobaa.B Go.Proofs.YtemfciflhbhobaaW.PrintWords
set_option linter.unusedVariables false
theorem own : ownKnob Try.prog.godebug = none := by kernel_rfl
set_option maxRecDepth 100000 in
theorem lifted (os : Os) (started : os.Started) (H : Type) (enc : TypeId × Value → H) :
    ReturnsInHanded {} Try.checked os 10 .any (Rows.fnExactPeaksAddSpec.pre6 enc Try.prog Try.f10 Rows.fnExactPeaksAddRow.domain false) (Rows.fnExactPeaksAddSpec.post enc Try.prog Try.f10 false true false false) := by
  refine returnsInHanded_of_change_sized (C := Try.checked) own started (by kernel_rfl) Try.func10
    (ChangeSpec.witness6 (enc := enc) (C := Try.checked) false ⟨#[], #[.int .i64 0, .slice none 0 0, .string ByteArray.empty], []⟩ 8 (by kernel_rfl) (by kernel_rfl) (by kernel_rfl) (by kernel_rfl)) ?_
  intro W base args ds gs before hval0 hW hcnd hsz0 _
  have hval : ∀ (j : Nat) t v, Try.f10.params[j]? = some t → args[j]? = some v → Value.okWide Try.prog W .any base t v := hval0
  have hW' := hW
  obtain ⟨p, q, hA0, hV, rfl, hfz, hnd⟩ := hW
  have hA : DataW.TrodAll enc Try.prog W 0 (fun _ => true) true Try.f10.params.toList args.toList ds p := hA0
  rw [Try.params10] at hA hval
  obtain ⟨v0, vs0, d0, ds0, p0, q0, hargs, rfl, rfl, h0, r0⟩ := trodAll_cons hA
  obtain ⟨v1, vs1, d1, ds1, p1, q1, rfl, rfl, rfl, h1, r1⟩ := trodAll_cons r0
  obtain ⟨v2, vs2, d2, ds2, p2, q2, rfl, rfl, rfl, h2, r2⟩ := trodAll_cons r1
  obtain ⟨rfl, rfl, rfl⟩ := trodAll_nil r2
  obtain rfl : args = #[v0, v1, v2] := by cases args; simp_all
  obtain ⟨rfl, rfl⟩ := trodVars_none hV
  have k0 := h0
  have lt0 : ∀ x ∈ p0, x.block < W.heap.size := by obtain ⟨m, hm⟩ := k0; exact DataW.trod_lt m _ _ _ hm
  obtain ⟨fuel0, hf0⟩ := h0
  obtain ⟨y0, K0, ok0⟩ := (opens_int Try.underlying3) H enc W fuel0 _ _ hf0
  obtain ⟨q0, rfl⟩ := okWide_int Try.underlying3 (hval 0 3 v0 rfl rfl)
  have e0 := K0
  obtain rfl : q0 = y0 := by first | simpa [Value.cells, Kd.int, Kd.bool, Kd.string, Kd.scalar] using e0 | (simp [Value.cells, Kd.int, Kd.bool, Kd.string, Kd.scalar] at e0; exact e0)
  have k1 := h1
  have lt1 : ∀ x ∈ p1, x.block < W.heap.size := by obtain ⟨m, hm⟩ := k1; exact DataW.trod_lt m _ _ _ hm
  obtain ⟨fuel1, hf1⟩ := h1
  obtain ⟨y1, K1, ok1⟩ := (opens_slice Try.underlying40 (by kernel_rfl) opens24) H enc W fuel1 _ _ hf1
  obtain ⟨A1, len1, cap1, rfl⟩ := okWide_slice Try.underlying40 (hval 1 40 v1 rfl rfl)
  obtain ⟨B1, c1, e1, hc1, hr1⟩ := K1
  obtain ⟨rfl, rfl, rfl⟩ : A1 = B1 ∧ len1 = y1.length ∧ cap1 = c1 := by simpa [Value.cells] using e1
  have k2 := h2
  have lt2 : ∀ x ∈ p2, x.block < W.heap.size := by obtain ⟨m, hm⟩ := k2; exact DataW.trod_lt m _ _ _ hm
  obtain ⟨fuel2, hf2⟩ := h2
  obtain ⟨y2, K2, ok2⟩ := (opens_string Try.underlying9) H enc W fuel2 _ _ hf2
  obtain ⟨q2, rfl⟩ := okWide_string Try.underlying9 (hval 2 9 v2 rfl rfl)
  have e2 := K2
  obtain rfl : q2 = y2 := by first | simpa [Value.cells, Kd.int, Kd.bool, Kd.string, Kd.scalar] using e2 | (simp [Value.cells, Kd.int, Kd.bool, Kd.string, Kd.scalar] at e2; exact e2)
  clear hA0 hval0 hsz0
  obtain ⟨k, hp⟩ := Pure.FnExactPeaksAdd q0 y1 q2 ok0 ok1 ok2
  refine (B.laws_FnExactPeaksAdd.calls k q0 A1 cap1 y1 q2 true rfl W hr1 hc1 hp).mono fun e W' he => ?_
  obtain ⟨he, bel0⟩ := he
  have bel := bel0
  subst he
  exact ⟨_, rfl, _, _, _, [], _, [], hW', trodAll_mk1 (shut_bool Try.underlying4 _), (trodAll_cons_mk (Below.trod JFacts.laidOut (by kernel_rfl) (of_decide_eq_true (by kernel_rfl)) k0 bel lt0) (trodAll_cons_mk (Below.trod JFacts.laidOut (by kernel_rfl) (of_decide_eq_true (by kernel_rfl)) k1 bel lt1) (trodAll_cons_mk (Below.trod JFacts.laidOut (by kernel_rfl) (of_decide_eq_true (by kernel_rfl)) k2 bel lt2) trodAll_mk0))), rfl, bel.frame _, fun h => by cases h⟩
theorem j0 : Rows.fnExactPeaksAddRow.wf (OpenSpec.ofChange Rows.fnExactPeaksAddSpec) = true := by kernel_rfl
theorem j3 : Try.f10.params.all (fun x => Try.prog.readableRec x) = true := by kernel_rfl
theorem j4 : namedTie Try.prog Rows.fnExactPeaksAddRow.named Rows.fnExactPeaksAddSpec.vars = true := by kernel_rfl
theorem j5 : (Rows.fnExactPeaksAddRow.stops == []) = true := by kernel_rfl
theorem j7 : (Rows.fnExactPeaksAddRow.knobs == []) = true := by kernel_rfl
theorem j9 : (Rows.fnExactPeaksAddRow.inPlace == Try.prog.inPlace 10) = true := by kernel_rfl
theorem j10 : (Rows.fnExactPeaksAddRow.unfollowed == Try.prog.unfollowed 10) = true := by kernel_rfl
theorem j11 : (Rows.fnExactPeaksAddRow.recurses == Try.prog.recurses 10) = true := by kernel_rfl
theorem j12 : (Rows.fnExactPeaksAddRow.named == Try.prog.varsNamed 10) = true := by kernel_rfl
theorem j13 : (Rows.fnExactPeaksAddRow.maps == (Try.f10.params.toList ++ Rows.fnExactPeaksAddSpec.plain.varTypes Try.prog).any (fun x => Try.prog.mapsRec x)) = true := by kernel_rfl
theorem j14 : (Rows.fnExactPeaksAddRow.ifaces == (Try.f10.params.toList ++ Rows.fnExactPeaksAddSpec.plain.varTypes Try.prog).any (fun x => Try.prog.ifacesRec x)) = true := by kernel_rfl
theorem j15 : (Rows.fnExactPeaksAddRow.mapsOut == Try.prog.mapsAmong Try.f10.resultTypes.toList) = true := by kernel_rfl
theorem j16 : (Rows.fnExactPeaksAddRow.loops == (Try.f10.params.toList ++ Rows.fnExactPeaksAddSpec.plain.varTypes Try.prog).any (fun x => Try.prog.loopsFrom x)) = true := by kernel_rfl
theorem j17 : (Rows.fnExactPeaksAddRow.wideKeys == (Try.f10.params.toList ++ Rows.fnExactPeaksAddSpec.plain.varTypes Try.prog ++ Try.f10.resultTypes.toList).any (fun x => Try.prog.wideKeysFrom x)) = true := by kernel_rfl
theorem j18 : Rows.fnExactPeaksAddSpec.vars.all (fun x => Try.prog.varReadable x) = true := by kernel_rfl
theorem j19 : Try.f10.resultTypes.all (fun t => Try.prog.readableRec t && decide (t < Try.prog.types.size)) = true := by kernel_rfl
theorem j20 : (Rows.fnExactPeaksAddRow.ifacesOut == Try.f10.resultTypes.toList.any (fun x => Try.prog.ifacesRec x)) = true := by kernel_rfl
theorem j21 : (Rows.fnExactPeaksAddRow.loopsOut == Try.f10.resultTypes.toList.any (fun x => Try.prog.loopsFrom x)) = true := by kernel_rfl
theorem j22 : (Rows.fnExactPeaksAddRow.plainKeys == Try.prog.plainKeys) = true := by kernel_rfl
theorem j23 : Rows.fnExactPeaksAddRow.shortTexts.isNone = true := by kernel_rfl
theorem j26 : (Rows.fnExactPeaksAddRow.lifted == Try.prog.liftsFinal) = true := by rw [JFacts.lifts]; rfl
theorem j27 : (Try.prog.make == some Rows.fnExactPeaksAddRow.make) = true := by rw [JFacts.make]; rfl
theorem j28 : JFacts.kindsFact Try.prog Try.f10 Rows.fnExactPeaksAddRow = true := by kernel_rfl
theorem j29 : (Rows.fnExactPeaksAddRow.pinned == Rows.fnExactPeaksAddRow.pinnedBy) = true := by kernel_rfl
theorem j30 : (Rows.fnExactPeaksAddRow.veiled == (Try.f10.params.toList ++ Rows.fnExactPeaksAddSpec.plain.varTypes Try.prog ++ Try.f10.resultTypes.toList).any (fun x => Try.prog.veiledRec x)) = true := by kernel_rfl
theorem j31 : Rows.fnExactPeaksAddRow.veiledFits Try.prog Try.f10.params.toList (Try.f10.params.toList ++ Rows.fnExactPeaksAddSpec.plain.varTypes Try.prog ++ Try.f10.resultTypes.toList) = true := by kernel_rfl
theorem closed : joinedFacts Try.prog 10 Try.f10 Rows.fnExactPeaksAddSpec Rows.fnExactPeaksAddRow = true := JFacts.joined_of j0 JFacts.laidOut JFacts.mapsRowed j3 j4 j5 JFacts.stops j7 JFacts.knobs j9 j10 j11 j12 j13 j14 j15 j16 j17 j18 j19 j20 j21 j22 j23 JFacts.heard JFacts.mayEnter j26 j27 j28 j29 j30 j31
theorem over : Rows.fnExactPeaksAddRow.holds Try.pinned (OpenSpec.ofChange Rows.fnExactPeaksAddSpec) :=
  OpenClaim.holds_of_wide 10 Try.f10 rfl rfl rfl rfl rfl rfl rfl ⟨rfl, rfl, rfl, rfl, rfl⟩ rfl rfl rfl rfl rfl (by kernel_rfl) Try.func10 closed
    (of_decide_eq_true (by kernel_rfl)) (by unfold Func.isWrapper; first | (rw [if_pos (by decide +kernel)]; kernel_rfl) | (rw [if_neg (by decide +kernel)]; exact ⟨rfl, rfl⟩))
    (fun os started H enc _ => lifted os started H enc)
theorem proved : Rows.FnExactPeaksAddSaid := over
end Go.Proofs.Ytemfciflhbhobaa.fnExactPeaksAdd
namespace Go.Proofs.Ytemfciflhbhobaa
/-- The row, under a short name, for the claim. -/
theorem fnExactPeaksAdd_holds : Rows.FnExactPeaksAddSaid := fnExactPeaksAdd.proved
#print axioms fnExactPeaksAdd_holds
end Go.Proofs.Ytemfciflhbhobaa
