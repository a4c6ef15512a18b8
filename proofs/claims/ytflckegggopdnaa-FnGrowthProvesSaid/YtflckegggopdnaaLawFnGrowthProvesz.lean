/- The row of the law FnGrowthProves: what the law's Go function computes is true, for every input that the row lets in; the plain law behind it is YtflckegggopdnaaPureFnGrowthProves. No condition beyond the row's own. (Written by the session's program pp.py.) -/
import Derived.Test.YtflckegggopdnaaRows
import Derived.WalkKit
import Derived.ProofKit
import Derived.OpenShut
import Derived.ShutString
import Derived.ChangeOld
import Derived.Below
import Derived.SizedLaws
import Derived.JoinedOf
import Derived.KernelRfl
import Derived.Test.YtflckegggopdnaaZGPJFacts
import Derived.Test.YtflckegggopdnaaZGPOpens
import Derived.Test.YtflckegggopdnaaZGPK
import Derived.Test.YtflckegggopdnaaZGPFLawsFnGrowthProves
import Derived.Test.YtflckegggopdnaaZGPPureFnGrowthProves
namespace Go.Proofs.Ytflckegggopdnaa.fnGrowthProves
open Go.ChangeShapes Go.WideShapes Go.ChangeAt Go.RowKit Go.Proofs.Ytflckegggopdnaa.Opening Go.Proofs.Ytflckegggopdnaa.B Go.Proofs.YtflckegggopdnaaW.PrintWords
set_option linter.unusedVariables false
theorem own : ownKnob Try.prog.godebug = none := by kernel_rfl
set_option maxRecDepth 100000 in
theorem lifted (os : Os) (started : os.Started) (H : Type) (enc : TypeId × Value → H) :
    ReturnsInHanded {} Try.checked os 6 .any (Rows.fnGrowthProvesSpec.pre6 enc Try.prog Try.f6 Rows.fnGrowthProvesRow.domain false) (Rows.fnGrowthProvesSpec.post enc Try.prog Try.f6 false true false false) := by
  refine returnsInHanded_of_change_sized (C := Try.checked) own started (by kernel_rfl) Try.func6
    (ChangeSpec.witness6 (enc := enc) (C := Try.checked) false ⟨#[], #[.slice none 0 0], []⟩ 8 (by kernel_rfl) (by kernel_rfl) (by kernel_rfl) (by kernel_rfl)) ?_
  intro W base args ds gs before hval0 hW hcnd hsz0 _
  have hval : ∀ (j : Nat) t v, Try.f6.params[j]? = some t → args[j]? = some v → Value.okWide Try.prog W .any base t v := hval0
  have hW' := hW
  obtain ⟨p, q, hA0, hV, rfl, hfz, hnd⟩ := hW
  have hA : DataW.TrodAll enc Try.prog W 0 (fun _ => true) true Try.f6.params.toList args.toList ds p := hA0
  rw [Try.params6] at hA hval
  obtain ⟨v0, vs0, d0, ds0, p0, q0, hargs, rfl, rfl, h0, r0⟩ := trodAll_cons hA
  obtain ⟨rfl, rfl, rfl⟩ := trodAll_nil r0
  obtain rfl : args = #[v0] := by cases args; simp_all
  obtain ⟨rfl, rfl⟩ := trodVars_none hV
  have k0 := h0
  have lt0 : ∀ x ∈ p0, x.block < W.heap.size := by obtain ⟨m, hm⟩ := k0; exact DataW.trod_lt m _ _ _ hm
  obtain ⟨fuel0, hf0⟩ := h0
  obtain ⟨y0, K0, ok0⟩ := (opens_slice Try.underlying60 (by kernel_rfl) (opens_int Try.underlying5)) H enc W fuel0 _ _ hf0
  obtain ⟨A0, len0, cap0, rfl⟩ := okWide_slice Try.underlying60 (hval 0 60 v0 rfl rfl)
  obtain ⟨B0, c0, e0, hc0, hr0⟩ := K0
  obtain ⟨rfl, rfl, rfl⟩ : A0 = B0 ∧ len0 = y0.length ∧ cap0 = c0 := by simpa [Value.cells] using e0
  clear hA0 hval0 hsz0
  obtain ⟨k, hp⟩ := Pure.FnGrowthProves y0 ok0
  refine (B.laws_FnGrowthProves.calls k A0 cap0 y0 true rfl W hr0 hc0 hp).mono fun e W' he => ?_
  obtain ⟨he, bel0⟩ := he
  have bel := bel0
  subst he
  exact ⟨_, rfl, _, _, _, [], _, [], hW', trodAll_mk1 (shut_bool Try.underlying4 _), (trodAll_cons_mk (Below.trod JFacts.laidOut (by kernel_rfl) (of_decide_eq_true (by kernel_rfl)) k0 bel lt0) trodAll_mk0), rfl, bel.frame _, fun h => by cases h⟩
theorem j0 : Rows.fnGrowthProvesRow.wf (OpenSpec.ofChange Rows.fnGrowthProvesSpec) = true := by kernel_rfl
theorem j3 : Try.f6.params.all (fun x => Try.prog.readableRec x) = true := by kernel_rfl
theorem j4 : namedTie Try.prog Rows.fnGrowthProvesRow.named Rows.fnGrowthProvesSpec.vars = true := by kernel_rfl
theorem j5 : (Rows.fnGrowthProvesRow.stops == []) = true := by kernel_rfl
theorem j7 : (Rows.fnGrowthProvesRow.knobs == []) = true := by kernel_rfl
theorem j9 : (Rows.fnGrowthProvesRow.inPlace == Try.prog.inPlace 6) = true := by kernel_rfl
theorem j10 : (Rows.fnGrowthProvesRow.unfollowed == Try.prog.unfollowed 6) = true := by kernel_rfl
theorem j11 : (Rows.fnGrowthProvesRow.recurses == Try.prog.recurses 6) = true := by kernel_rfl
theorem j12 : (Rows.fnGrowthProvesRow.named == Try.prog.varsNamed 6) = true := by kernel_rfl
theorem j13 : (Rows.fnGrowthProvesRow.maps == (Try.f6.params.toList ++ Rows.fnGrowthProvesSpec.plain.varTypes Try.prog).any (fun x => Try.prog.mapsRec x)) = true := by kernel_rfl
theorem j14 : (Rows.fnGrowthProvesRow.ifaces == (Try.f6.params.toList ++ Rows.fnGrowthProvesSpec.plain.varTypes Try.prog).any (fun x => Try.prog.ifacesRec x)) = true := by kernel_rfl
theorem j15 : (Rows.fnGrowthProvesRow.mapsOut == Try.prog.mapsAmong Try.f6.resultTypes.toList) = true := by kernel_rfl
theorem j16 : (Rows.fnGrowthProvesRow.loops == (Try.f6.params.toList ++ Rows.fnGrowthProvesSpec.plain.varTypes Try.prog).any (fun x => Try.prog.loopsFrom x)) = true := by kernel_rfl
theorem j17 : (Rows.fnGrowthProvesRow.wideKeys == (Try.f6.params.toList ++ Rows.fnGrowthProvesSpec.plain.varTypes Try.prog ++ Try.f6.resultTypes.toList).any (fun x => Try.prog.wideKeysFrom x)) = true := by kernel_rfl
theorem j18 : Rows.fnGrowthProvesSpec.vars.all (fun x => Try.prog.varReadable x) = true := by kernel_rfl
theorem j19 : Try.f6.resultTypes.all (fun t => Try.prog.readableRec t && decide (t < Try.prog.types.size)) = true := by kernel_rfl
theorem j20 : (Rows.fnGrowthProvesRow.ifacesOut == Try.f6.resultTypes.toList.any (fun x => Try.prog.ifacesRec x)) = true := by kernel_rfl
theorem j21 : (Rows.fnGrowthProvesRow.loopsOut == Try.f6.resultTypes.toList.any (fun x => Try.prog.loopsFrom x)) = true := by kernel_rfl
theorem j22 : (Rows.fnGrowthProvesRow.plainKeys == Try.prog.plainKeys) = true := by kernel_rfl
theorem j23 : Rows.fnGrowthProvesRow.shortTexts.isNone = true := by kernel_rfl
theorem j26 : (Rows.fnGrowthProvesRow.lifted == Try.prog.liftsFinal) = true := by rw [JFacts.lifts]; rfl
theorem j27 : (Try.prog.make == some Rows.fnGrowthProvesRow.make) = true := by rw [JFacts.make]; rfl
theorem j28 : JFacts.kindsFact Try.prog Try.f6 Rows.fnGrowthProvesRow = true := by kernel_rfl
theorem j29 : (Rows.fnGrowthProvesRow.pinned == Rows.fnGrowthProvesRow.pinnedBy) = true := by kernel_rfl
theorem j30 : (Rows.fnGrowthProvesRow.veiled == (Try.f6.params.toList ++ Rows.fnGrowthProvesSpec.plain.varTypes Try.prog ++ Try.f6.resultTypes.toList).any (fun x => Try.prog.veiledRec x)) = true := by kernel_rfl
theorem j31 : Rows.fnGrowthProvesRow.veiledFits Try.prog Try.f6.params.toList (Try.f6.params.toList ++ Rows.fnGrowthProvesSpec.plain.varTypes Try.prog ++ Try.f6.resultTypes.toList) = true := by kernel_rfl
theorem closed : joinedFacts Try.prog 6 Try.f6 Rows.fnGrowthProvesSpec Rows.fnGrowthProvesRow = true := JFacts.joined_of j0 JFacts.laidOut JFacts.mapsRowed j3 j4 j5 JFacts.stops j7 JFacts.knobs j9 j10 j11 j12 j13 j14 j15 j16 j17 j18 j19 j20 j21 j22 j23 JFacts.heard JFacts.mayEnter j26 j27 j28 j29 j30 j31
theorem over : Rows.fnGrowthProvesRow.holds Try.pinned (OpenSpec.ofChange Rows.fnGrowthProvesSpec) :=
  OpenClaim.holds_of_wide 6 Try.f6 rfl rfl rfl rfl rfl rfl rfl ⟨rfl, rfl, rfl, rfl, rfl⟩ rfl rfl rfl rfl rfl (by kernel_rfl) Try.func6 closed
    (of_decide_eq_true (by kernel_rfl)) (by unfold Func.isWrapper; first | (rw [if_pos (by decide +kernel)]; kernel_rfl) | (rw [if_neg (by decide +kernel)]; exact ⟨rfl, rfl⟩))
    (fun os started H enc _ => lifted os started H enc)
theorem proved : Rows.FnGrowthProvesSaid := over
end Go.Proofs.Ytflckegggopdnaa.fnGrowthProves
namespace Go.Proofs.Ytflckegggopdnaa
theorem fnGrowthProves_holds : Rows.FnGrowthProvesSaid := fnGrowthProves.proved
#print axioms fnGrowthProves_holds
end Go.Proofs.Ytflckegggopdnaa
