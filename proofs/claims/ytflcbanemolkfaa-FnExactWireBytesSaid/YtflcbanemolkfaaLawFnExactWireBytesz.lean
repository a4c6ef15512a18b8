/- The row of the law FnExactWireBytes: what the law's Go function computes is true, for every input that the row lets in; the plain law behind it is YtflcbanemolkfaaPureFnExactWireBytes. No condition beyond the row's own. (Written by the session's program pp.py.) -/
import Derived.Test.YtflcbanemolkfaaRows
import Derived.WalkKit
import Derived.ProofKit
import Derived.OpenShut
import Derived.ShutString
import Derived.ChangeOld
import Derived.Below
import Derived.SizedLaws
import Derived.JoinedOf
import Derived.Test.YtflcbanemolkfaaZWBJFacts
import Derived.Test.YtflcbanemolkfaaZWBOpenK
import Derived.Test.YtflcbanemolkfaaZWBFLawsFnExactWireBytes
import Derived.Test.YtflcbanemolkfaaZWBPureFnExactWireBytes
namespace Go.Proofs.Ytflcbanemolkfaa.fnExactWireBytes
open Go.ChangeShapes Go.WideShapes Go.ChangeAt Go.RowKit Go.Proofs.Ytflcbanemolkfaa.Opening Go.Proofs.Ytflcbanemolkfaa.B Go.Proofs.YtflcbanemolkfaaW.PrintWords
set_option linter.unusedVariables false
theorem own : ownKnob Try.prog.godebug = none := by kernel_rfl
set_option maxRecDepth 100000 in
theorem lifted (os : Os) (started : os.Started) (H : Type) (enc : TypeId × Value → H) :
    ReturnsInHanded {} Try.checked os 5 .any (Rows.fnExactWireBytesSpec.pre6 enc Try.prog Try.f5 Rows.fnExactWireBytesRow.domain false) (Rows.fnExactWireBytesSpec.post enc Try.prog Try.f5 false true false false) := by
  refine returnsInHanded_of_change_sized (C := Try.checked) own started (by kernel_rfl) Try.func5
    (ChangeSpec.witness6 (enc := enc) (C := Try.checked) false ⟨#[], #[.agg #[.int .i64 0, .int .i64 0, .int .i64 0, .int .i64 0, .int .u64 0, .int .u64 0, .int .u64 0, .int .u64 0, .int .i64 0, .slice none 0 0, .slice none 0 0]], []⟩ 8 (by kernel_rfl) (by kernel_rfl) (by kernel_rfl) (by kernel_rfl)) ?_
  intro W base args ds gs before hval0 hW hcnd hsz0 _
  have hval : ∀ (j : Nat) t v, Try.f5.params[j]? = some t → args[j]? = some v → Value.okWide Try.prog W .any base t v := hval0
  have hW' := hW
  obtain ⟨p, q, hA0, hV, rfl, hfz, hnd⟩ := hW
  have hA : DataW.TrodAll enc Try.prog W 0 (fun _ => true) true Try.f5.params.toList args.toList ds p := hA0
  rw [Try.params5] at hA hval
  obtain ⟨v0, vs0, d0, ds0, p0, q0, hargs, rfl, rfl, h0, r0⟩ := trodAll_cons hA
  obtain ⟨rfl, rfl, rfl⟩ := trodAll_nil r0
  obtain rfl : args = #[v0] := by cases args; simp_all
  obtain ⟨rfl, rfl⟩ := trodVars_none hV
  have k0 := h0
  have lt0 : ∀ x ∈ p0, x.block < W.heap.size := by obtain ⟨m, hm⟩ := k0; exact DataW.trod_lt m _ _ _ hm
  obtain ⟨fuel0, hf0⟩ := h0
  obtain ⟨y0, K0, ok0⟩ := opens32 H enc W fuel0 _ _ hf0
  obtain ⟨cs0, rfl, hz0⟩ := okWide_struct Try.underlying32 (hval 0 32 v0 rfl rfl)
  obtain ⟨A0_9, c0_9, A0_10, c0_10, e0, hc0_9, hr0_9, hc0_10, hr0_10⟩ := k32_open K0
  obtain rfl : cs0 = #[.int .i64 y0.f0, .int .i64 y0.f1, .int .i64 y0.f2, .int .i64 y0.f3, .int .u64 y0.f4.f0, .int .u64 y0.f4.f1, .int .u64 y0.f4.f2, .int .u64 y0.f4.f3, .int .i64 y0.f5, .slice A0_9 (y0.f6).length c0_9, .slice A0_10 (y0.f7).length c0_10] := by cases cs0; simpa [Value.cells] using e0
  clear hA0 hval0 hsz0
  obtain ⟨k, hp⟩ := Pure.FnExactWireBytes y0 ok0
  refine (B.laws_FnExactWireBytes.calls k (y0.f0) (y0.f1) (y0.f2) (y0.f3) (y0.f4.f0) (y0.f4.f1) (y0.f4.f2) (y0.f4.f3) (y0.f5) A0_9 c0_9 (y0.f6) A0_10 c0_10 (y0.f7) true rfl W hr0_9 hc0_9 hr0_10 hc0_10 hp).mono fun e W' he => ?_
  obtain ⟨he, bel0⟩ := he
  have bel := bel0
  subst he
  exact ⟨_, rfl, _, _, _, [], _, [], hW', trodAll_mk1 (shut_bool Try.underlying4 _), (trodAll_cons_mk (Below.trod JFacts.laidOut (by kernel_rfl) (of_decide_eq_true (by kernel_rfl)) k0 bel lt0) trodAll_mk0), rfl, bel.frame _, fun h => by cases h⟩
theorem j0 : Rows.fnExactWireBytesRow.wf (OpenSpec.ofChange Rows.fnExactWireBytesSpec) = true := by kernel_rfl
theorem j3 : Try.f5.params.all (fun x => Try.prog.readableRec x) = true := by kernel_rfl
theorem j4 : namedTie Try.prog Rows.fnExactWireBytesRow.named Rows.fnExactWireBytesSpec.vars = true := by kernel_rfl
theorem j5 : (Rows.fnExactWireBytesRow.stops == []) = true := by kernel_rfl
theorem j7 : (Rows.fnExactWireBytesRow.knobs == []) = true := by kernel_rfl
theorem j9 : (Rows.fnExactWireBytesRow.inPlace == Try.prog.inPlace 5) = true := by kernel_rfl
theorem j10 : (Rows.fnExactWireBytesRow.unfollowed == Try.prog.unfollowed 5) = true := by kernel_rfl
theorem j11 : (Rows.fnExactWireBytesRow.recurses == Try.prog.recurses 5) = true := by kernel_rfl
theorem j12 : (Rows.fnExactWireBytesRow.named == Try.prog.varsNamed 5) = true := by kernel_rfl
theorem j13 : (Rows.fnExactWireBytesRow.maps == (Try.f5.params.toList ++ Rows.fnExactWireBytesSpec.plain.varTypes Try.prog).any (fun x => Try.prog.mapsRec x)) = true := by kernel_rfl
theorem j14 : (Rows.fnExactWireBytesRow.ifaces == (Try.f5.params.toList ++ Rows.fnExactWireBytesSpec.plain.varTypes Try.prog).any (fun x => Try.prog.ifacesRec x)) = true := by kernel_rfl
theorem j15 : (Rows.fnExactWireBytesRow.mapsOut == Try.prog.mapsAmong Try.f5.resultTypes.toList) = true := by kernel_rfl
theorem j16 : (Rows.fnExactWireBytesRow.loops == (Try.f5.params.toList ++ Rows.fnExactWireBytesSpec.plain.varTypes Try.prog).any (fun x => Try.prog.loopsFrom x)) = true := by kernel_rfl
theorem j17 : (Rows.fnExactWireBytesRow.wideKeys == (Try.f5.params.toList ++ Rows.fnExactWireBytesSpec.plain.varTypes Try.prog ++ Try.f5.resultTypes.toList).any (fun x => Try.prog.wideKeysFrom x)) = true := by kernel_rfl
theorem j18 : Rows.fnExactWireBytesSpec.vars.all (fun x => Try.prog.varReadable x) = true := by kernel_rfl
theorem j19 : Try.f5.resultTypes.all (fun t => Try.prog.readableRec t && decide (t < Try.prog.types.size)) = true := by kernel_rfl
theorem j20 : (Rows.fnExactWireBytesRow.ifacesOut == Try.f5.resultTypes.toList.any (fun x => Try.prog.ifacesRec x)) = true := by kernel_rfl
theorem j21 : (Rows.fnExactWireBytesRow.loopsOut == Try.f5.resultTypes.toList.any (fun x => Try.prog.loopsFrom x)) = true := by kernel_rfl
theorem j22 : (Rows.fnExactWireBytesRow.plainKeys == Try.prog.plainKeys) = true := by kernel_rfl
theorem j23 : Rows.fnExactWireBytesRow.shortTexts.isNone = true := by kernel_rfl
theorem j26 : (Rows.fnExactWireBytesRow.lifted == Try.prog.liftsFinal) = true := by rw [JFacts.lifts]; rfl
theorem j27 : (Try.prog.make == some Rows.fnExactWireBytesRow.make) = true := by rw [JFacts.make]; rfl
theorem j28 : JFacts.kindsFact Try.prog Try.f5 Rows.fnExactWireBytesRow = true := by kernel_rfl
theorem j29 : (Rows.fnExactWireBytesRow.pinned == Rows.fnExactWireBytesRow.pinnedBy) = true := by kernel_rfl
theorem j30 : (Rows.fnExactWireBytesRow.veiled == (Try.f5.params.toList ++ Rows.fnExactWireBytesSpec.plain.varTypes Try.prog ++ Try.f5.resultTypes.toList).any (fun x => Try.prog.veiledRec x)) = true := by kernel_rfl
theorem j31 : Rows.fnExactWireBytesRow.veiledFits Try.prog Try.f5.params.toList (Try.f5.params.toList ++ Rows.fnExactWireBytesSpec.plain.varTypes Try.prog ++ Try.f5.resultTypes.toList) = true := by kernel_rfl
theorem closed : joinedFacts Try.prog 5 Try.f5 Rows.fnExactWireBytesSpec Rows.fnExactWireBytesRow = true := JFacts.joined_of j0 JFacts.laidOut JFacts.mapsRowed j3 j4 j5 JFacts.stops j7 JFacts.knobs j9 j10 j11 j12 j13 j14 j15 j16 j17 j18 j19 j20 j21 j22 j23 JFacts.heard JFacts.mayEnter j26 j27 j28 j29 j30 j31
theorem over : Rows.fnExactWireBytesRow.holds Try.pinned (OpenSpec.ofChange Rows.fnExactWireBytesSpec) :=
  OpenClaim.holds_of_wide 5 Try.f5 rfl rfl rfl rfl rfl rfl rfl ⟨rfl, rfl, rfl, rfl, rfl⟩ rfl rfl rfl rfl rfl (by kernel_rfl) Try.func5 closed
    (of_decide_eq_true (by kernel_rfl)) (by unfold Func.isWrapper; first | (rw [if_pos (by decide +kernel)]; kernel_rfl) | (rw [if_neg (by decide +kernel)]; exact ⟨rfl, rfl⟩))
    (fun os started H enc _ => lifted os started H enc)
theorem proved : Rows.FnExactWireBytesSaid := over
end Go.Proofs.Ytflcbanemolkfaa.fnExactWireBytes
namespace Go.Proofs.Ytflcbanemolkfaa
theorem fnExactWireBytes_holds : Rows.FnExactWireBytesSaid := fnExactWireBytes.proved
#print axioms fnExactWireBytes_holds
end Go.Proofs.Ytflcbanemolkfaa
