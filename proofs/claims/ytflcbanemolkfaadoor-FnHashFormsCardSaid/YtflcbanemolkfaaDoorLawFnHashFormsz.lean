/- The row of the law FnHashForms: what the law's Go function computes is true, for every input that the row lets in; the plain law behind it is YtflcbanemolkfaaDoorPureFnHashForms. No condition beyond the row's own. (Written by the session's program pp.py.) -/
import Derived.Test.YtflcbanemolkfaaDoorRows
import Derived.LaidLaws
import Derived.Test.YtflcbanemolkfaaDoorTie
import Derived.Test.YtflcbanemolkfaaDoorCards
import Derived.SevenTiedAt
import Derived.ChangeSame
import Derived.ChangeVars
import Derived.WalkKit
import Derived.ProofKit
import Derived.OpenShut
import Derived.ShutString
import Derived.ChangeOld
import Derived.Below
import Derived.SizedLaws
import Derived.JoinedOf
import Derived.KernelRfl
import Derived.Test.YtflcbanemolkfaaDoorZHFJFacts
import Derived.Test.YtflcbanemolkfaaDoorZHFOpens
import Derived.Test.YtflcbanemolkfaaDoorZHFK
import Derived.Test.YtflcbanemolkfaaDoorZHFFLawsFnHashForms
import Derived.Test.YtflcbanemolkfaaDoorZHFPureFnHashForms
import Derived.Test.YtflcbanemolkfaaDoorZHFHLaid
namespace Go.Proofs.YtflcbanemolkfaaDoor.fnHashForms
open Go.ChangeShapes Go.WideShapes Go.ChangeAt Go.RowKit Go.Proofs.YtflcbanemolkfaaDoor.Opening Go.Proofs.YtflcbanemolkfaaDoor.B Go.Proofs.YtflcbanemolkfaaDoorW.PrintWords
set_option linter.unusedVariables false
theorem own : ownKnob Tryd.prog.godebug = none := by kernel_rfl
set_option maxRecDepth 100000 in
theorem lifted (os : Os) (started : os.Started) (H : Type) (enc : TypeId × Value → H) :
    ReturnsInHanded {} Tryd.checked os 4 .any (fun w args => (Rows.fnHashFormsSpec.pre enc Tryd.prog Tryd.f4 Rows.fnHashFormsRow.domain false w args ∧ laidMet Tryd.prog [("encoding/hex.ErrLength", Rows.laid_encoding_hex_ErrLength)] w) ∧ sizedMet enc Tryd.prog Tryd.f4 (OpenSpec.ofChange Rows.fnHashFormsSpec) false w args) (Rows.fnHashFormsSpec.post enc Tryd.prog Tryd.f4 false true false false) := by
  refine returnsInHanded_of_change_and (C := Tryd.checked) (X := fun w _ => laidMet Tryd.prog [("encoding/hex.ErrLength", Rows.laid_encoding_hex_ErrLength)] w) (fun _ _ _ hh h => h.of_heap hh) own started (by kernel_rfl) Tryd.func4
    (ChangeSpec.witness_at (enc := enc) (C := Tryd.checked) (os := os) (X := fun w _ => laidMet Tryd.prog [("encoding/hex.ErrLength", Rows.laid_encoding_hex_ErrLength)] w) false (Laid.laidWorld os) #[.slice none 0 0] 8 rfl (by kernel_rfl) (by kernel_rfl) (by kernel_rfl) (by kernel_rfl) (by kernel_rfl) (Laid.laidWorld_met os _)) ?_
  intro W base args ds gs before hval0 hW hcnd hsz0 hL _
  obtain ⟨ea_, hE⟩ := Laid.sentinel_of_laid hL
  have hval : ∀ (j : Nat) t v, Tryd.f4.params[j]? = some t → args[j]? = some v → Value.okWide Tryd.prog W .any base t v := hval0
  have hW' := hW
  obtain ⟨p, q, hA0, hV, rfl, hfz, hnd⟩ := hW
  have hA : DataW.TrodAll enc Tryd.prog W 0 (fun _ => true) true Tryd.f4.params.toList args.toList ds p := hA0
  rw [Tryd.params4] at hA hval
  obtain ⟨v0, vs0, d0, ds0, p0, q0, hargs, rfl, rfl, h0, r0⟩ := trodAll_cons hA
  obtain ⟨rfl, rfl, rfl⟩ := trodAll_nil r0
  obtain rfl : args = #[v0] := by cases args; simp_all
  obtain ⟨rfl, rfl⟩ := trodVars_none hV
  have k0 := h0
  have lt0 : ∀ x ∈ p0, x.block < W.heap.size := by obtain ⟨m, hm⟩ := k0; exact DataW.trod_lt m _ _ _ hm
  obtain ⟨fuel0, hf0⟩ := h0
  obtain ⟨y0, K0, ok0⟩ := (opens_slice Tryd.underlying29 (by kernel_rfl) (opens_int Tryd.underlying5)) H enc W fuel0 _ _ hf0
  obtain ⟨A0, len0, cap0, rfl⟩ := okWide_slice Tryd.underlying29 (hval 0 29 v0 rfl rfl)
  obtain ⟨B0, c0, e0, hc0, hr0⟩ := K0
  obtain ⟨rfl, rfl, rfl⟩ : A0 = B0 ∧ len0 = y0.length ∧ cap0 = c0 := by simpa [Value.cells] using e0
  clear hA0 hval0 hsz0
  obtain ⟨k, hp⟩ := Pure.FnHashForms y0 ok0
  refine (B.laws_FnHashForms.calls k A0 cap0 y0 true rfl W hr0 hc0 ea_ hE hp).mono fun e W' he => ?_
  obtain ⟨he, bel0⟩ := he
  have bel := bel0
  subst he
  exact ⟨_, rfl, _, _, _, [], _, [], hW', trodAll_mk1 (shut_bool Tryd.underlying4 _), (trodAll_cons_mk (Below.trod JFacts.laidOut (by kernel_rfl) (of_decide_eq_true (by kernel_rfl)) k0 bel lt0) trodAll_mk0), rfl, bel.frame _, fun h => by cases h⟩
theorem j0 : Rows.fnHashFormsRow.wf (OpenSpec.ofChange Rows.fnHashFormsSpec) = true := by kernel_rfl
theorem j3 : Tryd.f4.params.all (fun x => Tryd.prog.readableRec x) = true := by kernel_rfl
theorem j4 : namedTie Tryd.prog Rows.fnHashFormsRow.named Rows.fnHashFormsSpec.vars = true := by kernel_rfl
theorem j5 : (Rows.fnHashFormsRow.stops == []) = true := by kernel_rfl
theorem j7 : (Rows.fnHashFormsRow.knobs == []) = true := by kernel_rfl
theorem j9 : (Rows.fnHashFormsRow.inPlace == Tryd.prog.inPlace 4) = true := by kernel_rfl
theorem j10 : (Rows.fnHashFormsRow.unfollowed == Tryd.prog.unfollowed 4) = true := by kernel_rfl
theorem j11 : (Rows.fnHashFormsRow.recurses == Tryd.prog.recurses 4) = true := by kernel_rfl
theorem j12 : (Rows.fnHashFormsRow.named == Tryd.prog.varsNamed 4) = true := by kernel_rfl
theorem j13 : (Rows.fnHashFormsRow.maps == (Tryd.f4.params.toList ++ Rows.fnHashFormsSpec.plain.varTypes Tryd.prog).any (fun x => Tryd.prog.mapsRec x)) = true := by kernel_rfl
theorem j14 : (Rows.fnHashFormsRow.ifaces == (Tryd.f4.params.toList ++ Rows.fnHashFormsSpec.plain.varTypes Tryd.prog).any (fun x => Tryd.prog.ifacesRec x)) = true := by kernel_rfl
theorem j15 : (Rows.fnHashFormsRow.mapsOut == Tryd.prog.mapsAmong Tryd.f4.resultTypes.toList) = true := by kernel_rfl
theorem j16 : (Rows.fnHashFormsRow.loops == (Tryd.f4.params.toList ++ Rows.fnHashFormsSpec.plain.varTypes Tryd.prog).any (fun x => Tryd.prog.loopsFrom x)) = true := by kernel_rfl
theorem j17 : (Rows.fnHashFormsRow.wideKeys == (Tryd.f4.params.toList ++ Rows.fnHashFormsSpec.plain.varTypes Tryd.prog ++ Tryd.f4.resultTypes.toList).any (fun x => Tryd.prog.wideKeysFrom x)) = true := by kernel_rfl
theorem j18 : Rows.fnHashFormsSpec.vars.all (fun x => Tryd.prog.varReadable x) = true := by kernel_rfl
theorem j19 : Tryd.f4.resultTypes.all (fun t => Tryd.prog.readableRec t && decide (t < Tryd.prog.types.size)) = true := by kernel_rfl
theorem j20 : (Rows.fnHashFormsRow.ifacesOut == Tryd.f4.resultTypes.toList.any (fun x => Tryd.prog.ifacesRec x)) = true := by kernel_rfl
theorem j21 : (Rows.fnHashFormsRow.loopsOut == Tryd.f4.resultTypes.toList.any (fun x => Tryd.prog.loopsFrom x)) = true := by kernel_rfl
theorem j22 : (Rows.fnHashFormsRow.plainKeys == Tryd.prog.plainKeys) = true := by kernel_rfl
theorem j23 : Rows.fnHashFormsRow.shortTexts.isNone = true := by kernel_rfl
theorem j26 : (Rows.fnHashFormsRow.lifted == Tryd.prog.liftsFinal) = true := by rw [JFacts.lifts]; rfl
theorem j27 : (Tryd.prog.make == some Rows.fnHashFormsRow.make) = true := by rw [JFacts.make]; rfl
theorem j28 : JFacts.kindsFact Tryd.prog Tryd.f4 Rows.fnHashFormsRow = true := by kernel_rfl
theorem j29 : (Rows.fnHashFormsRow.pinned == Rows.fnHashFormsRow.pinnedBy) = true := by kernel_rfl
theorem j30 : (Rows.fnHashFormsRow.veiled == (Tryd.f4.params.toList ++ Rows.fnHashFormsSpec.plain.varTypes Tryd.prog ++ Tryd.f4.resultTypes.toList).any (fun x => Tryd.prog.veiledRec x)) = true := by kernel_rfl
theorem j31 : Rows.fnHashFormsRow.veiledFits Tryd.prog Tryd.f4.params.toList (Tryd.f4.params.toList ++ Rows.fnHashFormsSpec.plain.varTypes Tryd.prog ++ Tryd.f4.resultTypes.toList) = true := by kernel_rfl
theorem closed : joinedFacts Tryd.prog 4 Tryd.f4 Rows.fnHashFormsSpec Rows.fnHashFormsRow = true := JFacts.joined_of j0 JFacts.laidOut JFacts.mapsRowed j3 j4 j5 JFacts.stops j7 JFacts.knobs j9 j10 j11 j12 j13 j14 j15 j16 j17 j18 j19 j20 j21 j22 j23 JFacts.heard JFacts.mayEnter j26 j27 j28 j29 j30 j31
theorem over : Rows.fnHashFormsRow.holds Tryd.pinned (OpenSpec.ofChange Rows.fnHashFormsSpec) :=
  OpenClaim.holds_of_wide 4 Tryd.f4 rfl rfl rfl rfl rfl rfl rfl ⟨rfl, rfl, rfl, rfl, rfl⟩ rfl rfl rfl rfl rfl (by kernel_rfl) Tryd.func4 closed
    (of_decide_eq_true (by kernel_rfl)) (by unfold Func.isWrapper; first | (rw [if_pos (by decide +kernel)]; kernel_rfl) | (rw [if_neg (by decide +kernel)]; exact ⟨rfl, rfl⟩))
    (fun os started H enc _ => lifted os started H enc)
theorem proved : Rows.FnHashFormsSaid := over
end Go.Proofs.YtflcbanemolkfaaDoor.fnHashForms
namespace Go.Proofs.YtflcbanemolkfaaDoor
theorem fnHashForms_holds : Rows.FnHashFormsSaid := fnHashForms.proved
theorem fnHashFormsCard_holds : Rows.FnHashFormsCardSaid :=
  Claim7.holds_tied_plain_at .later [] [.sentinel] true Rows.fnHashFormsCard.stood.harness false
    fnHashForms_holds (fun _ h => by cases h) (by kernel_rfl) (fun _ h => by cases h) fnHashForms_row_tie rfl ⟨rfl, rfl⟩ (by kernel_rfl) rfl
    (fun f fn hf hfn => by
      obtain rfl : f = 4 := Option.some.inj ((show Tryd.prog.funcNamed "loop.example/belfry/laws.FnHashForms" = some 4 by kernel_rfl).symm.trans hf) |>.symm
      obtain rfl : fn = Tryd.f4 := (Option.some.inj (Tryd.func4.symm.trans hfn)).symm
      exact ⟨by kernel_rfl, fun j t ht => by
        rw [Tryd.params4] at ht
        have h3 : t = 29 := by
          rcases j with _ | j
          · simpa using ht.symm
          · simp at ht
        subst h3
        exact (show Tryd.prog.wantsStandIn 29 = false by kernel_rfl)⟩)
    (by kernel_rfl)
#print axioms fnHashFormsCard_holds
end Go.Proofs.YtflcbanemolkfaaDoor
