/- The row of the law FnExactClashOfGrowth: what the law's Go function computes is true, for every input that the row lets in; the plain law behind it is YtflckegggopdnaaPureFnExactClashOfGrowth. No condition beyond the row's own. (Written by the session's program pp.py.) -/
import Derived.Test.YtflckegggopdnaaRows
import Derived.WalkKit
import Derived.ProofKit
import Derived.OpenShut
import Derived.ShutString
import Derived.ChangeOld
import Derived.Below
import Derived.SizedLaws
import Derived.JoinedOf
import Derived.Test.YtflckegggopdnaaZCHP0
import Derived.Test.YtflckegggopdnaaZCHFLawsFnExactClashOfGrowth
import Derived.Test.YtflckegggopdnaaZCHP21
namespace Go.Proofs.Ytflckegggopdnaa.fnExactClashOfGrowth
open Go.ChangeShapes Go.WideShapes Go.ChangeAt Go.RowKit Go.Proofs.Ytflckegggopdnaa.Opening Go.Proofs.Ytflckegggopdnaa.B Go.Proofs.YtflckegggopdnaaW.PrintWords
set_option linter.unusedVariables false
theorem own : ownKnob Try.prog.godebug = none := by kernel_rfl
set_option maxRecDepth 100000 in
theorem lifted (os : Os) (started : os.Started) (H : Type) (enc : TypeId × Value → H) :
    ReturnsInHanded {} Try.checked os 4 .any (Rows.fnExactClashOfGrowthSpec.pre6 enc Try.prog Try.f4 Rows.fnExactClashOfGrowthRow.domain false) (Rows.fnExactClashOfGrowthSpec.post enc Try.prog Try.f4 false true false false) := by
  refine returnsInHanded_of_change_sized (C := Try.checked) own started (by kernel_rfl) Try.func4
    (ChangeSpec.witness6 (enc := enc) (C := Try.checked) false ⟨#[], #[.agg #[.int .i64 0, .int .u64 0, .int .u64 0, .int .u64 0, .int .u64 0], .agg #[.int .i64 0, .int .u64 0, .int .u64 0, .int .u64 0, .int .u64 0, .slice none 0 0], .int .i64 0, .string ByteArray.empty, .slice none 0 0], []⟩ 8 (by kernel_rfl) (by kernel_rfl) (by kernel_rfl) (by kernel_rfl)) ?_
  intro W base args ds gs before hval0 hW hcnd hsz0 _
  have hval : ∀ (j : Nat) t v, Try.f4.params[j]? = some t → args[j]? = some v → Value.okWide Try.prog W .any base t v := hval0
  have hW' := hW
  obtain ⟨p, q, hA0, hV, rfl, hfz, hnd⟩ := hW
  have hA : DataW.TrodAll enc Try.prog W 0 (fun _ => true) true Try.f4.params.toList args.toList ds p := hA0
  rw [Try.params4] at hA hval
  obtain ⟨v0, vs0, d0, ds0, p0, q0, hargs, rfl, rfl, h0, r0⟩ := trodAll_cons hA
  obtain ⟨v1, vs1, d1, ds1, p1, q1, rfl, rfl, rfl, h1, r1⟩ := trodAll_cons r0
  obtain ⟨v2, vs2, d2, ds2, p2, q2, rfl, rfl, rfl, h2, r2⟩ := trodAll_cons r1
  obtain ⟨v3, vs3, d3, ds3, p3, q3, rfl, rfl, rfl, h3, r3⟩ := trodAll_cons r2
  obtain ⟨v4, vs4, d4, ds4, p4, q4, rfl, rfl, rfl, h4, r4⟩ := trodAll_cons r3
  obtain ⟨rfl, rfl, rfl⟩ := trodAll_nil r4
  obtain rfl : args = #[v0, v1, v2, v3, v4] := by cases args; simp_all
  obtain ⟨rfl, rfl⟩ := trodVars_none hV
  have k0 := h0
  have lt0 : ∀ x ∈ p0, x.block < W.heap.size := by obtain ⟨m, hm⟩ := k0; exact DataW.trod_lt m _ _ _ hm
  obtain ⟨fuel0, hf0⟩ := h0
  obtain ⟨y0, K0, ok0⟩ := opens26 H enc W fuel0 _ _ hf0
  obtain ⟨cs0, rfl, hz0⟩ := okWide_struct Try.underlying26 (hval 0 26 v0 rfl rfl)
  have e0 := k26_open K0
  obtain rfl : cs0 = #[.int .i64 y0.f0, .int .u64 y0.f1.f0, .int .u64 y0.f1.f1, .int .u64 y0.f1.f2, .int .u64 y0.f1.f3] := by cases cs0; simpa [Value.cells] using e0
  have k1 := h1
  have lt1 : ∀ x ∈ p1, x.block < W.heap.size := by obtain ⟨m, hm⟩ := k1; exact DataW.trod_lt m _ _ _ hm
  obtain ⟨fuel1, hf1⟩ := h1
  obtain ⟨y1, K1, ok1⟩ := opens42 H enc W fuel1 _ _ hf1
  obtain ⟨cs1, rfl, hz1⟩ := okWide_struct Try.underlying42 (hval 1 42 v1 rfl rfl)
  obtain ⟨A1_5, c1_5, e1, hc1_5, hr1_5⟩ := k42_open K1
  obtain rfl : cs1 = #[.int .i64 y1.f0.f0, .int .u64 y1.f0.f1.f0, .int .u64 y1.f0.f1.f1, .int .u64 y1.f0.f1.f2, .int .u64 y1.f0.f1.f3, .slice A1_5 (y1.f1).length c1_5] := by cases cs1; simpa [Value.cells] using e1
  have k2 := h2
  have lt2 : ∀ x ∈ p2, x.block < W.heap.size := by obtain ⟨m, hm⟩ := k2; exact DataW.trod_lt m _ _ _ hm
  obtain ⟨fuel2, hf2⟩ := h2
  obtain ⟨y2, K2, ok2⟩ := (opens_int Try.underlying3) H enc W fuel2 _ _ hf2
  obtain ⟨q2, rfl⟩ := okWide_int Try.underlying3 (hval 2 3 v2 rfl rfl)
  have e2 := K2
  obtain rfl : q2 = y2 := by first | simpa [Value.cells, Kd.int, Kd.bool, Kd.string, Kd.scalar] using e2 | (simp [Value.cells, Kd.int, Kd.bool, Kd.string, Kd.scalar] at e2; exact e2)
  have k3 := h3
  have lt3 : ∀ x ∈ p3, x.block < W.heap.size := by obtain ⟨m, hm⟩ := k3; exact DataW.trod_lt m _ _ _ hm
  obtain ⟨fuel3, hf3⟩ := h3
  obtain ⟨y3, K3, ok3⟩ := (opens_string Try.underlying9) H enc W fuel3 _ _ hf3
  obtain ⟨q3, rfl⟩ := okWide_string Try.underlying9 (hval 3 9 v3 rfl rfl)
  have e3 := K3
  obtain rfl : q3 = y3 := by first | simpa [Value.cells, Kd.int, Kd.bool, Kd.string, Kd.scalar] using e3 | (simp [Value.cells, Kd.int, Kd.bool, Kd.string, Kd.scalar] at e3; exact e3)
  have k4 := h4
  have lt4 : ∀ x ∈ p4, x.block < W.heap.size := by obtain ⟨m, hm⟩ := k4; exact DataW.trod_lt m _ _ _ hm
  obtain ⟨fuel4, hf4⟩ := h4
  obtain ⟨y4, K4, ok4⟩ := (opens_slice Try.underlying40 (by kernel_rfl) opens24) H enc W fuel4 _ _ hf4
  obtain ⟨A4, len4, cap4, rfl⟩ := okWide_slice Try.underlying40 (hval 4 40 v4 rfl rfl)
  obtain ⟨B4, c4, e4, hc4, hr4⟩ := K4
  obtain ⟨rfl, rfl, rfl⟩ : A4 = B4 ∧ len4 = y4.length ∧ cap4 = c4 := by simpa [Value.cells] using e4
  clear hA0 hval0 hsz0
  obtain ⟨k, hp⟩ := Pure.FnExactClashOfGrowth y0 y1 q2 q3 y4 ok0 ok1 ok2 ok3 ok4
  refine (B.laws_FnExactClashOfGrowth.calls k (y0.f0) (y0.f1.f0) (y0.f1.f1) (y0.f1.f2) (y0.f1.f3) (y1.f0.f0) (y1.f0.f1.f0) (y1.f0.f1.f1) (y1.f0.f1.f2) (y1.f0.f1.f3) A1_5 c1_5 (y1.f1) q2 q3 A4 cap4 y4 true rfl W hr1_5 hc1_5 hr4 hc4 hp).mono fun e W' he => ?_
  obtain ⟨he, bel0⟩ := he
  have bel := bel0
  subst he
  exact ⟨_, rfl, _, _, _, [], _, [], hW', trodAll_mk1 (shut_bool Try.underlying4 _), (trodAll_cons_mk (Below.trod JFacts.laidOut (by kernel_rfl) (of_decide_eq_true (by kernel_rfl)) k0 bel lt0) (trodAll_cons_mk (Below.trod JFacts.laidOut (by kernel_rfl) (of_decide_eq_true (by kernel_rfl)) k1 bel lt1) (trodAll_cons_mk (Below.trod JFacts.laidOut (by kernel_rfl) (of_decide_eq_true (by kernel_rfl)) k2 bel lt2) (trodAll_cons_mk (Below.trod JFacts.laidOut (by kernel_rfl) (of_decide_eq_true (by kernel_rfl)) k3 bel lt3) (trodAll_cons_mk (Below.trod JFacts.laidOut (by kernel_rfl) (of_decide_eq_true (by kernel_rfl)) k4 bel lt4) trodAll_mk0))))), rfl, bel.frame _, fun h => by cases h⟩
theorem j0 : Rows.fnExactClashOfGrowthRow.wf (OpenSpec.ofChange Rows.fnExactClashOfGrowthSpec) = true := by kernel_rfl
theorem j3 : Try.f4.params.all (fun x => Try.prog.readableRec x) = true := by kernel_rfl
theorem j4 : namedTie Try.prog Rows.fnExactClashOfGrowthRow.named Rows.fnExactClashOfGrowthSpec.vars = true := by kernel_rfl
theorem j5 : (Rows.fnExactClashOfGrowthRow.stops == []) = true := by kernel_rfl
theorem j7 : (Rows.fnExactClashOfGrowthRow.knobs == []) = true := by kernel_rfl
theorem j9 : (Rows.fnExactClashOfGrowthRow.inPlace == Try.prog.inPlace 4) = true := by kernel_rfl
theorem j10 : (Rows.fnExactClashOfGrowthRow.unfollowed == Try.prog.unfollowed 4) = true := by kernel_rfl
theorem j11 : (Rows.fnExactClashOfGrowthRow.recurses == Try.prog.recurses 4) = true := by kernel_rfl
theorem j12 : (Rows.fnExactClashOfGrowthRow.named == Try.prog.varsNamed 4) = true := by kernel_rfl
theorem j13 : (Rows.fnExactClashOfGrowthRow.maps == (Try.f4.params.toList ++ Rows.fnExactClashOfGrowthSpec.plain.varTypes Try.prog).any (fun x => Try.prog.mapsRec x)) = true := by kernel_rfl
theorem j14 : (Rows.fnExactClashOfGrowthRow.ifaces == (Try.f4.params.toList ++ Rows.fnExactClashOfGrowthSpec.plain.varTypes Try.prog).any (fun x => Try.prog.ifacesRec x)) = true := by kernel_rfl
theorem j15 : (Rows.fnExactClashOfGrowthRow.mapsOut == Try.prog.mapsAmong Try.f4.resultTypes.toList) = true := by kernel_rfl
theorem j16 : (Rows.fnExactClashOfGrowthRow.loops == (Try.f4.params.toList ++ Rows.fnExactClashOfGrowthSpec.plain.varTypes Try.prog).any (fun x => Try.prog.loopsFrom x)) = true := by kernel_rfl
theorem j17 : (Rows.fnExactClashOfGrowthRow.wideKeys == (Try.f4.params.toList ++ Rows.fnExactClashOfGrowthSpec.plain.varTypes Try.prog ++ Try.f4.resultTypes.toList).any (fun x => Try.prog.wideKeysFrom x)) = true := by kernel_rfl
theorem j18 : Rows.fnExactClashOfGrowthSpec.vars.all (fun x => Try.prog.varReadable x) = true := by kernel_rfl
theorem j19 : Try.f4.resultTypes.all (fun t => Try.prog.readableRec t && decide (t < Try.prog.types.size)) = true := by kernel_rfl
theorem j20 : (Rows.fnExactClashOfGrowthRow.ifacesOut == Try.f4.resultTypes.toList.any (fun x => Try.prog.ifacesRec x)) = true := by kernel_rfl
theorem j21 : (Rows.fnExactClashOfGrowthRow.loopsOut == Try.f4.resultTypes.toList.any (fun x => Try.prog.loopsFrom x)) = true := by kernel_rfl
theorem j22 : (Rows.fnExactClashOfGrowthRow.plainKeys == Try.prog.plainKeys) = true := by kernel_rfl
theorem j23 : Rows.fnExactClashOfGrowthRow.shortTexts.isNone = true := by kernel_rfl
theorem j26 : (Rows.fnExactClashOfGrowthRow.lifted == Try.prog.liftsFinal) = true := by rw [JFacts.lifts]; rfl
theorem j27 : (Try.prog.make == some Rows.fnExactClashOfGrowthRow.make) = true := by rw [JFacts.make]; rfl
theorem j28 : JFacts.kindsFact Try.prog Try.f4 Rows.fnExactClashOfGrowthRow = true := by kernel_rfl
theorem j29 : (Rows.fnExactClashOfGrowthRow.pinned == Rows.fnExactClashOfGrowthRow.pinnedBy) = true := by kernel_rfl
theorem j30 : (Rows.fnExactClashOfGrowthRow.veiled == (Try.f4.params.toList ++ Rows.fnExactClashOfGrowthSpec.plain.varTypes Try.prog ++ Try.f4.resultTypes.toList).any (fun x => Try.prog.veiledRec x)) = true := by kernel_rfl
theorem j31 : Rows.fnExactClashOfGrowthRow.veiledFits Try.prog Try.f4.params.toList (Try.f4.params.toList ++ Rows.fnExactClashOfGrowthSpec.plain.varTypes Try.prog ++ Try.f4.resultTypes.toList) = true := by kernel_rfl
theorem closed : joinedFacts Try.prog 4 Try.f4 Rows.fnExactClashOfGrowthSpec Rows.fnExactClashOfGrowthRow = true := JFacts.joined_of j0 JFacts.laidOut JFacts.mapsRowed j3 j4 j5 JFacts.stops j7 JFacts.knobs j9 j10 j11 j12 j13 j14 j15 j16 j17 j18 j19 j20 j21 j22 j23 JFacts.heard JFacts.mayEnter j26 j27 j28 j29 j30 j31
theorem over : Rows.fnExactClashOfGrowthRow.holds Try.pinned (OpenSpec.ofChange Rows.fnExactClashOfGrowthSpec) :=
  OpenClaim.holds_of_wide 4 Try.f4 rfl rfl rfl rfl rfl rfl rfl ⟨rfl, rfl, rfl, rfl, rfl⟩ rfl rfl rfl rfl rfl (by kernel_rfl) Try.func4 closed
    (of_decide_eq_true (by kernel_rfl)) (by unfold Func.isWrapper; first | (rw [if_pos (by decide +kernel)]; kernel_rfl) | (rw [if_neg (by decide +kernel)]; exact ⟨rfl, rfl⟩))
    (fun os started H enc _ => lifted os started H enc)
theorem proved : Rows.FnExactClashOfGrowthSaid := over
end Go.Proofs.Ytflckegggopdnaa.fnExactClashOfGrowth
namespace Go.Proofs.Ytflckegggopdnaa
theorem fnExactClashOfGrowth_holds : Rows.FnExactClashOfGrowthSaid := fnExactClashOfGrowth.proved
#print axioms fnExactClashOfGrowth_holds
end Go.Proofs.Ytflckegggopdnaa
