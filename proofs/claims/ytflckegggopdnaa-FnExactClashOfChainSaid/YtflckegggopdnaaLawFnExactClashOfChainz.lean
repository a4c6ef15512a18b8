/- The row of the law FnExactClashOfChain: what the law's Go function computes is true, for every input that the row lets in; the plain law behind it is YtflckegggopdnaaPureFnExactClashOfChain. No condition beyond the row's own. (Written by the session's program pp.py.) -/
import Derived.Test.YtflckegggopdnaaRows
import Derived.WalkKit
import Derived.ProofKit
import Derived.OpenShut
import Derived.ShutString
import Derived.ChangeOld
import Derived.Below
import Derived.SizedLaws
import Derived.JoinedOf
import Derived.Test.YtflckegggopdnaaZCCP22
set_option linter.unusedVariables false
namespace Go.Proofs.Ytflckegggopdnaa.fnExactClashOfChain
open Go.ChangeShapes Go.WideShapes Go.ChangeAt Go.RowKit Go.Proofs.Ytflckegggopdnaa.Opening Go.Proofs.Ytflckegggopdnaa.B Go.Proofs.YtflckegggopdnaaW
theorem own : ownKnob Try.prog.godebug = none := by kernel_rfl
set_option maxRecDepth 100000 in
theorem lifted (os : Os) (started : os.Started) (H : Type) (enc : TypeId × Value → H) :
    ReturnsInHanded {} Try.checked os 5 .any (Rows.fnExactClashOfChainSpec.pre6 enc Try.prog Try.f5 Rows.fnExactClashOfChainRow.domain false) (Rows.fnExactClashOfChainSpec.post enc Try.prog Try.f5 false true false false) := by
  refine returnsInHanded_of_change_sized (C := Try.checked) own started (by kernel_rfl) Try.func5
    (ChangeSpec.witness6 (enc := enc) (C := Try.checked) false ⟨#[], #[.agg #[.int .i64 0, .int .u64 0, .int .u64 0, .int .u64 0, .int .u64 0], .slice none 0 0, .int .i64 0, .string ByteArray.empty, .slice none 0 0, .string ByteArray.empty, .slice none 0 0], []⟩ 8 (by kernel_rfl) (by kernel_rfl) (by kernel_rfl) (by kernel_rfl)) ?_
  intro W base args ds gs before hval0 hW hcnd hsz0 _
  have hval : ∀ (j : Nat) t v, Try.f5.params[j]? = some t → args[j]? = some v → Value.okWide Try.prog W .any base t v := hval0
  have hW' := hW
  obtain ⟨p, q, hA0, hV, rfl, hfz, hnd⟩ := hW
  have hA : DataW.TrodAll enc Try.prog W 0 (fun _ => true) true Try.f5.params.toList args.toList ds p := hA0
  rw [Try.params5] at hA hval
  obtain ⟨v0, vs0, d0, ds0, p0, q0, hargs, rfl, rfl, h0, r0⟩ := trodAll_cons hA
  obtain ⟨v1, vs1, d1, ds1, p1, q1, rfl, rfl, rfl, h1, r1⟩ := trodAll_cons r0
  obtain ⟨v2, vs2, d2, ds2, p2, q2, rfl, rfl, rfl, h2, r2⟩ := trodAll_cons r1
  obtain ⟨v3, vs3, d3, ds3, p3, q3, rfl, rfl, rfl, h3, r3⟩ := trodAll_cons r2
  obtain ⟨v4, vs4, d4, ds4, p4, q4, rfl, rfl, rfl, h4, r4⟩ := trodAll_cons r3
  obtain ⟨v5, vs5, d5, ds5, p5, q5, rfl, rfl, rfl, h5, r5⟩ := trodAll_cons r4
  obtain ⟨v6, vs6, d6, ds6, p6, q6, rfl, rfl, rfl, h6, r6⟩ := trodAll_cons r5
  obtain ⟨rfl, rfl, rfl⟩ := trodAll_nil r6
  obtain rfl : args = #[v0, v1, v2, v3, v4, v5, v6] := by cases args; simp_all
  obtain ⟨rfl, rfl⟩ := trodVars_none hV
  have k0 := h0
  have lt0 : ∀ x ∈ p0, x.block < W.heap.size := by obtain ⟨m, hm⟩ := k0; exact DataW.trod_lt m _ _ _ hm
  obtain ⟨fuel0, hf0⟩ := h0
  obtain ⟨y0, K0, ok0⟩ := opens26 H enc W fuel0 _ _ hf0
  obtain ⟨cs0, rfl, hz0⟩ := okWide_struct Try.underlying26 (hval 0 26 v0 rfl rfl)
  have e0 := k26_open K0
  obtain rfl : cs0 = #[.int .i64 y0.f0, .int .u64 y0.f1.f0, .int .u64 y0.f1.f1, .int .u64 y0.f1.f2, .int .u64 y0.f1.f3] := by cases cs0; simpa [Value.cells] using e0
  have k1 := h1
  have lt1 : ∀ x ∈ p1, x.block < W.heap.size := by obtain ⟨m, hm⟩ := k1; exact DataW.trod_lt m _ _ _ hm
  obtain ⟨fuel1, hf1⟩ := h1
  obtain ⟨y1, K1, ok1⟩ := (opens_slice Try.underlying27 (by kernel_rfl) opens42) H enc W fuel1 _ _ hf1
  obtain ⟨A1, len1, cap1, rfl⟩ := okWide_slice Try.underlying27 (hval 1 27 v1 rfl rfl)
  obtain ⟨B1, c1, e1, hc1, hr1⟩ := K1
  obtain ⟨rfl, rfl, rfl⟩ : A1 = B1 ∧ len1 = y1.length ∧ cap1 = c1 := by simpa [Value.cells] using e1
  have k2 := h2
  have lt2 : ∀ x ∈ p2, x.block < W.heap.size := by obtain ⟨m, hm⟩ := k2; exact DataW.trod_lt m _ _ _ hm
  obtain ⟨fuel2, hf2⟩ := h2
  obtain ⟨y2, K2, ok2⟩ := (opens_int Try.underlying3) H enc W fuel2 _ _ hf2
  obtain ⟨q2, rfl⟩ := okWide_int Try.underlying3 (hval 2 3 v2 rfl rfl)
  have e2 := K2
  obtain rfl : q2 = y2 := by first | simpa [Value.cells, Kd.int, Kd.bool, Kd.string, Kd.scalar] using e2 | (simp [Value.cells, Kd.int, Kd.bool, Kd.string, Kd.scalar] at e2; exact e2)
  have k3 := h3
  have lt3 : ∀ x ∈ p3, x.block < W.heap.size := by obtain ⟨m, hm⟩ := k3; exact DataW.trod_lt m _ _ _ hm
  obtain ⟨fuel3, hf3⟩ := h3
  obtain ⟨y3, K3, ok3⟩ := (opens_string Try.underlying9) H enc W fuel3 _ _ hf3
  obtain ⟨q3, rfl⟩ := okWide_string Try.underlying9 (hval 3 9 v3 rfl rfl)
  have e3 := K3
  obtain rfl : q3 = y3 := by first | simpa [Value.cells, Kd.int, Kd.bool, Kd.string, Kd.scalar] using e3 | (simp [Value.cells, Kd.int, Kd.bool, Kd.string, Kd.scalar] at e3; exact e3)
  have k4 := h4
  have lt4 : ∀ x ∈ p4, x.block < W.heap.size := by obtain ⟨m, hm⟩ := k4; exact DataW.trod_lt m _ _ _ hm
  obtain ⟨fuel4, hf4⟩ := h4
  obtain ⟨y4, K4, ok4⟩ := (opens_slice Try.underlying40 (by kernel_rfl) opens24) H enc W fuel4 _ _ hf4
  obtain ⟨A4, len4, cap4, rfl⟩ := okWide_slice Try.underlying40 (hval 4 40 v4 rfl rfl)
  obtain ⟨B4, c4, e4, hc4, hr4⟩ := K4
  obtain ⟨rfl, rfl, rfl⟩ : A4 = B4 ∧ len4 = y4.length ∧ cap4 = c4 := by simpa [Value.cells] using e4
  have k5 := h5
  have lt5 : ∀ x ∈ p5, x.block < W.heap.size := by obtain ⟨m, hm⟩ := k5; exact DataW.trod_lt m _ _ _ hm
  obtain ⟨fuel5, hf5⟩ := h5
  obtain ⟨y5, K5, ok5⟩ := (opens_string Try.underlying9) H enc W fuel5 _ _ hf5
  obtain ⟨q5, rfl⟩ := okWide_string Try.underlying9 (hval 5 9 v5 rfl rfl)
  have e5 := K5
  obtain rfl : q5 = y5 := by first | simpa [Value.cells, Kd.int, Kd.bool, Kd.string, Kd.scalar] using e5 | (simp [Value.cells, Kd.int, Kd.bool, Kd.string, Kd.scalar] at e5; exact e5)
  have k6 := h6
  have lt6 : ∀ x ∈ p6, x.block < W.heap.size := by obtain ⟨m, hm⟩ := k6; exact DataW.trod_lt m _ _ _ hm
  obtain ⟨fuel6, hf6⟩ := h6
  obtain ⟨y6, K6, ok6⟩ := (opens_slice Try.underlying40 (by kernel_rfl) opens24) H enc W fuel6 _ _ hf6
  obtain ⟨A6, len6, cap6, rfl⟩ := okWide_slice Try.underlying40 (hval 6 40 v6 rfl rfl)
  obtain ⟨B6, c6, e6, hc6, hr6⟩ := K6
  obtain ⟨rfl, rfl, rfl⟩ : A6 = B6 ∧ len6 = y6.length ∧ cap6 = c6 := by simpa [Value.cells] using e6
  clear hA0 hval0 hsz0
  obtain ⟨k, hp⟩ := Pure.FnExactClashOfChain y0 y1 q2 q3 y4 q5 y6 ok0 ok1 ok2 ok3 ok4 ok5 ok6
  refine (B.laws_FnExactClashOfChain.calls k (y0.f0) (y0.f1.f0) (y0.f1.f1) (y0.f1.f2) (y0.f1.f3) A1 cap1 y1 q2 q3 A4 cap4 y4 q5 A6 cap6 y6 true rfl W hr1 hc1 hr4 hc4 hr6 hc6 hp).mono fun e W' he => ?_
  obtain ⟨he, bel0⟩ := he
  have bel := bel0
  subst he
  exact ⟨_, rfl, _, _, _, [], _, [], hW', trodAll_mk1 (shut_bool Try.underlying4 _), (trodAll_cons_mk (Below.trod JFacts.laidOut (by kernel_rfl) (of_decide_eq_true (by kernel_rfl)) k0 bel lt0) (trodAll_cons_mk (Below.trod JFacts.laidOut (by kernel_rfl) (of_decide_eq_true (by kernel_rfl)) k1 bel lt1) (trodAll_cons_mk (Below.trod JFacts.laidOut (by kernel_rfl) (of_decide_eq_true (by kernel_rfl)) k2 bel lt2) (trodAll_cons_mk (Below.trod JFacts.laidOut (by kernel_rfl) (of_decide_eq_true (by kernel_rfl)) k3 bel lt3) (trodAll_cons_mk (Below.trod JFacts.laidOut (by kernel_rfl) (of_decide_eq_true (by kernel_rfl)) k4 bel lt4) (trodAll_cons_mk (Below.trod JFacts.laidOut (by kernel_rfl) (of_decide_eq_true (by kernel_rfl)) k5 bel lt5) (trodAll_cons_mk (Below.trod JFacts.laidOut (by kernel_rfl) (of_decide_eq_true (by kernel_rfl)) k6 bel lt6) trodAll_mk0))))))), rfl, bel.frame _, fun h => by cases h⟩
theorem j0 : Rows.fnExactClashOfChainRow.wf (OpenSpec.ofChange Rows.fnExactClashOfChainSpec) = true := by kernel_rfl
theorem j3 : Try.f5.params.all (fun x => Try.prog.readableRec x) = true := by kernel_rfl
theorem j4 : namedTie Try.prog Rows.fnExactClashOfChainRow.named Rows.fnExactClashOfChainSpec.vars = true := by kernel_rfl
theorem j5 : (Rows.fnExactClashOfChainRow.stops == []) = true := by kernel_rfl
theorem j7 : (Rows.fnExactClashOfChainRow.knobs == []) = true := by kernel_rfl
theorem j9 : (Rows.fnExactClashOfChainRow.inPlace == Try.prog.inPlace 5) = true := by kernel_rfl
theorem j10 : (Rows.fnExactClashOfChainRow.unfollowed == Try.prog.unfollowed 5) = true := by kernel_rfl
theorem j11 : (Rows.fnExactClashOfChainRow.recurses == Try.prog.recurses 5) = true := by kernel_rfl
theorem j12 : (Rows.fnExactClashOfChainRow.named == Try.prog.varsNamed 5) = true := by kernel_rfl
theorem j13 : (Rows.fnExactClashOfChainRow.maps == (Try.f5.params.toList ++ Rows.fnExactClashOfChainSpec.plain.varTypes Try.prog).any (fun x => Try.prog.mapsRec x)) = true := by kernel_rfl
theorem j14 : (Rows.fnExactClashOfChainRow.ifaces == (Try.f5.params.toList ++ Rows.fnExactClashOfChainSpec.plain.varTypes Try.prog).any (fun x => Try.prog.ifacesRec x)) = true := by kernel_rfl
theorem j15 : (Rows.fnExactClashOfChainRow.mapsOut == Try.prog.mapsAmong Try.f5.resultTypes.toList) = true := by kernel_rfl
theorem j16 : (Rows.fnExactClashOfChainRow.loops == (Try.f5.params.toList ++ Rows.fnExactClashOfChainSpec.plain.varTypes Try.prog).any (fun x => Try.prog.loopsFrom x)) = true := by kernel_rfl
theorem j17 : (Rows.fnExactClashOfChainRow.wideKeys == (Try.f5.params.toList ++ Rows.fnExactClashOfChainSpec.plain.varTypes Try.prog ++ Try.f5.resultTypes.toList).any (fun x => Try.prog.wideKeysFrom x)) = true := by kernel_rfl
theorem j18 : Rows.fnExactClashOfChainSpec.vars.all (fun x => Try.prog.varReadable x) = true := by kernel_rfl
theorem j19 : Try.f5.resultTypes.all (fun t => Try.prog.readableRec t && decide (t < Try.prog.types.size)) = true := by kernel_rfl
theorem j20 : (Rows.fnExactClashOfChainRow.ifacesOut == Try.f5.resultTypes.toList.any (fun x => Try.prog.ifacesRec x)) = true := by kernel_rfl
theorem j21 : (Rows.fnExactClashOfChainRow.loopsOut == Try.f5.resultTypes.toList.any (fun x => Try.prog.loopsFrom x)) = true := by kernel_rfl
theorem j22 : (Rows.fnExactClashOfChainRow.plainKeys == Try.prog.plainKeys) = true := by kernel_rfl
theorem j23 : Rows.fnExactClashOfChainRow.shortTexts.isNone = true := by kernel_rfl
theorem j26 : (Rows.fnExactClashOfChainRow.lifted == Try.prog.liftsFinal) = true := by rw [JFacts.lifts]; rfl
theorem j27 : (Try.prog.make == some Rows.fnExactClashOfChainRow.make) = true := by rw [JFacts.make]; rfl
theorem j28 : JFacts.kindsFact Try.prog Try.f5 Rows.fnExactClashOfChainRow = true := by kernel_rfl
theorem j29 : (Rows.fnExactClashOfChainRow.pinned == Rows.fnExactClashOfChainRow.pinnedBy) = true := by kernel_rfl
theorem j30 : (Rows.fnExactClashOfChainRow.veiled == (Try.f5.params.toList ++ Rows.fnExactClashOfChainSpec.plain.varTypes Try.prog ++ Try.f5.resultTypes.toList).any (fun x => Try.prog.veiledRec x)) = true := by kernel_rfl
theorem j31 : Rows.fnExactClashOfChainRow.veiledFits Try.prog Try.f5.params.toList (Try.f5.params.toList ++ Rows.fnExactClashOfChainSpec.plain.varTypes Try.prog ++ Try.f5.resultTypes.toList) = true := by kernel_rfl
theorem closed : joinedFacts Try.prog 5 Try.f5 Rows.fnExactClashOfChainSpec Rows.fnExactClashOfChainRow = true := JFacts.joined_of j0 JFacts.laidOut JFacts.mapsRowed j3 j4 j5 JFacts.stops j7 JFacts.knobs j9 j10 j11 j12 j13 j14 j15 j16 j17 j18 j19 j20 j21 j22 j23 JFacts.heard JFacts.mayEnter j26 j27 j28 j29 j30 j31
theorem over : Rows.fnExactClashOfChainRow.holds Try.pinned (OpenSpec.ofChange Rows.fnExactClashOfChainSpec) :=
  OpenClaim.holds_of_wide 5 Try.f5 rfl rfl rfl rfl rfl rfl rfl ⟨rfl, rfl, rfl, rfl, rfl⟩ rfl rfl rfl rfl rfl (by kernel_rfl) Try.func5 closed
    (of_decide_eq_true (by kernel_rfl)) (by unfold Func.isWrapper; first | (rw [if_pos (by decide +kernel)]; kernel_rfl) | (rw [if_neg (by decide +kernel)]; exact ⟨rfl, rfl⟩))
    (fun os started H enc _ => lifted os started H enc)
theorem proved : Rows.FnExactClashOfChainSaid := over
end Go.Proofs.Ytflckegggopdnaa.fnExactClashOfChain
namespace Go.Proofs.Ytflckegggopdnaa
theorem fnExactClashOfChain_holds : Rows.FnExactClashOfChainSaid := fnExactClashOfChain.proved
#print axioms fnExactClashOfChain_holds
end Go.Proofs.Ytflckegggopdnaa
