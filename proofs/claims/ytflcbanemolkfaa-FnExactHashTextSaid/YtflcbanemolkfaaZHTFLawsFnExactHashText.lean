/- What the Go functions loop.example/belfry/laws.FnExactHashText do is what the Lean functions .f of their names here say; condition: .f gives an answer. (Written by the session's program pp.py over the kit's print; Lean checks it.) -/
import Derived.Test.YtflcbanemolkfaaZHTK
import Derived.Test.YtflcbanemolkfaaZHTM
import Derived.Test.YtflcbanemolkfaaZHTFSpecHashText
import Derived.Test.YtflcbanemolkfaaZHTGLawD1
import Derived.Test.YtflcbanemolkfaaZHTHHashText
namespace Go.Proofs.Ytflcbanemolkfaa.B
open Go.RowKit Go.Proofs.YtflcbanemolkfaaW.PrintWords Go.Proofs.YtflcbanemolkfaaW.PrintLast Go.Proofs.YtflcbanemolkfaaW.PrintMore
attribute [local go_sem] max2_int min2_int max_two min_two max_three min_three max_four min_four
set_option linter.unusedVariables false
set_option linter.unusedSimpArgs false
section
def laws_FnExactHashText.f (k : Nat) (a0_0 : Int) (a0_1 : Int) (a0_2 : Int) (a0_3 : Int) : Option (Bool) := (laws_toDigest.f a0_0 a0_1 a0_2 a0_3).bind fun bt153 => ((spec_HashText.f k bt153.1 bt153.2.1 bt153.2.2.1 bt153.2.2.2).bind fun t157 => ((laws_toDigest.f a0_0 a0_1 a0_2 a0_3).bind fun bt158 => ((impl_HashText.f k bt158.1 bt158.2.1 bt158.2.2.1 bt158.2.2.2).bind fun t162 => (if t162.toList = t157.toList then (some true) else (some false)))))
set_option maxHeartbeats 8000000 in
set_option maxRecDepth 100000 in
theorem laws_FnExactHashText.calls (k : Nat) (a0_0 : Int) (a0_1 : Int) (a0_2 : Int) (a0_3 : Int) (r : Bool) (hr_ : r = true) (w : World) (h : laws_FnExactHashText.f k a0_0 a0_1 a0_2 a0_3 = some r) :
    Calls Try.prog 3 #[.agg #[.int .u64 a0_0, .int .u64 a0_1, .int .u64 a0_2, .int .u64 a0_3]] w fun e w' => e = .returned (.bool r) ∧ Below w.heap.size w w' := by
  have hu24 := Try.underlying24
  have HB := Aside0.mk (Below.refl w.heap.size w)
  have H : ((laws_toDigest.f a0_0 a0_1 a0_2 a0_3).bind fun bt153 => ((spec_HashText.f k bt153.1 bt153.2.1 bt153.2.2.1 bt153.2.2.2).bind fun t157 => ((laws_toDigest.f a0_0 a0_1 a0_2 a0_3).bind fun bt158 => ((impl_HashText.f k bt158.1 bt158.2.1 bt158.2.2.1 bt158.2.2.2).bind fun t162 => (if t162.toList = t157.toList then (some true) else (some false)))))) = some r := h
  clear h
  obtain ⟨⟨t153, t154, t155, t156⟩, A2, H⟩ := bnd_ H
  dsimp only at H
  obtain ⟨t157, A3, H⟩ := bnd_ H
  obtain ⟨⟨t158, t159, t160, t161⟩, A4, H⟩ := bnd_ H
  dsimp only at H
  obtain ⟨t162, A5, H⟩ := bnd_ H
  by_cases c6 : t162.toList = t157.toList
  · rw [if_pos c6] at H
    have c6b0 : (t162.toList == t157.toList) = true := beq_iff_eq.mpr c6
    have c6b1 : (t162.toList != t157.toList) = false := bne_eq_false_iff_eq.mpr c6
    clear c6
    obtain rfl := Option.some.inj H
    go_enter Try.func3, Try.ntmps3
    go_wp2_with (first | ((with_reducible refine gate_dst (N := 1) rfl ?_); refine boxE_ (cs := #[.int .u64 a0_0, .int .u64 a0_1, .int .u64 a0_2, .int .u64 a0_3]) (t := 24) ?_; intro gb152 hg w7 hbox hb; have BK152 := Aside0.mk (hbox); have GW152 := sizeB_ hg; have GE152 := sizeB_ hg; replace HB := stepB_ hb; clear hb hbox hg; obtain ⟨hcz8_0, hcz8_1, hcz8_2, hcz8_3, hfz8_0, hfz8_1, hfz8_2, hfz8_3⟩ := cz4_ BK152.out) | ((with_reducible refine gate_callee (f := 7) rfl ?_); refine goL_ (some 6) Try.func7 #[.agg #[.int .u64 a0_0, .int .u64 a0_1, .int .u64 a0_2, .int .u64 a0_3]] ?_; (with_reducible refine (laws_toDigest.calls a0_0 a0_1 a0_2 a0_3 t153 t154 t155 t156 _ A2.out).mono ?_); rintro e w9 ⟨rfl, hb⟩; refine ⟨_, rfl, ?_⟩; replace BK152 := blkBel_ BK152.out hb; replace HB := stepB_ hb; (try clear hb)) | ((with_reducible refine gate_callee (f := 6) rfl ?_); refine goL_ (some 7) Try.func6 #[.agg #[.int .u64 t153, .int .u64 t154, .int .u64 t155, .int .u64 t156]] ?_; (with_reducible refine (spec_HashText.calls k t153 t154 t155 t156 t157 _ A3.out).mono ?_); rintro e w10 ⟨rfl, hb⟩; refine ⟨_, rfl, ?_⟩; replace BK152 := blkBel_ BK152.out hb; replace HB := stepB_ hb; (try clear hb); obtain ⟨hcz11_0, hcz11_1, hcz11_2, hcz11_3, hfz11_0, hfz11_1, hfz11_2, hfz11_3⟩ := cz4_ BK152.out) | ((with_reducible refine gate_callee (f := 7) rfl ?_); refine goL_ (some 9) Try.func7 #[.agg #[.int .u64 a0_0, .int .u64 a0_1, .int .u64 a0_2, .int .u64 a0_3]] ?_; (with_reducible refine (laws_toDigest.calls a0_0 a0_1 a0_2 a0_3 t158 t159 t160 t161 _ A4.out).mono ?_); rintro e w12 ⟨rfl, hb⟩; refine ⟨_, rfl, ?_⟩; replace BK152 := blkBel_ BK152.out hb; replace HB := stepB_ hb; (try clear hb)) | ((with_reducible refine gate_callee (f := 8) rfl ?_); refine goL_ (some 10) Try.func8 #[.agg #[.int .u64 t158, .int .u64 t159, .int .u64 t160, .int .u64 t161]] ?_; (with_reducible refine (impl_HashText.calls k t158 t159 t160 t161 t162 _ A5.out).mono ?_); rintro e w13 ⟨rfl, hb⟩; refine ⟨_, rfl, ?_⟩; replace BK152 := blkBel_ BK152.out hb; replace HB := stepB_ hb; (try clear hb)))
    go_ret
    exact ⟨rfl_, bel_⟩
  · rw [if_neg c6] at H
    have c6b0 : (t162.toList == t157.toList) = false := beq_eq_false_iff_ne.mpr c6
    have c6b1 : (t162.toList != t157.toList) = true := bne_iff_ne.mpr c6
    exact absurd ((Option.some.inj H).trans hr_) (by decide)
end
end Go.Proofs.Ytflcbanemolkfaa.B
