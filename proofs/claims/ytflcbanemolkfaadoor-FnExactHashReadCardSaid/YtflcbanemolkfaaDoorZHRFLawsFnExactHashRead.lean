/- What the Go functions loop.example/belfry/laws.FnExactHashRead do is what the Lean functions .f of their names here say; condition: .f gives an answer. (Written by the session's program pp.py over the kit's print; Lean checks it.) -/
import Derived.Test.YtflcbanemolkfaaDoorZHRK
import Derived.Test.YtflcbanemolkfaaDoorZHRM
import Derived.Test.YtflcbanemolkfaaDoorZHRFImplHashRead
import Derived.Test.YtflcbanemolkfaaDoorZHRFSpecHashRead
import Derived.Test.YtflcbanemolkfaaDoorZHRGLawD1
namespace Go.Proofs.YtflcbanemolkfaaDoor.B
open Go.RowKit Go.Proofs.YtflcbanemolkfaaDoorW.PrintWords Go.Proofs.YtflcbanemolkfaaDoorW.PrintLast Go.Proofs.YtflcbanemolkfaaDoorW.PrintMore
attribute [local go_sem] max2_int min2_int max_two min_two max_three min_three max_four min_four
set_option linter.unusedVariables false
set_option linter.unusedSimpArgs false
section
def laws_FnExactHashRead.f (k : Nat) (a0 : ByteArray) : Option (Bool) := if (a0.size : Int) > 1048576 then (some true) else ((spec_HashRead.f k a0).bind fun bt172 => ((impl_HashRead.f k a0).bind fun bt178 => ((laws_eqDigest.f bt178.1 bt178.2.1 bt178.2.2.1 bt178.2.2.2.1 bt172.1 bt172.2.1 bt172.2.2.1 bt172.2.2.2.1).bind fun t184 => (if t184 = true then (if (bt178.2.2.2.2 != bt172.2.2.2.2) = true then (some false) else (some true)) else (some false)))))
set_option maxHeartbeats 8000000 in
set_option maxRecDepth 100000 in
theorem laws_FnExactHashRead.calls (k : Nat) (a0 : ByteArray) (r : Bool) (hr_ : r = true) (w : World) (ea_ : Addr) (hE : w.cell? ⟨1, 0, none⟩ = some (EVp ea_)) (h : laws_FnExactHashRead.f k a0 = some r) :
    Calls Tryd.prog 3 #[.string a0] w fun e w' => e = .returned (.bool r) ∧ Below w.heap.size w w' := by
  have hu24 := Tryd.underlying24
  have HB := Aside0.mk (Below.refl w.heap.size w)
  have H : (if (a0.size : Int) > 1048576 then (some true) else ((spec_HashRead.f k a0).bind fun bt172 => ((impl_HashRead.f k a0).bind fun bt178 => ((laws_eqDigest.f bt178.1 bt178.2.1 bt178.2.2.1 bt178.2.2.2.1 bt172.1 bt172.2.1 bt172.2.2.1 bt172.2.2.2.1).bind fun t184 => (if t184 = true then (if (bt178.2.2.2.2 != bt172.2.2.2.2) = true then (some false) else (some true)) else (some false)))))) = some r := h
  clear h
  by_cases c2 : (a0.size : Int) > 1048576
  · rw [if_pos c2] at H
    have c2b0 : decide (1048576 < (a0.size : Int)) = true := decide_eq_true c2
    have c2b1 : decide (1048576 < a0.size) = true := decide_eq_true (by omega)
    clear c2
    obtain rfl := Option.some.inj H
    go_enter Tryd.func3, Tryd.ntmps3
    go_wp2
    go_ret
    exact ⟨rfl_, bel_⟩
  · rw [if_neg c2] at H
    have c2b0 : decide (1048576 < (a0.size : Int)) = false := decide_eq_false c2
    have c2b1 : decide (1048576 < a0.size) = false := decide_eq_false (by omega)
    clear c2
    obtain ⟨⟨t172, t173, t174, t175, t176⟩, A3, H⟩ := bnd_ H
    dsimp only at H
    obtain ⟨⟨t178, t179, t180, t181, t182⟩, A4, H⟩ := bnd_ H
    dsimp only at H
    obtain ⟨t184, A5, H⟩ := bnd_ H
    by_cases c6 : t184 = true
    · subst c6
      rw [if_pos rfl] at H
      by_cases c7 : (t182 != t176) = true
      · rw [if_pos c7] at H
        have c7b0 : (t182 != t176) = true := c7
        (try (have c7b1 : decide (t182 = t176) = false := by simpa using c7))
        (try (have c7b2 : (t182 == t176) = false := by simpa using c7))
        (try (have c7b3 : ¬ (t182 = t176) := by simpa using c7))
        clear c7
        exact absurd ((Option.some.inj H).trans hr_) (by decide)
      · rw [if_neg c7] at H
        have c7b0 : (t182 != t176) = false := by simpa using c7
        (try (have c7b1 : decide (t182 = t176) = true := by simpa using c7))
        (try (have c7b2 : (t182 == t176) = true := by simpa using c7))
        clear c7
        obtain rfl := Option.some.inj H
        go_enter Tryd.func3, Tryd.ntmps3
        go_wp2_with (first | ((with_reducible refine gate_callee (f := 5) rfl ?_); refine goL_ (some 12) Tryd.func5 #[.string a0] ?_; (with_reducible refine (spec_HashRead.calls k a0 t172 t173 t174 t175 t176 _ A3.out).mono ?_); rintro e w8 ⟨rfl, hb⟩; refine ⟨_, rfl, ?_⟩; replace HB := stepB_ hb; (try clear hb)) | ((with_reducible refine gate_dst (N := 3) rfl ?_); refine boxE_ (cs := #[.int .u64 0, .int .u64 0, .int .u64 0, .int .u64 0]) (t := 24) ?_; intro gb177 hg w9 hbox hb; have BK177 := Aside0.mk (hbox); have GW177 := sizeB_ hg; have GE177 := sizeB_ hg; replace HB := stepB_ hb; clear hb hbox hg; obtain ⟨hcz10_0, hcz10_1, hcz10_2, hcz10_3, hfz10_0, hfz10_1, hfz10_2, hfz10_3⟩ := cz4_ BK177.out) | ((with_reducible refine gate_callee (f := 6) rfl ?_); refine goL_ (some 17) Tryd.func6 #[.string a0] ?_; (with_reducible refine (impl_HashRead.calls k a0 t178 t179 t180 t181 t182 _ ea_ (pw_cell_below bel_ hE) A4.out).mono ?_); rintro e w11 ⟨rfl, hb⟩; refine ⟨_, rfl, ?_⟩; replace BK177 := blkPB_ (cs := #[.int .u64 t172, .int .u64 t173, .int .u64 t174, .int .u64 t175]) BK177.out hb; replace HB := stepB_ hb; (try clear hb)) | ((with_reducible refine gate_dst (N := 5) rfl ?_); refine boxE_ (cs := #[.int .u64 0, .int .u64 0, .int .u64 0, .int .u64 0]) (t := 24) ?_; intro gb183 hg w12 hbox hb; have BK183 := Aside0.mk (hbox); have GW183 := sizeB_ hg; have GE183 := sizeB_ hg; replace HB := stepB_ hb; have NB177_183 := neL_ BK177.out hg; have NB183_177 := neG_ BK177.out hg; replace BK177 := blkBel_ BK177.out hb; clear hb hbox hg; have hnb13 := NB183_177.out; have hnc13 := NB177_183.out; obtain ⟨hcz14_0, hcz14_1, hcz14_2, hcz14_3, hfz14_0, hfz14_1, hfz14_2, hfz14_3⟩ := cz4_ BK183.out; obtain ⟨hcz15_0, hcz15_1, hcz15_2, hcz15_3, hfz15_0, hfz15_1, hfz15_2, hfz15_3⟩ := cz4_ BK177.out) | ((with_reducible refine gate_callee (f := 7) rfl ?_); refine goL_ (some 22) Tryd.func7 #[.agg #[.int .u64 t178, .int .u64 t179, .int .u64 t180, .int .u64 t181], .agg #[.int .u64 t172, .int .u64 t173, .int .u64 t174, .int .u64 t175]] ?_; (with_reducible refine (laws_eqDigest.calls t178 t179 t180 t181 t172 t173 t174 t175 true _ A5.out).mono ?_); rintro e w16 ⟨rfl, hb⟩; refine ⟨_, rfl, ?_⟩; replace BK177 := blkBel_ BK177.out hb; replace BK183 := blkPB_ (cs := #[.int .u64 t178, .int .u64 t179, .int .u64 t180, .int .u64 t181]) BK183.out hb; replace HB := stepB_ hb; (try clear hb)))
        go_ret
        exact ⟨rfl_, bel_⟩
    · replace c6 := Bool.eq_false_iff.mpr c6
      subst c6
      rw [if_neg (show ¬ (false = true) by decide)] at H
      exact absurd ((Option.some.inj H).trans hr_) (by decide)
end
end Go.Proofs.YtflcbanemolkfaaDoor.B
