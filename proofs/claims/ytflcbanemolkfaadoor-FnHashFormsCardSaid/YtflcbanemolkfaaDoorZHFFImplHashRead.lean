/- What the Go functions loop.example/belfry/impl.HashRead do is what the Lean functions .f of their names here say; condition: .f gives an answer. (Written by the session's program pp.py over the kit's print; Lean checks it.) -/
import Derived.Test.YtflcbanemolkfaaDoorZHFK
import Derived.Test.YtflcbanemolkfaaDoorZHFM
import Derived.Test.YtflcbanemolkfaaDoorZHFFImplHexRead
import Derived.Test.YtflcbanemolkfaaDoorZHFHHashBack
namespace Go.Proofs.YtflcbanemolkfaaDoor.B
open Go.RowKit Go.Proofs.YtflcbanemolkfaaDoorW.PrintWords Go.Proofs.YtflcbanemolkfaaDoorW.PrintLast Go.Proofs.YtflcbanemolkfaaDoorW.PrintMore
attribute [local go_sem] max2_int min2_int max_two min_two max_three min_three max_four min_four
set_option linter.unusedVariables false
set_option linter.unusedSimpArgs false
section
def impl_HashRead.f (k : Nat) (a0 : ByteArray) : Option (Int × Int × Int × Int × Bool) := (impl_hexRead.f k a0).bind fun bt163 => (if bt163.2 = true then ((impl_HashBack.f bt163.1).bind fun bt165 => (some (bt165.1, bt165.2.1, bt165.2.2.1, bt165.2.2.2.1, bt165.2.2.2.2))) else (some (0, 0, 0, 0, false)))
set_option maxHeartbeats 8000000 in
set_option maxRecDepth 100000 in
theorem impl_HashRead.calls (k : Nat) (a0 : ByteArray) (r1 : Int) (r2 : Int) (r3 : Int) (r4 : Int) (r5 : Bool) (w : World) (ea_ : Addr) (hE : w.cell? ⟨1, 0, none⟩ = some (EVp ea_)) (h : impl_HashRead.f k a0 = some (r1, r2, r3, r4, r5)) :
    Calls Tryd.prog 6 #[.string a0] w fun e w' => e = .returned (.tuple #[.agg #[.int .u64 r1, .int .u64 r2, .int .u64 r3, .int .u64 r4], .bool r5]) ∧ Below w.heap.size w w' := by
  have hu24 := Tryd.underlying24
  have HB := Aside0.mk (Below.refl w.heap.size w)
  have H : ((impl_hexRead.f k a0).bind fun bt163 => (if bt163.2 = true then ((impl_HashBack.f bt163.1).bind fun bt165 => (some (bt165.1, bt165.2.1, bt165.2.2.1, bt165.2.2.2.1, bt165.2.2.2.2))) else (some (0, 0, 0, 0, false)))) = some (r1, r2, r3, r4, r5) := h
  clear h
  obtain ⟨⟨t163, t164⟩, A2, H⟩ := bnd_ H
  dsimp only at H
  by_cases c3 : t164 = true
  · subst c3
    rw [if_pos rfl] at H
    obtain ⟨⟨t165, t166, t167, t168, t169⟩, A4, H⟩ := bnd_ H
    dsimp only at H
    simp only [Option.some.injEq, Prod.mk.injEq] at H
    obtain ⟨rfl, rfl, rfl, rfl, rfl⟩ := H
    go_enter Tryd.func6, Tryd.ntmps6
    go_wp2_with (first | ((with_reducible refine gate_dst (N := 2) rfl ?_); refine boxE_ (cs := #[.int .u64 0, .int .u64 0, .int .u64 0, .int .u64 0]) (t := 24) ?_; intro gb162 hg w5 hbox hb; have BK162 := Aside0.mk (hbox); have GW162 := sizeB_ hg; have GE162 := sizeB_ hg; replace HB := stepB_ hb; clear hb hbox hg) | ((with_reducible refine gate_callee (f := 16) rfl ?_); refine goL_ (some 8) Tryd.func16 #[.string a0] ?_; (with_reducible refine (impl_hexRead.calls k a0 t163 true _ ea_ (pw_cell_below bel_ hE) A2.out).mono ?_); rintro e w6 ⟨rfl, hb⟩; refine ⟨_, rfl, ?_⟩; replace BK162 := blkBel_ BK162.out hb; replace HB := stepB_ hb; (try clear hb)) | ((with_reducible refine gate_callee (f := 9) rfl ?_); refine goL_ (some 15) Tryd.func9 #[.string t163] ?_; (with_reducible refine (impl_HashBack.calls t163 t165 t166 t167 t168 t169 _ A4.out).mono ?_); rintro e w7 ⟨rfl, hb⟩; refine ⟨_, rfl, ?_⟩; replace BK162 := blkBel_ BK162.out hb; replace HB := stepB_ hb; (try clear hb); obtain ⟨hcz8_0, hcz8_1, hcz8_2, hcz8_3, hfz8_0, hfz8_1, hfz8_2, hfz8_3⟩ := cz4_ BK162.out))
    refine bodyPost_ret (results_ct rfl _ _ gb162 24 #[.int .u64 t165, .int .u64 t166, .int .u64 t167, .int .u64 t168] (0, 0) _ rfl (blkF_ BK162.out) Tryd.underlying24 rfl (by kernel_rfl)) rfl ?_
    exact ⟨rfl_, bel_⟩
  · replace c3 := Bool.eq_false_iff.mpr c3
    subst c3
    rw [if_neg (show ¬ (false = true) by decide)] at H
    simp only [Option.some.injEq, Prod.mk.injEq] at H
    obtain ⟨rfl, rfl, rfl, rfl, rfl⟩ := H
    go_enter Tryd.func6, Tryd.ntmps6
    go_wp2_with (first | ((with_reducible refine gate_dst (N := 2) rfl ?_); refine boxE_ (cs := #[.int .u64 0, .int .u64 0, .int .u64 0, .int .u64 0]) (t := 24) ?_; intro gb162 hg w9 hbox hb; have BK162 := Aside0.mk (hbox); have GW162 := sizeB_ hg; have GE162 := sizeB_ hg; replace HB := stepB_ hb; clear hb hbox hg) | ((with_reducible refine gate_callee (f := 16) rfl ?_); refine goL_ (some 8) Tryd.func16 #[.string a0] ?_; (with_reducible refine (impl_hexRead.calls k a0 t163 false _ ea_ (pw_cell_below bel_ hE) A2.out).mono ?_); rintro e w10 ⟨rfl, hb⟩; refine ⟨_, rfl, ?_⟩; replace BK162 := blkBel_ BK162.out hb; replace HB := stepB_ hb; (try clear hb); obtain ⟨hcz11_0, hcz11_1, hcz11_2, hcz11_3, hfz11_0, hfz11_1, hfz11_2, hfz11_3⟩ := cz4_ BK162.out))
    refine bodyPost_ret (results_ct rfl _ _ gb162 24 #[.int .u64 0, .int .u64 0, .int .u64 0, .int .u64 0] (0, 0) _ rfl (blkF_ BK162.out) Tryd.underlying24 rfl (by kernel_rfl)) rfl ?_
    exact ⟨rfl_, bel_⟩
end
end Go.Proofs.YtflcbanemolkfaaDoor.B
