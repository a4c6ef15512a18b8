/- What the Go functions loop.example/belfry/laws.eqClash do is what the Lean functions .f of their names here say; condition: .f gives an answer. (Written by the session's program pp.py over the kit's print; Lean checks it.) -/
import Derived.Test.YtemfciflhbhobaaK
import Derived.Test.YtemfciflhbhobaaM
namespace Go.Proofs.Ytemfciflhbhobaa.B
open Go.RowKit Go.Proofs.YtemfciflhbhobaaW.PrintWords Go.Proofs.YtemfciflhbhobaaW.PrintLast Go.Proofs.YtemfciflhbhobaaW.PrintMore
attribute [local go_sem] max2_int min2_int max_two min_two max_three min_three max_four min_four   -- for this text's walks alone
set_option linter.unusedVariables false
set_option linter.unusedSimpArgs false

section
/-! ### laws_eqClash: function 37 -/
def laws_eqClash.f (a0_0 : ByteArray) (a0_1 : ByteArray) (a1_0 : ByteArray) (a1_1 : ByteArray) : Option (Bool) := if a0_0.toList = a1_0.toList then (if a0_1.toList = a1_1.toList then (some true) else (some false)) else (some false)
set_option maxHeartbeats 8000000 in
set_option maxRecDepth 100000 in
theorem laws_eqClash.calls (a0_0 : ByteArray) (a0_1 : ByteArray) (a1_0 : ByteArray) (a1_1 : ByteArray) (r : Bool) (w : World) (h : laws_eqClash.f a0_0 a0_1 a1_0 a1_1 = some r) :
    Calls Try.prog 37 #[.agg #[.string a0_0, .string a0_1], .agg #[.string a1_0, .string a1_1]] w fun e w' => e = .returned (.bool r) ∧ Below w.heap.size w w' := by
  have hu46 := Try.underlying46
  have HB := Aside0.mk (Below.refl w.heap.size w)
  have H : (if a0_0.toList = a1_0.toList then (if a0_1.toList = a1_1.toList then (some true) else (some false)) else (some false)) = some r := h
  clear h
  by_cases c3 : a0_0.toList = a1_0.toList
  · rw [if_pos c3] at H
    have c3b0 : (a0_0.toList == a1_0.toList) = true := beq_iff_eq.mpr c3
    have c3b1 : (a0_0.toList != a1_0.toList) = false := bne_eq_false_iff_eq.mpr c3
    clear c3
    by_cases c4 : a0_1.toList = a1_1.toList
    · rw [if_pos c4] at H
      have c4b0 : (a0_1.toList == a1_1.toList) = true := beq_iff_eq.mpr c4
      have c4b1 : (a0_1.toList != a1_1.toList) = false := bne_eq_false_iff_eq.mpr c4
      clear c4
      obtain rfl := Option.some.inj H
      go_enter Try.func37, Try.ntmps37
      go_wp2_with (first | ((with_reducible refine gate_dst (N := 2) rfl ?_); refine boxE_ (cs := #[.string a0_0, .string a0_1]) (t := 46) ?_; intro gb823 hg w5 hbox hb; have BK823 := Aside0.mk (hbox); have GW823 := sizeB_ hg; have GE823 := sizeB_ hg; replace HB := stepB_ hb; clear hb hbox hg) | ((with_reducible refine gate_dst (N := 3) rfl ?_); refine boxE_ (cs := #[.string a1_0, .string a1_1]) (t := 46) ?_; intro gb824 hg w6 hbox hb; have BK824 := Aside0.mk (hbox); have GW824 := sizeB_ hg; have GE824 := sizeB_ hg; replace HB := stepB_ hb; have NB823_824 := neL_ BK823.out hg; have NB824_823 := neG_ BK823.out hg; replace BK823 := blkBel_ BK823.out hb; clear hb hbox hg; have hnb7 := NB823_824.out; have hnc7 := NB824_823.out; obtain ⟨hcz8_0, hcz8_1, hfz8_0, hfz8_1⟩ := cz2_ BK823.out; obtain ⟨hcz9_0, hcz9_1, hfz9_0, hfz9_1⟩ := cz2_ BK824.out))
      go_ret
      exact ⟨rfl_, bel_⟩
    · rw [if_neg c4] at H
      have c4b0 : (a0_1.toList == a1_1.toList) = false := beq_eq_false_iff_ne.mpr c4
      have c4b1 : (a0_1.toList != a1_1.toList) = true := bne_iff_ne.mpr c4
      obtain rfl := Option.some.inj H
      go_enter Try.func37, Try.ntmps37
      go_wp2_with (first | ((with_reducible refine gate_dst (N := 2) rfl ?_); refine boxE_ (cs := #[.string a0_0, .string a0_1]) (t := 46) ?_; intro gb823 hg w10 hbox hb; have BK823 := Aside0.mk (hbox); have GW823 := sizeB_ hg; have GE823 := sizeB_ hg; replace HB := stepB_ hb; clear hb hbox hg) | ((with_reducible refine gate_dst (N := 3) rfl ?_); refine boxE_ (cs := #[.string a1_0, .string a1_1]) (t := 46) ?_; intro gb824 hg w11 hbox hb; have BK824 := Aside0.mk (hbox); have GW824 := sizeB_ hg; have GE824 := sizeB_ hg; replace HB := stepB_ hb; have NB823_824 := neL_ BK823.out hg; have NB824_823 := neG_ BK823.out hg; replace BK823 := blkBel_ BK823.out hb; clear hb hbox hg; have hnb12 := NB823_824.out; have hnc12 := NB824_823.out; obtain ⟨hcz13_0, hcz13_1, hfz13_0, hfz13_1⟩ := cz2_ BK823.out; obtain ⟨hcz14_0, hcz14_1, hfz14_0, hfz14_1⟩ := cz2_ BK824.out))
      go_ret
      exact ⟨rfl_, bel_⟩
  · rw [if_neg c3] at H
    have c3b0 : (a0_0.toList == a1_0.toList) = false := beq_eq_false_iff_ne.mpr c3
    have c3b1 : (a0_0.toList != a1_0.toList) = true := bne_iff_ne.mpr c3
    obtain rfl := Option.some.inj H
    go_enter Try.func37, Try.ntmps37
    go_wp2_with (first | ((with_reducible refine gate_dst (N := 2) rfl ?_); refine boxE_ (cs := #[.string a0_0, .string a0_1]) (t := 46) ?_; intro gb823 hg w15 hbox hb; have BK823 := Aside0.mk (hbox); have GW823 := sizeB_ hg; have GE823 := sizeB_ hg; replace HB := stepB_ hb; clear hb hbox hg) | ((with_reducible refine gate_dst (N := 3) rfl ?_); refine boxE_ (cs := #[.string a1_0, .string a1_1]) (t := 46) ?_; intro gb824 hg w16 hbox hb; have BK824 := Aside0.mk (hbox); have GW824 := sizeB_ hg; have GE824 := sizeB_ hg; replace HB := stepB_ hb; have NB823_824 := neL_ BK823.out hg; have NB824_823 := neG_ BK823.out hg; replace BK823 := blkBel_ BK823.out hb; clear hb hbox hg; have hnb17 := NB823_824.out; have hnc17 := NB824_823.out; obtain ⟨hcz18_0, hcz18_1, hfz18_0, hfz18_1⟩ := cz2_ BK823.out; obtain ⟨hcz19_0, hcz19_1, hfz19_0, hfz19_1⟩ := cz2_ BK824.out))
    go_ret
    exact ⟨rfl_, bel_⟩

end
end Go.Proofs.Ytemfciflhbhobaa.B
