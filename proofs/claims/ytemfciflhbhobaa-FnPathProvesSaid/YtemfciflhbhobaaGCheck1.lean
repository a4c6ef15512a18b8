/- What the Go functions loop.example/belfry/spec.PathCheck, loop.example/belfry/impl.PathCheck do is what the Lean functions .f of their names here say; condition: .f gives an answer. (Written by the session's program pp.py over the kit's print; Lean checks it.) -/
import Derived.Test.YtemfciflhbhobaaK
import Derived.Test.YtemfciflhbhobaaM
import Derived.Test.YtemfciflhbhobaaGEq1
import Derived.Test.YtemfciflhbhobaaGUp1
import Derived.Test.YtemfciflhbhobaaGUp2
namespace Go.Proofs.Ytemfciflhbhobaa.B
open Go.RowKit Go.Proofs.YtemfciflhbhobaaW.PrintWords Go.Proofs.YtemfciflhbhobaaW.PrintLast Go.Proofs.YtemfciflhbhobaaW.PrintMore
attribute [local go_sem] max2_int min2_int max_two min_two max_three min_three max_four min_four   -- for this text's walks alone
set_option linter.unusedVariables false
set_option linter.unusedSimpArgs false

section
attribute [local go_sem high] eqA29
/-! ### spec_PathCheck: function 61 -/
def spec_PathCheck.f (k : Nat) (a0_0 : Int) (a0_1 : Int) (a0_2 : Int) (a0_3 : Int) (a0_4 : Int) (a1 : Int) (a2 : ByteArray) (l3 : List (S29)) : Option (Bool) := (spec_PathRoot.f k a0_0 a1 a2 l3).bind fun bt540 => (if bt540.2.2.2.2 = true then (some (bt540.1 == a0_1 && (bt540.2.1 == a0_2 && (bt540.2.2.1 == a0_3 && (bt540.2.2.2.1 == a0_4))))) else (some false))
theorem spec_PathCheck.mono : ∀ a0 a1 a2 a3 a4 a5 a6 a7 k, LeO (spec_PathCheck.f k a0 a1 a2 a3 a4 a5 a6 a7) (spec_PathCheck.f (k + 1) a0 a1 a2 a3 a4 a5 a6 a7) := by
  intro a0 a1 a2 a3 a4 a5 a6 a7 k
  unfold spec_PathCheck.f
  repeat' first | (with_reducible first | exact spec_PathRoot.mono _ _ _ _ _ | exact LeO.refl _ | exact LeO.none _ | refine LeO.ite ?_ ?_ | refine LeO.bind ?_ (fun _ => ?_)) | exact LeO.none _ | refine LeO.ite ?_ ?_ | refine LeO.bind ?_ (fun _ => ?_)
set_option maxHeartbeats 8000000 in
set_option maxRecDepth 100000 in
theorem spec_PathCheck.calls (k : Nat) (a0_0 : Int) (a0_1 : Int) (a0_2 : Int) (a0_3 : Int) (a0_4 : Int) (a1 : Int) (a2 : ByteArray) (A3 : Option Addr) (c3 : Nat) (l3 : List (S29)) (r : Bool) (w : World) (hr3 : Kd.C k29 w A3 l3.length l3) (hc3 : l3.length ≤ c3) (h : spec_PathCheck.f k a0_0 a0_1 a0_2 a0_3 a0_4 a1 a2 l3 = some r) :
    Calls Try.prog 61 #[.agg #[.int .i64 a0_0, .int .u64 a0_1, .int .u64 a0_2, .int .u64 a0_3, .int .u64 a0_4], .int .i64 a1, .string a2, .slice A3 l3.length c3] w fun e w' => e = .returned (.bool r) ∧ Below w.heap.size w w' := by
  have hu31 := Try.underlying31
  have hu29 := Try.underlying29
  have HR3 := Aside0.mk hr3
  have HC3 := Aside0.mk hc3
  clear hr3 hc3
  have HB := Aside0.mk (Below.refl w.heap.size w)
  have H : ((spec_PathRoot.f k a0_0 a1 a2 l3).bind fun bt540 => (if bt540.2.2.2.2 = true then (some (bt540.1 == a0_1 && (bt540.2.1 == a0_2 && (bt540.2.2.1 == a0_3 && (bt540.2.2.2.1 == a0_4))))) else (some false))) = some r := h
  clear h
  obtain ⟨⟨t540, t541, t542, t543, t544⟩, A5, H⟩ := bnd_ H
  dsimp only at H
  by_cases c6 : t544 = true
  · subst c6
    rw [if_pos rfl] at H
    obtain rfl := Option.some.inj H
    go_enter Try.func61, Try.ntmps61
    go_wp2_with (first | ((with_reducible refine gate_dst (N := 4) rfl ?_); refine boxE_ (cs := #[.int .i64 a0_0, .int .u64 a0_1, .int .u64 a0_2, .int .u64 a0_3, .int .u64 a0_4]) (t := 31) ?_; intro gb539 hg w7 hbox hb; have BK539 := Aside0.mk (hbox); have GW539 := sizeB_ hg; have GE539 := sizeB_ hg; replace HB := stepB_ hb; clear hb hbox hg; obtain ⟨hcz8_0, hcz8_1, hcz8_2, hcz8_3, hcz8_4, hfz8_0, hfz8_1, hfz8_2, hfz8_3, hfz8_4⟩ := cz5_ BK539.out) | ((with_reducible refine gate_callee (f := 50) rfl ?_); refine goL_ (some 17) Try.func50 #[.int .i64 a0_0, .int .i64 a1, .string a2, .slice A3 l3.length c3] ?_; (with_reducible refine (spec_PathRoot.calls k a0_0 a1 a2 _ _ l3 t540 t541 t542 t543 true _ ?side1 ?side2 A5.out).mono ?_); (case side1 => repeat (first | exact (Kd.C_below HR3.out HB.out) | (with_reducible refine Kd.C_alloc ?_ _) | (with_reducible refine Kd.C_drewN ?_ _) | (with_reducible refine Kd.C_drew ?_))); (case side2 => exact HC3.out); rintro e w9 ⟨rfl, hb⟩; refine ⟨_, rfl, ?_⟩; replace BK539 := blkBel_ BK539.out hb; replace HB := stepB_ hb; (try clear hb)) | ((with_reducible refine gate_dst (N := 9) rfl ?_); refine boxE_ (cs := #[.int .u64 0, .int .u64 0, .int .u64 0, .int .u64 0]) (t := 29) ?_; intro gb545 hg w10 hbox hb; have BK545 := Aside0.mk (hbox); have GW545 := sizeB_ hg; have GE545 := sizeB_ hg; replace HB := stepB_ hb; have NB539_545 := neL_ BK539.out hg; have NB545_539 := neG_ BK539.out hg; replace BK539 := blkBel_ BK539.out hb; clear hb hbox hg; have hnb11 := NB545_539.out; have hnc11 := NB539_545.out; obtain ⟨hcz12_0, hcz12_1, hcz12_2, hcz12_3, hfz12_0, hfz12_1, hfz12_2, hfz12_3⟩ := cz4_ BK545.out; obtain ⟨hcz13_0, hcz13_1, hcz13_2, hcz13_3, hcz13_4, hfz13_0, hfz13_1, hfz13_2, hfz13_3, hfz13_4⟩ := cz5_ BK539.out))
    go_ret
    exact ⟨rfl_, bel_⟩
  · replace c6 := Bool.eq_false_iff.mpr c6
    subst c6
    rw [if_neg (show ¬ (false = true) by decide)] at H
    obtain rfl := Option.some.inj H
    go_enter Try.func61, Try.ntmps61
    go_wp2_with (first | ((with_reducible refine gate_dst (N := 4) rfl ?_); refine boxE_ (cs := #[.int .i64 a0_0, .int .u64 a0_1, .int .u64 a0_2, .int .u64 a0_3, .int .u64 a0_4]) (t := 31) ?_; intro gb539 hg w14 hbox hb; have BK539 := Aside0.mk (hbox); have GW539 := sizeB_ hg; have GE539 := sizeB_ hg; replace HB := stepB_ hb; clear hb hbox hg; obtain ⟨hcz15_0, hcz15_1, hcz15_2, hcz15_3, hcz15_4, hfz15_0, hfz15_1, hfz15_2, hfz15_3, hfz15_4⟩ := cz5_ BK539.out) | ((with_reducible refine gate_callee (f := 50) rfl ?_); refine goL_ (some 17) Try.func50 #[.int .i64 a0_0, .int .i64 a1, .string a2, .slice A3 l3.length c3] ?_; (with_reducible refine (spec_PathRoot.calls k a0_0 a1 a2 _ _ l3 t540 t541 t542 t543 false _ ?side1 ?side2 A5.out).mono ?_); (case side1 => repeat (first | exact (Kd.C_below HR3.out HB.out) | (with_reducible refine Kd.C_alloc ?_ _) | (with_reducible refine Kd.C_drewN ?_ _) | (with_reducible refine Kd.C_drew ?_))); (case side2 => exact HC3.out); rintro e w16 ⟨rfl, hb⟩; refine ⟨_, rfl, ?_⟩; replace BK539 := blkBel_ BK539.out hb; replace HB := stepB_ hb; (try clear hb)) | ((with_reducible refine gate_dst (N := 9) rfl ?_); refine boxE_ (cs := #[.int .u64 0, .int .u64 0, .int .u64 0, .int .u64 0]) (t := 29) ?_; intro gb545 hg w17 hbox hb; have BK545 := Aside0.mk (hbox); have GW545 := sizeB_ hg; have GE545 := sizeB_ hg; replace HB := stepB_ hb; have NB539_545 := neL_ BK539.out hg; have NB545_539 := neG_ BK539.out hg; replace BK539 := blkBel_ BK539.out hb; clear hb hbox hg; have hnb18 := NB545_539.out; have hnc18 := NB539_545.out; obtain ⟨hcz19_0, hcz19_1, hcz19_2, hcz19_3, hfz19_0, hfz19_1, hfz19_2, hfz19_3⟩ := cz4_ BK545.out))
    go_ret
    exact ⟨rfl_, bel_⟩

end
section
attribute [local go_sem high] eqA29
/-! ### impl_PathCheck: function 62 -/
def impl_PathCheck.f (k : Nat) (a0_0 : Int) (a0_1 : Int) (a0_2 : Int) (a0_3 : Int) (a0_4 : Int) (a1 : Int) (a2 : ByteArray) (l3 : List (S29)) : Option (Bool) := (impl_PathRoot.f k a0_0 a1 a2 l3).bind fun bt771 => (if bt771.2.2.2.2 = true then (some (bt771.1 == a0_1 && (bt771.2.1 == a0_2 && (bt771.2.2.1 == a0_3 && (bt771.2.2.2.1 == a0_4))))) else (some false))
theorem impl_PathCheck.mono : ∀ a0 a1 a2 a3 a4 a5 a6 a7 k, LeO (impl_PathCheck.f k a0 a1 a2 a3 a4 a5 a6 a7) (impl_PathCheck.f (k + 1) a0 a1 a2 a3 a4 a5 a6 a7) := by
  intro a0 a1 a2 a3 a4 a5 a6 a7 k
  unfold impl_PathCheck.f
  repeat' first | (with_reducible first | exact impl_PathRoot.mono _ _ _ _ _ | exact LeO.refl _ | exact LeO.none _ | refine LeO.ite ?_ ?_ | refine LeO.bind ?_ (fun _ => ?_)) | exact LeO.none _ | refine LeO.ite ?_ ?_ | refine LeO.bind ?_ (fun _ => ?_)
set_option maxHeartbeats 8000000 in
set_option maxRecDepth 100000 in
theorem impl_PathCheck.calls (k : Nat) (a0_0 : Int) (a0_1 : Int) (a0_2 : Int) (a0_3 : Int) (a0_4 : Int) (a1 : Int) (a2 : ByteArray) (A3 : Option Addr) (c3 : Nat) (l3 : List (S29)) (r : Bool) (w : World) (hr3 : Kd.C k29 w A3 l3.length l3) (hc3 : l3.length ≤ c3) (h : impl_PathCheck.f k a0_0 a0_1 a0_2 a0_3 a0_4 a1 a2 l3 = some r) :
    Calls Try.prog 62 #[.agg #[.int .i64 a0_0, .int .u64 a0_1, .int .u64 a0_2, .int .u64 a0_3, .int .u64 a0_4], .int .i64 a1, .string a2, .slice A3 l3.length c3] w fun e w' => e = .returned (.bool r) ∧ Below w.heap.size w w' := by
  have hu31 := Try.underlying31
  have hu29 := Try.underlying29
  have HR3 := Aside0.mk hr3
  have HC3 := Aside0.mk hc3
  clear hr3 hc3
  have HB := Aside0.mk (Below.refl w.heap.size w)
  have H : ((impl_PathRoot.f k a0_0 a1 a2 l3).bind fun bt771 => (if bt771.2.2.2.2 = true then (some (bt771.1 == a0_1 && (bt771.2.1 == a0_2 && (bt771.2.2.1 == a0_3 && (bt771.2.2.2.1 == a0_4))))) else (some false))) = some r := h
  clear h
  obtain ⟨⟨t771, t772, t773, t774, t775⟩, A5, H⟩ := bnd_ H
  dsimp only at H
  by_cases c6 : t775 = true
  · subst c6
    rw [if_pos rfl] at H
    obtain rfl := Option.some.inj H
    go_enter Try.func62, Try.ntmps62
    go_wp2_with (first | ((with_reducible refine gate_dst (N := 4) rfl ?_); refine boxE_ (cs := #[.int .i64 a0_0, .int .u64 a0_1, .int .u64 a0_2, .int .u64 a0_3, .int .u64 a0_4]) (t := 31) ?_; intro gb770 hg w7 hbox hb; have BK770 := Aside0.mk (hbox); have GW770 := sizeB_ hg; have GE770 := sizeB_ hg; replace HB := stepB_ hb; clear hb hbox hg; obtain ⟨hcz8_0, hcz8_1, hcz8_2, hcz8_3, hcz8_4, hfz8_0, hfz8_1, hfz8_2, hfz8_3, hfz8_4⟩ := cz5_ BK770.out) | ((with_reducible refine gate_callee (f := 51) rfl ?_); refine goL_ (some 17) Try.func51 #[.int .i64 a0_0, .int .i64 a1, .string a2, .slice A3 l3.length c3] ?_; (with_reducible refine (impl_PathRoot.calls k a0_0 a1 a2 _ _ l3 t771 t772 t773 t774 true _ ?side1 ?side2 A5.out).mono ?_); (case side1 => repeat (first | exact (Kd.C_below HR3.out HB.out) | (with_reducible refine Kd.C_alloc ?_ _) | (with_reducible refine Kd.C_drewN ?_ _) | (with_reducible refine Kd.C_drew ?_))); (case side2 => exact HC3.out); rintro e w9 ⟨rfl, hb⟩; refine ⟨_, rfl, ?_⟩; replace BK770 := blkBel_ BK770.out hb; replace HB := stepB_ hb; (try clear hb)) | ((with_reducible refine gate_dst (N := 9) rfl ?_); refine boxE_ (cs := #[.int .u64 0, .int .u64 0, .int .u64 0, .int .u64 0]) (t := 29) ?_; intro gb776 hg w10 hbox hb; have BK776 := Aside0.mk (hbox); have GW776 := sizeB_ hg; have GE776 := sizeB_ hg; replace HB := stepB_ hb; have NB770_776 := neL_ BK770.out hg; have NB776_770 := neG_ BK770.out hg; replace BK770 := blkBel_ BK770.out hb; clear hb hbox hg; have hnb11 := NB776_770.out; have hnc11 := NB770_776.out; obtain ⟨hcz12_0, hcz12_1, hcz12_2, hcz12_3, hfz12_0, hfz12_1, hfz12_2, hfz12_3⟩ := cz4_ BK776.out; obtain ⟨hcz13_0, hcz13_1, hcz13_2, hcz13_3, hcz13_4, hfz13_0, hfz13_1, hfz13_2, hfz13_3, hfz13_4⟩ := cz5_ BK770.out))
    go_ret
    exact ⟨rfl_, bel_⟩
  · replace c6 := Bool.eq_false_iff.mpr c6
    subst c6
    rw [if_neg (show ¬ (false = true) by decide)] at H
    obtain rfl := Option.some.inj H
    go_enter Try.func62, Try.ntmps62
    go_wp2_with (first | ((with_reducible refine gate_dst (N := 4) rfl ?_); refine boxE_ (cs := #[.int .i64 a0_0, .int .u64 a0_1, .int .u64 a0_2, .int .u64 a0_3, .int .u64 a0_4]) (t := 31) ?_; intro gb770 hg w14 hbox hb; have BK770 := Aside0.mk (hbox); have GW770 := sizeB_ hg; have GE770 := sizeB_ hg; replace HB := stepB_ hb; clear hb hbox hg; obtain ⟨hcz15_0, hcz15_1, hcz15_2, hcz15_3, hcz15_4, hfz15_0, hfz15_1, hfz15_2, hfz15_3, hfz15_4⟩ := cz5_ BK770.out) | ((with_reducible refine gate_callee (f := 51) rfl ?_); refine goL_ (some 17) Try.func51 #[.int .i64 a0_0, .int .i64 a1, .string a2, .slice A3 l3.length c3] ?_; (with_reducible refine (impl_PathRoot.calls k a0_0 a1 a2 _ _ l3 t771 t772 t773 t774 false _ ?side1 ?side2 A5.out).mono ?_); (case side1 => repeat (first | exact (Kd.C_below HR3.out HB.out) | (with_reducible refine Kd.C_alloc ?_ _) | (with_reducible refine Kd.C_drewN ?_ _) | (with_reducible refine Kd.C_drew ?_))); (case side2 => exact HC3.out); rintro e w16 ⟨rfl, hb⟩; refine ⟨_, rfl, ?_⟩; replace BK770 := blkBel_ BK770.out hb; replace HB := stepB_ hb; (try clear hb)) | ((with_reducible refine gate_dst (N := 9) rfl ?_); refine boxE_ (cs := #[.int .u64 0, .int .u64 0, .int .u64 0, .int .u64 0]) (t := 29) ?_; intro gb776 hg w17 hbox hb; have BK776 := Aside0.mk (hbox); have GW776 := sizeB_ hg; have GE776 := sizeB_ hg; replace HB := stepB_ hb; have NB770_776 := neL_ BK770.out hg; have NB776_770 := neG_ BK770.out hg; replace BK770 := blkBel_ BK770.out hb; clear hb hbox hg; have hnb18 := NB776_770.out; have hnc18 := NB770_776.out; obtain ⟨hcz19_0, hcz19_1, hcz19_2, hcz19_3, hfz19_0, hfz19_1, hfz19_2, hfz19_3⟩ := cz4_ BK776.out))
    go_ret
    exact ⟨rfl_, bel_⟩

end
end Go.Proofs.Ytemfciflhbhobaa.B
