/- What the Go functions loop.example/belfry/laws.FnPeaks do is what the Lean functions .f of their names here say; condition: .f gives an answer. (Written by the session's program pp.py over the kit's print; Lean checks it.) -/
import Derived.Test.YtemfciflhbhobaaK
import Derived.Test.YtemfciflhbhobaaM
import Derived.Test.YtemfciflhbhobaaFImplTreeRoot
import Derived.Test.YtemfciflhbhobaaFSpecDrawTreePeaks
import Derived.Test.YtemfciflhbhobaaFSpecTreeRoot
import Derived.Test.YtemfciflhbhobaaGCount1
import Derived.Test.YtemfciflhbhobaaGEq1
import Derived.Test.YtemfciflhbhobaaGPeaksR1
import Derived.Test.YtemfciflhbhobaaGRuns1
import Derived.Test.YtemfciflhbhobaaGTree1
namespace Go.Proofs.Ytemfciflhbhobaa.B
open Go.RowKit Go.Proofs.YtemfciflhbhobaaW.PrintWords Go.Proofs.YtemfciflhbhobaaW.PrintLast Go.Proofs.YtemfciflhbhobaaW.PrintMore
attribute [local go_sem] max2_int min2_int max_two min_two max_three min_three max_four min_four   -- for this text's walks alone
set_option linter.unusedVariables false
set_option linter.unusedSimpArgs false

section
attribute [local go_sem high] eqA29
/-! ### laws_FnPeaks: function 17 -/
def laws_FnPeaks.f (k : Nat) (l0 : List Int) : Option (Bool) := if (l0.length : Int) > 1048576 then (some true) else ((spec_DrawTreePeaks.f k l0).bind fun t1615 => ((impl_TreePeaks.f k t1615).bind fun t1618 => ((spec_LeavesOk.f k t1615).bind fun t1621 => (if t1621 = true then ((impl_PeaksCount.f (t1615.length : Int)).bind fun t1622 => (if (t1618.length : Int) = t1622 then ((spec_PeaksCount.f k (t1615.length : Int)).bind fun t1623 => (if (t1618.length : Int) = t1623 then ((impl_PeaksRoot.f k t1618).bind fun bt1624 => ((impl_TreeRoot.f k t1615).bind fun bt1628 => (if (bt1624.1 == bt1628.1 && (bt1624.2.1 == bt1628.2.1 && (bt1624.2.2.1 == bt1628.2.2.1 && (bt1624.2.2.2 == bt1628.2.2.2)))) = true then ((impl_TreeRoot.f k t1615).bind fun bt1632 => ((spec_TreeRoot.f k t1615).bind fun bt1636 => (some (bt1632.1 == bt1636.1 && (bt1632.2.1 == bt1636.2.1 && (bt1632.2.2.1 == bt1636.2.2.1 && (bt1632.2.2.2 == bt1636.2.2.2))))))) else (some false)))) else (some false))) else (some false))) else (some ((t1618.length : Int) == 0))))))
theorem laws_FnPeaks.mono : ∀ a0 k, LeO (laws_FnPeaks.f k a0) (laws_FnPeaks.f (k + 1) a0) := by
  intro a0 k
  unfold laws_FnPeaks.f
  repeat' first | (with_reducible first | exact impl_PeaksRoot.mono _ _ | exact impl_TreePeaks.mono _ _ | exact impl_TreeRoot.mono _ _ | exact spec_DrawTreePeaks.mono _ _ | exact spec_LeavesOk.mono _ _ | exact spec_PeaksCount.mono _ _ | exact spec_TreeRoot.mono _ _ | exact LeO.refl _ | exact LeO.none _ | refine LeO.ite ?_ ?_ | refine LeO.bind ?_ (fun _ => ?_)) | exact LeO.none _ | refine LeO.ite ?_ ?_ | refine LeO.bind ?_ (fun _ => ?_)
set_option maxHeartbeats 8000000 in
set_option maxRecDepth 100000 in
theorem laws_FnPeaks.calls (k : Nat) (A0 : Option Addr) (c0 : Nat) (l0 : List Int) (r : Bool) (hr_ : r = true) (w : World) (hr0 : Kd.C (Kd.int .u8) w A0 l0.length l0) (hc0 : l0.length ≤ c0) (h : laws_FnPeaks.f k l0 = some r) :
    Calls Try.prog 17 #[.slice A0 l0.length c0] w fun e w' => e = .returned (.bool r) ∧ Below w.heap.size w w' := by
  have HR0 := Aside0.mk hr0
  have HC0 := Aside0.mk hc0
  clear hr0 hc0
  have HB := Aside0.mk (Below.refl w.heap.size w)
  have H : (if (l0.length : Int) > 1048576 then (some true) else ((spec_DrawTreePeaks.f k l0).bind fun t1615 => ((impl_TreePeaks.f k t1615).bind fun t1618 => ((spec_LeavesOk.f k t1615).bind fun t1621 => (if t1621 = true then ((impl_PeaksCount.f (t1615.length : Int)).bind fun t1622 => (if (t1618.length : Int) = t1622 then ((spec_PeaksCount.f k (t1615.length : Int)).bind fun t1623 => (if (t1618.length : Int) = t1623 then ((impl_PeaksRoot.f k t1618).bind fun bt1624 => ((impl_TreeRoot.f k t1615).bind fun bt1628 => (if (bt1624.1 == bt1628.1 && (bt1624.2.1 == bt1628.2.1 && (bt1624.2.2.1 == bt1628.2.2.1 && (bt1624.2.2.2 == bt1628.2.2.2)))) = true then ((impl_TreeRoot.f k t1615).bind fun bt1632 => ((spec_TreeRoot.f k t1615).bind fun bt1636 => (some (bt1632.1 == bt1636.1 && (bt1632.2.1 == bt1636.2.1 && (bt1632.2.2.1 == bt1636.2.2.1 && (bt1632.2.2.2 == bt1636.2.2.2))))))) else (some false)))) else (some false))) else (some false))) else (some ((t1618.length : Int) == 0))))))) = some r := h
  clear h
  by_cases c2 : (l0.length : Int) > 1048576
  · rw [if_pos c2] at H
    have c2b0 : decide (1048576 < (l0.length : Int)) = true := decide_eq_true c2
    have c2b1 : decide (1048576 < l0.length) = true := decide_eq_true (by omega)
    clear c2
    obtain rfl := Option.some.inj H
    go_enter Try.func17, Try.ntmps17
    go_wp2
    go_ret
    exact ⟨rfl_, bel_⟩
  · rw [if_neg c2] at H
    have c2b0 : decide (1048576 < (l0.length : Int)) = false := decide_eq_false c2
    have c2b1 : decide (1048576 < l0.length) = false := decide_eq_false (by omega)
    clear c2
    obtain ⟨t1615, A3, H⟩ := bnd_ H
    obtain ⟨t1618, A4, H⟩ := bnd_ H
    obtain ⟨t1621, A5, H⟩ := bnd_ H
    by_cases c6 : t1621 = true
    · subst c6
      rw [if_pos rfl] at H
      obtain ⟨t1622, A7, H⟩ := bnd_ H
      by_cases c8 : (t1618.length : Int) = t1622
      · rw [if_pos c8] at H
        have c8b0 : ((t1618.length : Int) == t1622) = true := beq_iff_eq.mpr c8
        have c8b1 : ((t1618.length : Int) != t1622) = false := bne_eq_false_iff_eq.mpr c8
        clear c8
        obtain ⟨t1623, A9, H⟩ := bnd_ H
        by_cases c10 : (t1618.length : Int) = t1623
        · rw [if_pos c10] at H
          have c10b0 : ((t1618.length : Int) == t1623) = true := beq_iff_eq.mpr c10
          have c10b1 : ((t1618.length : Int) != t1623) = false := bne_eq_false_iff_eq.mpr c10
          clear c10
          obtain ⟨⟨t1624, t1625, t1626, t1627⟩, A11, H⟩ := bnd_ H
          dsimp only at H
          obtain ⟨⟨t1628, t1629, t1630, t1631⟩, A12, H⟩ := bnd_ H
          dsimp only at H
          by_cases c13 : (t1624 == t1628 && (t1625 == t1629 && (t1626 == t1630 && (t1627 == t1631)))) = true
          · rw [if_pos c13] at H
            have c13b0 : (t1624 == t1628 && (t1625 == t1629 && (t1626 == t1630 && (t1627 == t1631)))) = true := c13
            (try (have c13b1 : decide (t1624 = t1628 && (t1625 == t1629 && (t1626 == t1630 && (t1627 == t1631)))) = true := by simpa using c13))
            (try (have c13b2 : (t1624 == t1628 && (t1625 == t1629 && (t1626 == t1630 && (t1627 == t1631)))) = true := by simpa using c13))
            clear c13
            obtain ⟨⟨t1632, t1633, t1634, t1635⟩, A14, H⟩ := bnd_ H
            have E_ := Option.some.inj (A12.out.symm.trans A14.out)
            simp only [Prod.mk.injEq] at E_
            obtain ⟨rfl, rfl, rfl, rfl⟩ := E_
            dsimp only at H
            obtain ⟨⟨t1636, t1637, t1638, t1639⟩, A15, H⟩ := bnd_ H
            dsimp only at H
            obtain rfl := Option.some.inj H
            go_enter Try.func17, Try.ntmps17
            go_wp2_with (first | ((with_reducible refine gate_callee (f := 66) rfl ?_); refine goL_ (some 9) Try.func66 #[.slice A0 l0.length c0] ?_; (with_reducible refine (spec_DrawTreePeaks.calls k _ _ l0 t1615 _ ?side1 ?side2 A3.out).mono ?_); (case side1 => repeat (first | exact HR0.out | (with_reducible refine Kd.C_alloc ?_ _) | (with_reducible refine Kd.C_drewN ?_ _) | (with_reducible refine Kd.C_drew ?_))); (case side2 => exact HC0.out); rintro e w16 ⟨v1616, rfl, ho0, hb⟩; refine ⟨_, rfl, ?_⟩; have HO1617 := Aside0.mk (Kd.R_lower ho0 (below_size bel_)); replace HB := stepB_ hb; (try clear hb); (try clear ho0); obtain ⟨Ao17, co17, eo17⟩ := Kd.R_slice HO1617.out; subst eo17) | ((with_reducible refine gate_callee (f := 64) rfl ?_); refine goL_ (some 11) Try.func64 #[.slice Ao17 t1615.length co17] ?_; (with_reducible refine (impl_TreePeaks.calls k (fun k_ => some k_ = (.slice Ao17 t1615.length co17 : Value).ownBlock) _ _ t1615 t1618 _ ?side1 A4.out).mono ?_); (case side1 => exact Kd.R_V (Kd.R_tight rfl (HO1617.out))); rintro e w18 ⟨v1619, rfl, ho0, hb⟩; refine ⟨_, rfl, ?_⟩; replace HO1617 := Aside0.mk (Kd.R_below (kdU_ HO1617.out) hb); have HO1620 := Aside0.mk (Kd.R_lower (Kd.R_mono (ok' := fun k_ => True) ho0 (fun _ hk_ => trivial)) (below_size bel_)); replace HB := stepB_ hb; (try clear hb); (try clear ho0)) | ((with_reducible refine gate_callee (f := 53) rfl ?_); refine goL_ (some 13) Try.func53 #[.slice Ao17 t1615.length co17] ?_; (with_reducible refine (spec_LeavesOk.calls k _ _ t1615 true _ ?side1 ?side2 A5.out).mono ?_); (case side1 => repeat (first | exact (Kd.R_reads' HO1617.out).2.2 | (with_reducible refine Kd.C_alloc ?_ _) | (with_reducible refine Kd.C_drewN ?_ _) | (with_reducible refine Kd.C_drew ?_))); (case side2 => exact (Kd.R_reads' HO1617.out).2.1); rintro e w' ⟨rfl, ⟨nd, rfl⟩⟩; refine ⟨_, rfl, ?_⟩; obtain ⟨Ao19, co19, eo19⟩ := Kd.R_slice HO1620.out; subst eo19) | ((with_reducible refine gate_callee (f := 78) rfl ?_); refine goL_ (some 22) Try.func78 #[.int .i64 (t1615.length : Int)] ?_; (with_reducible refine (impl_PeaksCount.calls (t1615.length : Int) t1622 _ A7.out).mono ?_); rintro e w' ⟨rfl, ⟨nd, rfl⟩⟩; refine ⟨_, rfl, ?_⟩) | (go_at_call 79; (with_reducible refine (spec_PeaksCount.calls k (t1615.length : Int) t1623 _ A9.out).mono ?_); rintro e w' ⟨rfl, ⟨nd, rfl⟩⟩) | (go_at_call 68; (with_reducible refine (impl_PeaksRoot.calls k _ _ t1618 t1624 t1625 t1626 t1627 _ ?side1 ?side2 A11.out).mono ?_); (case side1 => repeat (first | exact (Kd.R_reads' HO1620.out).2.2 | (with_reducible refine Kd.C_alloc ?_ _) | (with_reducible refine Kd.C_drewN ?_ _) | (with_reducible refine Kd.C_drew ?_))); (case side2 => exact (Kd.R_reads' HO1620.out).2.1); rintro e w20 ⟨rfl, hb⟩; replace HO1617 := Aside0.mk (Kd.R_below (kdU_ HO1617.out) hb); replace HO1620 := Aside0.mk (Kd.R_below (kdU_ HO1620.out) hb); replace HB := stepB_ hb; (try clear hb)) | (go_at_call 45; (with_reducible refine (impl_TreeRoot.calls k _ _ t1615 t1628 t1629 t1630 t1631 _ ?side1 ?side2 A12.out).mono ?_); (case side1 => repeat (first | exact (Kd.R_reads' HO1617.out).2.2 | (with_reducible refine Kd.C_alloc ?_ _) | (with_reducible refine Kd.C_drewN ?_ _) | (with_reducible refine Kd.C_drew ?_))); (case side2 => exact (Kd.R_reads' HO1617.out).2.1); rintro e w21 ⟨rfl, hb⟩; replace HO1617 := Aside0.mk (Kd.R_below (kdU_ HO1617.out) hb); replace HO1620 := Aside0.mk (Kd.R_below (kdU_ HO1620.out) hb); replace HB := stepB_ hb; (try clear hb)) | (go_at_call 45; (with_reducible refine (impl_TreeRoot.calls k _ _ t1615 t1632 t1633 t1634 t1635 _ ?side1 ?side2 A14.out).mono ?_); (case side1 => repeat (first | exact (Kd.R_reads' HO1617.out).2.2 | (with_reducible refine Kd.C_alloc ?_ _) | (with_reducible refine Kd.C_drewN ?_ _) | (with_reducible refine Kd.C_drew ?_))); (case side2 => exact (Kd.R_reads' HO1617.out).2.1); rintro e w22 ⟨rfl, hb⟩; replace HO1617 := Aside0.mk (Kd.R_below (kdU_ HO1617.out) hb); replace HO1620 := Aside0.mk (Kd.R_below (kdU_ HO1620.out) hb); replace HB := stepB_ hb; (try clear hb)) | (go_at_call 43; (with_reducible refine (spec_TreeRoot.calls k _ _ t1615 t1636 t1637 t1638 t1639 _ ?side1 ?side2 A15.out).mono ?_); (case side1 => repeat (first | exact (Kd.R_reads' HO1617.out).2.2 | (with_reducible refine Kd.C_alloc ?_ _) | (with_reducible refine Kd.C_drewN ?_ _) | (with_reducible refine Kd.C_drew ?_))); (case side2 => exact (Kd.R_reads' HO1617.out).2.1); rintro e w23 ⟨rfl, hb⟩; replace HO1617 := Aside0.mk (Kd.R_below (kdU_ HO1617.out) hb); replace HO1620 := Aside0.mk (Kd.R_below (kdU_ HO1620.out) hb); replace HB := stepB_ hb; (try clear hb)))
            go_ret
            exact ⟨rfl_, bel_⟩
          · rw [if_neg c13] at H
            have c13b0 : (t1624 == t1628 && (t1625 == t1629 && (t1626 == t1630 && (t1627 == t1631)))) = false := by simpa using c13
            (try (have c13b1 : decide (t1624 = t1628 && (t1625 == t1629 && (t1626 == t1630 && (t1627 == t1631)))) = false := by simpa using c13))
            (try (have c13b2 : (t1624 == t1628 && (t1625 == t1629 && (t1626 == t1630 && (t1627 == t1631)))) = false := by simpa using c13))
            (try (have c13b3 : ¬ (t1624 = t1628 && (t1625 == t1629 && (t1626 == t1630 && (t1627 == t1631)))) := by simpa using c13))
            clear c13
            exact absurd ((Option.some.inj H).trans hr_) (by decide)
        · rw [if_neg c10] at H
          have c10b0 : ((t1618.length : Int) == t1623) = false := beq_eq_false_iff_ne.mpr c10
          have c10b1 : ((t1618.length : Int) != t1623) = true := bne_iff_ne.mpr c10
          exact absurd ((Option.some.inj H).trans hr_) (by decide)
      · rw [if_neg c8] at H
        have c8b0 : ((t1618.length : Int) == t1622) = false := beq_eq_false_iff_ne.mpr c8
        have c8b1 : ((t1618.length : Int) != t1622) = true := bne_iff_ne.mpr c8
        exact absurd ((Option.some.inj H).trans hr_) (by decide)
    · replace c6 := Bool.eq_false_iff.mpr c6
      subst c6
      rw [if_neg (show ¬ (false = true) by decide)] at H
      obtain rfl := Option.some.inj H
      go_enter Try.func17, Try.ntmps17
      go_wp2_with (first | ((with_reducible refine gate_callee (f := 66) rfl ?_); refine goL_ (some 9) Try.func66 #[.slice A0 l0.length c0] ?_; (with_reducible refine (spec_DrawTreePeaks.calls k _ _ l0 t1615 _ ?side1 ?side2 A3.out).mono ?_); (case side1 => repeat (first | exact HR0.out | (with_reducible refine Kd.C_alloc ?_ _) | (with_reducible refine Kd.C_drewN ?_ _) | (with_reducible refine Kd.C_drew ?_))); (case side2 => exact HC0.out); rintro e w24 ⟨v1616, rfl, ho0, hb⟩; refine ⟨_, rfl, ?_⟩; have HO1617 := Aside0.mk (Kd.R_lower ho0 (below_size bel_)); replace HB := stepB_ hb; (try clear hb); (try clear ho0); obtain ⟨Ao25, co25, eo25⟩ := Kd.R_slice HO1617.out; subst eo25) | ((with_reducible refine gate_callee (f := 64) rfl ?_); refine goL_ (some 11) Try.func64 #[.slice Ao25 t1615.length co25] ?_; (with_reducible refine (impl_TreePeaks.calls k (fun k_ => some k_ = (.slice Ao25 t1615.length co25 : Value).ownBlock) _ _ t1615 t1618 _ ?side1 A4.out).mono ?_); (case side1 => exact Kd.R_V (Kd.R_tight rfl (HO1617.out))); rintro e w26 ⟨v1619, rfl, ho0, hb⟩; refine ⟨_, rfl, ?_⟩; replace HO1617 := Aside0.mk (Kd.R_below (kdU_ HO1617.out) hb); have HO1620 := Aside0.mk (Kd.R_lower (Kd.R_mono (ok' := fun k_ => True) ho0 (fun _ hk_ => trivial)) (below_size bel_)); replace HB := stepB_ hb; (try clear hb); (try clear ho0)) | ((with_reducible refine gate_callee (f := 53) rfl ?_); refine goL_ (some 13) Try.func53 #[.slice Ao25 t1615.length co25] ?_; (with_reducible refine (spec_LeavesOk.calls k _ _ t1615 false _ ?side1 ?side2 A5.out).mono ?_); (case side1 => repeat (first | exact (Kd.R_reads' HO1617.out).2.2 | (with_reducible refine Kd.C_alloc ?_ _) | (with_reducible refine Kd.C_drewN ?_ _) | (with_reducible refine Kd.C_drew ?_))); (case side2 => exact (Kd.R_reads' HO1617.out).2.1); rintro e w' ⟨rfl, ⟨nd, rfl⟩⟩; refine ⟨_, rfl, ?_⟩; obtain ⟨Ao27, co27, eo27⟩ := Kd.R_slice HO1620.out; subst eo27))
      go_ret
      exact ⟨rfl_, bel_⟩

/-- THE ONE PURE STATEMENT of laws_FnPeaks: yours. -/
def laws_FnPeaks.Pure : Prop := ∀ (l0 : List Int), l0.length ≤ maxLen → l0.length * 1 ≤ 140737488351232 → (∀ x ∈ l0, (Lit.int .u8 x).wf = true) → ∃ k, laws_FnPeaks.f k l0 = some true
theorem laws_FnPeaks.walk (P : laws_FnPeaks.Pure) (a0 : Option Addr) (len0 cap0 : Nat) (z0 : List Int) (w : World) (w0 : (a0 = none ∧ len0 = 0 ∧ cap0 = 0 ∧ z0 = []) ∨ ∃ x, a0 = some x ∧ len0 ≤ cap0 ∧ cap0 ≤ maxLen ∧ z0.length = cap0 ∧ (∀ i, i < z0.length → w.cell? (x.add i) = some (.int .u8 (z0.getD i 0))) ∧ ∀ n ∈ z0, (Lit.int .u8 n).wf = true) (y0 : len0 * 1 ≤ 140737488351232) :
    Calls Try.prog 17 #[.slice a0 len0 cap0] w fun e w' => e = .returned (.bool true) ∧ Below w.heap.size w w' := by
  obtain ⟨l0, rfl, hr0, hm0, hw0, hc0⟩ := ReadsInt.ofRowC w0
  obtain ⟨k, h⟩ := P l0 hm0 y0 hw0
  refine (laws_FnPeaks.calls k _ _ l0 true rfl w (Kd.C_of_reads (d := (0 : Int)) (h1 := fun _ => rfl) hr0) hc0 h).mono ?_
  rintro e w' ⟨rfl, hd⟩
  exact ⟨rfl, hd⟩

end
end Go.Proofs.Ytemfciflhbhobaa.B
