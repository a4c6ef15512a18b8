/- What the Go functions loop.example/belfry/laws.FnExactGrowthOf do is what the Lean functions .f of their names here say; condition: .f gives an answer. (Written by the session's program pp.py over the kit's print; Lean checks it.) -/
import Derived.Test.YtemfciflhbhobaaK
import Derived.Test.YtemfciflhbhobaaM
import Derived.Test.YtemfciflhbhobaaFImplGrowthOf
import Derived.Test.YtemfciflhbhobaaFSpecGrowthOf
import Derived.Test.YtemfciflhbhobaaGLawD1
import Derived.Test.YtemfciflhbhobaaGLawMD1
import Derived.Test.YtemfciflhbhobaaGLawMS1
import Derived.Test.YtemfciflhbhobaaGLawS1
namespace Go.Proofs.Ytemfciflhbhobaa.B
open Go.RowKit Go.Proofs.YtemfciflhbhobaaW.PrintWords Go.Proofs.YtemfciflhbhobaaW.PrintLast Go.Proofs.YtemfciflhbhobaaW.PrintMore
attribute [local go_sem] max2_int min2_int max_two min_two max_three min_three max_four min_four   -- for this text's walks alone
set_option linter.unusedVariables false
set_option linter.unusedSimpArgs false

section
/-! ### laws_FnExactGrowthOf: function 20 -/
mutual
def laws_FnExactGrowthOf.j0 : Nat → List ByteArray → Int → List (S29) → Bool → List ByteArray → List (S29) → Bool → Bool → Option (Bool)
  | 0, _, _, _, _, _, _, _, _ => none
  | k + 1, x0, x1, x6, x7, x8, x9, x10, x44 => if x44 = true then (some false) else ((laws_toStringS.f k x0).bind fun t1577 => ((laws_eqStringS.f k x8 t1577).bind fun t1580 => (if t1580 = true then ((laws_markStringS.f k x8 1).bind fun bt1581 => (if bt1581.1 < 0 then (laws_FnExactGrowthOf.j1 k x0 x1 x6 x7 x9 true) else ((laws_eqDigestS.f k x9 x6).bind fun t1583 => (if t1583 = true then (laws_FnExactGrowthOf.j1 k x0 x1 x6 x7 x9 (x10 != x7)) else (laws_FnExactGrowthOf.j1 k x0 x1 x6 x7 x9 true))))) else (some false))))
def laws_FnExactGrowthOf.j1 : Nat → List ByteArray → Int → List (S29) → Bool → List (S29) → Bool → Option (Bool)
  | 0, _, _, _, _, _, _ => none
  | k + 1, x0, x1, x6, x7, x9, x65 => if x65 = true then (some false) else ((laws_markDigestS.f k x9 1).bind fun bt1584 => ((laws_heldDigestS.f k bt1584.2 1).bind fun t1586 => (if t1586 < 0 then (some false) else (if t1586 = bt1584.1 then ((laws_toStringS.f k x0).bind fun t1587 => ((impl_GrowthOf.f k t1587 x1).bind fun bt1590 => ((laws_eqDigestS.f k bt1590.1 x6).bind fun t1594 => (if t1594 = true then (laws_FnExactGrowthOf.j2 k bt1584.2 bt1584.1 (bt1590.2 != x7)) else (laws_FnExactGrowthOf.j2 k bt1584.2 bt1584.1 true))))) else (some false)))))
def laws_FnExactGrowthOf.j2 : Nat → List (S29) → Int → Bool → Option (Bool)
  | 0, _, _, _ => none
  | k + 1, x9, x12, x92 => if x92 = true then (some false) else ((laws_heldDigestS.f k x9 1).bind fun t1595 => (if t1595 < 0 then (some false) else (if t1595 = x12 then (some true) else (some false))))
end
def laws_FnExactGrowthOf.f (k : Nat) (l0 : List ByteArray) (a1 : Int) : Option (Bool) := (laws_szStringS.f k l0 1048576).bind fun t1561 => (if t1561 < 0 then (some true) else ((laws_toStringS.f k l0).bind fun t1562 => ((spec_GrowthOf.f k t1562 a1).bind fun bt1565 => ((laws_toStringS.f k l0).bind fun t1569 => ((impl_GrowthOf.f k t1569 a1).bind fun bt1572 => ((laws_eqDigestS.f k bt1572.1 bt1565.1).bind fun t1576 => (if t1576 = true then (laws_FnExactGrowthOf.j0 k l0 a1 bt1565.1 bt1565.2 t1569 bt1572.1 bt1572.2 (bt1572.2 != bt1565.2)) else (laws_FnExactGrowthOf.j0 k l0 a1 bt1565.1 bt1565.2 t1569 bt1572.1 bt1572.2 true))))))))
theorem laws_FnExactGrowthOf.mono_l : ∀ k, (∀ y0 y1 y2 y3 y4 y5 y6 y7, LeO (laws_FnExactGrowthOf.j0 k y0 y1 y2 y3 y4 y5 y6 y7) (laws_FnExactGrowthOf.j0 (k + 1) y0 y1 y2 y3 y4 y5 y6 y7)) ∧ (∀ y0 y1 y2 y3 y4 y5, LeO (laws_FnExactGrowthOf.j1 k y0 y1 y2 y3 y4 y5) (laws_FnExactGrowthOf.j1 (k + 1) y0 y1 y2 y3 y4 y5)) ∧ (∀ y0 y1 y2, LeO (laws_FnExactGrowthOf.j2 k y0 y1 y2) (laws_FnExactGrowthOf.j2 (k + 1) y0 y1 y2))
  | 0 => ⟨fun _ _ _ _ _ _ _ _ r h => by simp [laws_FnExactGrowthOf.j0] at h, fun _ _ _ _ _ _ r h => by simp [laws_FnExactGrowthOf.j1] at h, fun _ _ _ r h => by simp [laws_FnExactGrowthOf.j2] at h⟩
  | k + 1 => by
    obtain ⟨ih0, ih1, ih2⟩ := laws_FnExactGrowthOf.mono_l k
    refine ⟨?_, ?_, ?_⟩
    · intro y0 y1 y2 y3 y4 y5 y6 y7
      unfold laws_FnExactGrowthOf.j0
      repeat' first | (with_reducible first | exact ih0 _ _ _ _ _ _ _ _ | exact ih1 _ _ _ _ _ _ | exact ih2 _ _ _ | exact impl_GrowthOf.mono _ _ _ | exact laws_eqDigestS.mono _ _ _ | exact laws_eqStringS.mono _ _ _ | exact laws_heldDigestS.mono _ _ _ | exact laws_markDigestS.mono _ _ _ | exact laws_markStringS.mono _ _ _ | exact laws_szStringS.mono _ _ _ | exact laws_toStringS.mono _ _ | exact spec_GrowthOf.mono _ _ _ | exact LeO.refl _ | exact LeO.none _ | refine LeO.ite ?_ ?_ | refine LeO.bind ?_ (fun _ => ?_)) | exact ih0 _ _ _ _ _ _ _ _ | exact ih1 _ _ _ _ _ _ | exact ih2 _ _ _ | exact LeO.none _ | refine LeO.ite ?_ ?_ | refine LeO.bind ?_ (fun _ => ?_)
    · intro y0 y1 y2 y3 y4 y5
      unfold laws_FnExactGrowthOf.j1
      repeat' first | (with_reducible first | exact ih0 _ _ _ _ _ _ _ _ | exact ih1 _ _ _ _ _ _ | exact ih2 _ _ _ | exact impl_GrowthOf.mono _ _ _ | exact laws_eqDigestS.mono _ _ _ | exact laws_eqStringS.mono _ _ _ | exact laws_heldDigestS.mono _ _ _ | exact laws_markDigestS.mono _ _ _ | exact laws_markStringS.mono _ _ _ | exact laws_szStringS.mono _ _ _ | exact laws_toStringS.mono _ _ | exact spec_GrowthOf.mono _ _ _ | exact LeO.refl _ | exact LeO.none _ | refine LeO.ite ?_ ?_ | refine LeO.bind ?_ (fun _ => ?_)) | exact ih0 _ _ _ _ _ _ _ _ | exact ih1 _ _ _ _ _ _ | exact ih2 _ _ _ | exact LeO.none _ | refine LeO.ite ?_ ?_ | refine LeO.bind ?_ (fun _ => ?_)
    · intro y0 y1 y2
      unfold laws_FnExactGrowthOf.j2
      repeat' first | (with_reducible first | exact ih0 _ _ _ _ _ _ _ _ | exact ih1 _ _ _ _ _ _ | exact ih2 _ _ _ | exact impl_GrowthOf.mono _ _ _ | exact laws_eqDigestS.mono _ _ _ | exact laws_eqStringS.mono _ _ _ | exact laws_heldDigestS.mono _ _ _ | exact laws_markDigestS.mono _ _ _ | exact laws_markStringS.mono _ _ _ | exact laws_szStringS.mono _ _ _ | exact laws_toStringS.mono _ _ | exact spec_GrowthOf.mono _ _ _ | exact LeO.refl _ | exact LeO.none _ | refine LeO.ite ?_ ?_ | refine LeO.bind ?_ (fun _ => ?_)) | exact ih0 _ _ _ _ _ _ _ _ | exact ih1 _ _ _ _ _ _ | exact ih2 _ _ _ | exact LeO.none _ | refine LeO.ite ?_ ?_ | refine LeO.bind ?_ (fun _ => ?_)
theorem laws_FnExactGrowthOf.mono : ∀ a0 a1 k, LeO (laws_FnExactGrowthOf.f k a0 a1) (laws_FnExactGrowthOf.f (k + 1) a0 a1) := by
  intro a0 a1 k
  obtain ⟨ih0, ih1, ih2⟩ := laws_FnExactGrowthOf.mono_l k
  unfold laws_FnExactGrowthOf.f
  repeat' first | (with_reducible first | exact ih0 _ _ _ _ _ _ _ _ | exact ih1 _ _ _ _ _ _ | exact ih2 _ _ _ | exact impl_GrowthOf.mono _ _ _ | exact laws_eqDigestS.mono _ _ _ | exact laws_eqStringS.mono _ _ _ | exact laws_heldDigestS.mono _ _ _ | exact laws_markDigestS.mono _ _ _ | exact laws_markStringS.mono _ _ _ | exact laws_szStringS.mono _ _ _ | exact laws_toStringS.mono _ _ | exact spec_GrowthOf.mono _ _ _ | exact LeO.refl _ | exact LeO.none _ | refine LeO.ite ?_ ?_ | refine LeO.bind ?_ (fun _ => ?_)) | exact ih0 _ _ _ _ _ _ _ _ | exact ih1 _ _ _ _ _ _ | exact ih2 _ _ _ | exact LeO.none _ | refine LeO.ite ?_ ?_ | refine LeO.bind ?_ (fun _ => ?_)
set_option maxHeartbeats 8000000 in
set_option maxRecDepth 100000 in
theorem laws_FnExactGrowthOf.calls (k : Nat) (A0 : Option Addr) (c0 : Nat) (l0 : List ByteArray) (a1 : Int) (r : Bool) (hr_ : r = true) (w : World) (hr0 : Kd.C Kd.string w A0 l0.length l0) (hc0 : l0.length ≤ c0) (h : laws_FnExactGrowthOf.f k l0 a1 = some r) :
    Calls Try.prog 20 #[.slice A0 l0.length c0, .int .i64 a1] w fun e w' => e = .returned (.bool r) ∧ Below w.heap.size w w' := by
  have HR0 := Aside0.mk hr0
  have HC0 := Aside0.mk hc0
  clear hr0 hc0
  have HB := Aside0.mk (Below.refl w.heap.size w)
  have H : ((laws_szStringS.f k l0 1048576).bind fun t1561 => (if t1561 < 0 then (some true) else ((laws_toStringS.f k l0).bind fun t1562 => ((spec_GrowthOf.f k t1562 a1).bind fun bt1565 => ((laws_toStringS.f k l0).bind fun t1569 => ((impl_GrowthOf.f k t1569 a1).bind fun bt1572 => ((laws_eqDigestS.f k bt1572.1 bt1565.1).bind fun t1576 => (if t1576 = true then (laws_FnExactGrowthOf.j0 k l0 a1 bt1565.1 bt1565.2 t1569 bt1572.1 bt1572.2 (bt1572.2 != bt1565.2)) else (laws_FnExactGrowthOf.j0 k l0 a1 bt1565.1 bt1565.2 t1569 bt1572.1 bt1572.2 true))))))))) = some r := h
  clear h
  obtain ⟨t1561, A3, H⟩ := bnd_ H
  by_cases c4 : t1561 < 0
  · rw [if_pos c4] at H
    have c4b0 : decide (t1561 < 0) = true := decide_eq_true c4
    clear c4
    obtain rfl := Option.some.inj H
    go_enter Try.func20, Try.ntmps20
    go_wp2_with (first | ((with_reducible refine gate_callee (f := 42) rfl ?_); refine goL_ (some 18) Try.func42 #[.slice A0 l0.length c0, .int .i64 1048576] ?_; (with_reducible refine (laws_szStringS.calls k _ _ l0 1048576 t1561 _ ?side1 ?side2 A3.out).mono ?_); (case side1 => repeat (first | exact HR0.out | (with_reducible refine Kd.C_alloc ?_ _) | (with_reducible refine Kd.C_drewN ?_ _) | (with_reducible refine Kd.C_drew ?_))); (case side2 => exact HC0.out); rintro e w' ⟨rfl, ⟨nd, rfl⟩⟩; refine ⟨_, rfl, ?_⟩))
    go_ret
    exact ⟨rfl_, bel_⟩
  · rw [if_neg c4] at H
    have c4b0 : decide (t1561 < 0) = false := decide_eq_false c4
    clear c4
    obtain ⟨t1562, A5, H⟩ := bnd_ H
    obtain ⟨⟨t1565, t1566⟩, A6, H⟩ := bnd_ H
    dsimp only at H
    obtain ⟨t1569, A7, H⟩ := bnd_ H
    obtain ⟨⟨t1572, t1573⟩, A8, H⟩ := bnd_ H
    dsimp only at H
    have HC9 := Aside0.mk H
    clear H
    go_enter Try.func20, Try.ntmps20
    go_upto_region 8 with (first | ((with_reducible refine gate_callee (f := 42) rfl ?_); refine goL_ (some 18) Try.func42 #[.slice A0 l0.length c0, .int .i64 1048576] ?_; (with_reducible refine (laws_szStringS.calls k _ _ l0 1048576 t1561 _ ?side1 ?side2 A3.out).mono ?_); (case side1 => repeat (first | exact HR0.out | (with_reducible refine Kd.C_alloc ?_ _) | (with_reducible refine Kd.C_drewN ?_ _) | (with_reducible refine Kd.C_drew ?_))); (case side2 => exact HC0.out); rintro e w' ⟨rfl, ⟨nd, rfl⟩⟩; refine ⟨_, rfl, ?_⟩) | ((with_reducible refine gate_callee (f := 44) rfl ?_); refine goL_ (some 23) Try.func44 #[.slice A0 l0.length c0] ?_; (with_reducible refine (laws_toStringS.calls k _ _ l0 t1562 _ ?side1 ?side2 A5.out).mono ?_); (case side1 => repeat (first | exact HR0.out | (with_reducible refine Kd.C_alloc ?_ _) | (with_reducible refine Kd.C_drewN ?_ _) | (with_reducible refine Kd.C_drew ?_))); (case side2 => exact HC0.out); rintro e w10 ⟨v1563, rfl, ho0, hb⟩; refine ⟨_, rfl, ?_⟩; have HO1564 := Aside0.mk (Kd.R_lower ho0 (below_size bel_)); replace HB := stepB_ hb; (try clear hb); (try clear ho0); obtain ⟨Ao11, co11, eo11⟩ := Kd.R_slice HO1564.out; subst eo11) | ((with_reducible refine gate_callee (f := 86) rfl ?_); refine goL_ (some 25) Try.func86 #[.slice Ao11 t1562.length co11, .int .i64 a1] ?_; (with_reducible refine (spec_GrowthOf.calls k _ _ t1562 a1 t1565 t1566 _ ?side1 ?side2 A6.out).mono ?_); (case side1 => repeat (first | exact (Kd.R_reads' HO1564.out).2.2 | (with_reducible refine Kd.C_alloc ?_ _) | (with_reducible refine Kd.C_drewN ?_ _) | (with_reducible refine Kd.C_drew ?_))); (case side2 => exact (Kd.R_reads' HO1564.out).2.1); rintro e w12 ⟨v1567, rfl, ho0, hb⟩; refine ⟨_, rfl, ?_⟩; replace HO1564 := Aside0.mk (Kd.R_below (kdU_ HO1564.out) hb); have HO1568 := Aside0.mk (Kd.R_lower ho0 (below_size bel_)); replace HB := stepB_ hb; (try clear hb); (try clear ho0)) | ((with_reducible refine gate_callee (f := 44) rfl ?_); refine goL_ (some 29) Try.func44 #[.slice A0 l0.length c0] ?_; (with_reducible refine (laws_toStringS.calls k _ _ l0 t1569 _ ?side1 ?side2 A7.out).mono ?_); (case side1 => repeat (first | exact (Kd.C_below HR0.out HB.out) | (with_reducible refine Kd.C_alloc ?_ _) | (with_reducible refine Kd.C_drewN ?_ _) | (with_reducible refine Kd.C_drew ?_))); (case side2 => exact HC0.out); rintro e w13 ⟨v1570, rfl, ho0, hb⟩; refine ⟨_, rfl, ?_⟩; replace HO1568 := Aside0.mk (Kd.R_below (kdU_ HO1568.out) hb); have HO1571 := Aside0.mk (Kd.R_lower (Kd.R_new' ho0 (Kd.R_lt (kdU_ HO1564.out))) (below_size bel_)); replace HO1564 := Aside0.mk (Kd.R_elder' (kdU_ HO1564.out) (Kd.R_base ho0) hb); replace HB := stepB_ hb; (try clear hb); (try clear ho0); obtain ⟨Ao14, co14, eo14⟩ := Kd.R_slice HO1571.out; subst eo14) | ((with_reducible refine gate_callee (f := 72) rfl ?_); refine goL_ (some 33) Try.func72 #[.slice Ao14 t1569.length co14, .int .i64 a1] ?_; (with_reducible refine (impl_GrowthOf.calls k _ _ t1569 a1 t1572 t1573 _ ?side1 ?side2 A8.out).mono ?_); (case side1 => repeat (first | exact (Kd.R_reads' HO1571.out).2.2 | (with_reducible refine Kd.C_alloc ?_ _) | (with_reducible refine Kd.C_drewN ?_ _) | (with_reducible refine Kd.C_drew ?_))); (case side2 => exact (Kd.R_reads' HO1571.out).2.1); rintro e w15 ⟨v1574, rfl, ho0, hb⟩; refine ⟨_, rfl, ?_⟩; replace HO1564 := Aside0.mk (Kd.R_below (kdU_ HO1564.out) hb); replace HO1571 := Aside0.mk (Kd.R_below (kdU_ HO1571.out) hb); have HO1575 := Aside0.mk (Kd.R_lower (Kd.R_new' ho0 (Kd.R_lt (kdU_ HO1568.out))) (below_size bel_)); replace HO1568 := Aside0.mk (Kd.R_elder' (kdU_ HO1568.out) (Kd.R_base ho0) hb); replace HB := stepB_ hb; (try clear hb); (try clear ho0)))
    (try simp only [Act.put, List.setIfInBounds_toArray, List.set_cons_zero, List.set_cons_succ])
    go_cut [44] (fun v44 wc => ∃ (kq : Nat) (x44_8 : Bool), v44 = .bool x44_8 ∧ Aside0 (laws_FnExactGrowthOf.j0 kq l0 a1 t1565 t1566 t1569 t1572 t1573 x44_8 = some r) ∧ Aside0 (kq ≤ k) ∧ Aside0 (Kd.R k29 29 wc w.heap.size (fun k_ => some k_ ≠ (v1574 : Value).ownBlock) v1567 t1565) ∧ Aside0 (Kd.R Kd.string 9 wc w.heap.size (fun _ => True) (.slice Ao14 t1569.length co14) t1569) ∧ Aside0 (Kd.R k29 29 wc w.heap.size (fun k_ => some k_ ≠ (v1567 : Value).ownBlock) v1574 t1572) ∧ Aside0 (Below w.heap.size w wc))
    case first =>
      have H := HC9.out
      clear HC9
      obtain ⟨t1576, A16, H⟩ := bnd_ H
      by_cases c17 : t1576 = true
      · subst c17
        rw [if_pos rfl] at H
        have H' := Aside0.mk H
        clear H
        obtain ⟨Ao18, co18, eo18⟩ := Kd.R_slice HO1575.out
        subst eo18
        obtain ⟨Ao19, co19, eo19⟩ := Kd.R_slice HO1568.out
        subst eo19
        go_wp2_with (first | ((with_reducible refine gate_callee (f := 39) rfl ?_); refine goL_ (some 38) Try.func39 #[.slice Ao18 t1572.length co18, .slice Ao19 t1565.length co19] ?_; (with_reducible refine (laws_eqDigestS.calls k _ _ t1572 _ _ t1565 true _ ?side1 ?side2 ?side3 ?side4 A16.out).mono ?_); (case side1 => repeat (first | exact (Kd.R_reads' HO1575.out).2.2 | (with_reducible refine Kd.C_alloc ?_ _) | (with_reducible refine Kd.C_drewN ?_ _) | (with_reducible refine Kd.C_drew ?_))); (case side2 => exact (Kd.R_reads' HO1575.out).2.1); (case side3 => repeat (first | exact (Kd.R_reads' HO1568.out).2.2 | (with_reducible refine Kd.C_alloc ?_ _) | (with_reducible refine Kd.C_drewN ?_ _) | (with_reducible refine Kd.C_drew ?_))); (case side4 => exact (Kd.R_reads' HO1568.out).2.1); rintro e w20 ⟨rfl, hb⟩; refine ⟨_, rfl, ?_⟩; replace HO1564 := Aside0.mk (Kd.R_below (kdU_ HO1564.out) hb); replace HO1568 := Aside0.mk (Kd.R_below (kdU_ HO1568.out) hb); replace HO1571 := Aside0.mk (Kd.R_below (kdU_ HO1571.out) hb); replace HO1575 := Aside0.mk (Kd.R_below (kdU_ HO1575.out) hb); replace HB := stepB_ hb; (try clear hb)))
        go_meet
        case rel => exact ⟨_, ((t1573 != t1566)), (by first | rfl | (simp; done) | (simp [*]; done)), H', ⟨by first | omega | exact Nat.le_refl _⟩, ⟨by (with_reducible repeat (first | apply Kd.R_alloc | apply Kd.R_drewN | apply Kd.R_drew)); exact Kd.R_mono HO1568.out (fun _ hk => hk.2)⟩, ⟨by (with_reducible repeat (first | apply Kd.R_alloc | apply Kd.R_drewN | apply Kd.R_drew)); exact Kd.R_mono HO1571.out (fun _ hk => trivial)⟩, ⟨by (with_reducible repeat (first | apply Kd.R_alloc | apply Kd.R_drewN | apply Kd.R_drew)); exact Kd.R_mono HO1575.out (fun _ hk => hk.2)⟩, ⟨bel_⟩⟩
      · replace c17 := Bool.eq_false_iff.mpr c17
        subst c17
        rw [if_neg (show ¬ (false = true) by decide)] at H
        have H' := Aside0.mk H
        clear H
        obtain ⟨Ao21, co21, eo21⟩ := Kd.R_slice HO1575.out
        subst eo21
        obtain ⟨Ao22, co22, eo22⟩ := Kd.R_slice HO1568.out
        subst eo22
        go_wp2_with (first | ((with_reducible refine gate_callee (f := 39) rfl ?_); refine goL_ (some 38) Try.func39 #[.slice Ao21 t1572.length co21, .slice Ao22 t1565.length co22] ?_; (with_reducible refine (laws_eqDigestS.calls k _ _ t1572 _ _ t1565 false _ ?side1 ?side2 ?side3 ?side4 A16.out).mono ?_); (case side1 => repeat (first | exact (Kd.R_reads' HO1575.out).2.2 | (with_reducible refine Kd.C_alloc ?_ _) | (with_reducible refine Kd.C_drewN ?_ _) | (with_reducible refine Kd.C_drew ?_))); (case side2 => exact (Kd.R_reads' HO1575.out).2.1); (case side3 => repeat (first | exact (Kd.R_reads' HO1568.out).2.2 | (with_reducible refine Kd.C_alloc ?_ _) | (with_reducible refine Kd.C_drewN ?_ _) | (with_reducible refine Kd.C_drew ?_))); (case side4 => exact (Kd.R_reads' HO1568.out).2.1); rintro e w23 ⟨rfl, hb⟩; refine ⟨_, rfl, ?_⟩; replace HO1564 := Aside0.mk (Kd.R_below (kdU_ HO1564.out) hb); replace HO1568 := Aside0.mk (Kd.R_below (kdU_ HO1568.out) hb); replace HO1571 := Aside0.mk (Kd.R_below (kdU_ HO1571.out) hb); replace HO1575 := Aside0.mk (Kd.R_below (kdU_ HO1575.out) hb); replace HB := stepB_ hb; (try clear hb); (try clear hk)))
        go_meet
        case rel => exact ⟨_, (true), (by first | rfl | (simp; done) | (simp [*]; done)), H', ⟨by first | omega | exact Nat.le_refl _⟩, ⟨by (with_reducible repeat (first | apply Kd.R_alloc | apply Kd.R_drewN | apply Kd.R_drew)); exact Kd.R_mono HO1568.out (fun _ hk => hk.2)⟩, ⟨by (with_reducible repeat (first | apply Kd.R_alloc | apply Kd.R_drewN | apply Kd.R_drew)); exact Kd.R_mono HO1571.out (fun _ hk => trivial)⟩, ⟨by (with_reducible repeat (first | apply Kd.R_alloc | apply Kd.R_drewN | apply Kd.R_drew)); exact Kd.R_mono HO1575.out (fun _ hk => hk.2)⟩, ⟨bel_⟩⟩
    case rest =>
      clear HC9
      (try clear c4); (try clear c4b0); (try clear c17)
      obtain ⟨kq, x44_8, rfl, HA, HJ8, HO_6, HO_8, HO_9, HB⟩ := hcut
      cases kq with
      | zero => exact absurd HA.out (by simp [laws_FnExactGrowthOf.j0])
      | succ kj8 =>
        have H := HA.out
        clear HA
        simp only [laws_FnExactGrowthOf.j0] at H
        by_cases c24 : x44_8 = true
        · subst c24
          rw [if_pos rfl] at H
          exact absurd ((Option.some.inj H).trans hr_) (by decide)
        · replace c24 := Bool.eq_false_iff.mpr c24
          subst c24
          rw [if_neg (show ¬ (false = true) by decide)] at H
          obtain ⟨t1577, A25, H⟩ := bnd_ H
          obtain ⟨t1580, A26, H⟩ := bnd_ H
          by_cases c27 : t1580 = true
          · subst c27
            rw [if_pos rfl] at H
            obtain ⟨⟨t1581, t1582⟩, A28, H⟩ := bnd_ H
            dsimp only at H
            have HC29 := Aside0.mk H
            clear H
            go_upto_region 14 with (first | ((with_reducible refine gate_callee (f := 44) rfl ?_); refine goL_ (some 47) Try.func44 #[.slice A0 l0.length c0] ?_; (with_reducible refine (laws_toStringS.calls kj8 _ _ l0 t1577 _ ?side1 ?side2 A25.out).mono ?_); (case side1 => repeat (first | exact (Kd.C_below HR0.out HB.out) | (with_reducible refine Kd.C_alloc ?_ _) | (with_reducible refine Kd.C_drewN ?_ _) | (with_reducible refine Kd.C_drew ?_))); (case side2 => exact HC0.out); rintro e w30 ⟨v1578, rfl, ho0, hb⟩; refine ⟨_, rfl, ?_⟩; replace HO_6 := Aside0.mk (Kd.R_below (kdU_ HO_6.out) hb); replace HO_9 := Aside0.mk (Kd.R_below (kdU_ HO_9.out) hb); have HO1579 := Aside0.mk (Kd.R_lower (Kd.R_new' ho0 (Kd.R_lt (kdU_ HO_8.out))) (below_size bel_)); replace HO_8 := Aside0.mk (Kd.R_elder' (kdU_ HO_8.out) (Kd.R_base ho0) hb); replace HB := stepB_ hb; (try clear hb); (try clear hk); (try clear ho0); obtain ⟨Ao31, co31, eo31⟩ := Kd.R_slice HO1579.out; subst eo31) | ((with_reducible refine gate_callee (f := 47) rfl ?_); refine goL_ (some 48) Try.func47 #[.slice Ao14 t1569.length co14, .slice Ao31 t1577.length co31] ?_; (with_reducible refine (laws_eqStringS.calls kj8 _ _ t1569 _ _ t1577 true _ ?side1 ?side2 ?side3 ?side4 A26.out).mono ?_); (case side1 => repeat (first | exact (Kd.R_reads' HO_8.out).2.2 | (with_reducible refine Kd.C_alloc ?_ _) | (with_reducible refine Kd.C_drewN ?_ _) | (with_reducible refine Kd.C_drew ?_))); (case side2 => exact (Kd.R_reads' HO_8.out).2.1); (case side3 => repeat (first | exact (Kd.R_reads' HO1579.out).2.2 | (with_reducible refine Kd.C_alloc ?_ _) | (with_reducible refine Kd.C_drewN ?_ _) | (with_reducible refine Kd.C_drew ?_))); (case side4 => exact (Kd.R_reads' HO1579.out).2.1); rintro e w' ⟨rfl, ⟨nd, rfl⟩⟩; refine ⟨_, rfl, ?_⟩) | ((with_reducible refine gate_callee (f := 65) rfl ?_); refine goL_ (some 52) Try.func65 #[.slice Ao14 t1569.length co14, .int .i64 1] ?_; (with_reducible refine (laws_markStringS.calls kj8 (fun k_ => some k_ = (.slice Ao14 t1569.length co14 : Value).ownBlock) (.slice Ao14 t1569.length co14) t1569 1 t1581 t1582 w _ ?side1 ?side2 A28.out).mono ?_); (case side1 => exact bel_); (case side2 => exact Kd.R_tight rfl HO_8.out); rintro e w32 ⟨rfl, hy0, hb, hkp⟩; refine ⟨_, rfl, ?_⟩; replace HO_6 := Aside0.mk (Kd.R_mono (ok' := fun k_ => some k_ ≠ (v1574 : Value).ownBlock) (Kd.R_keptB ((Kd.R_apart' HO_6.out (Kd.R_typed HO_8.out) (by decide))) hkp (fun k_ hk_ hs_ => (hk_.2) hs_)) (fun k_ hk_ => hk_.1.1)); replace HO_9 := Aside0.mk (Kd.R_mono (ok' := fun k_ => some k_ ≠ (v1567 : Value).ownBlock) (Kd.R_keptB ((Kd.R_apart' HO_9.out (Kd.R_typed HO_8.out) (by decide))) hkp (fun k_ hk_ hs_ => (hk_.2) hs_)) (fun k_ hk_ => hk_.1.1)); replace HO_8 := Aside0.mk (Kd.R_reok rfl hy0 (fun k_ e_ => HO_8.out.1 k_ e_)); replace HO1579 := Aside0.mk (Kd.R_mono (ok' := fun k_ => some k_ ≠ (.slice Ao14 t1569.length co14 : Value).ownBlock) (Kd.R_keptB (HO1579.out) hkp (fun k_ hk_ hs_ => (hk_.2) hs_)) (fun k_ hk_ => hk_.1.2)); replace HB := Aside0.mk (hb); (try clear hb); (try clear hkp); (try clear hy0)))
            (try simp only [Act.put, List.setIfInBounds_toArray, List.set_cons_zero, List.set_cons_succ])
            go_cut [65] (fun v65 wc => ∃ (kq : Nat) (x65_28 : Bool), v65 = .bool x65_28 ∧ Aside0 (laws_FnExactGrowthOf.j1 kq l0 a1 t1565 t1566 t1572 x65_28 = some r) ∧ Aside0 (kq ≤ kj8) ∧ Aside0 (Kd.R k29 29 wc w.heap.size (fun k_ => some k_ ≠ (v1574 : Value).ownBlock) v1567 t1565) ∧ Aside0 (Kd.R k29 29 wc w.heap.size (fun k_ => some k_ ≠ (v1567 : Value).ownBlock) v1574 t1572) ∧ Aside0 (Below w.heap.size w wc))
            case first =>
              have H := HC29.out
              clear HC29
              by_cases c33 : t1581 < 0
              · rw [if_pos c33] at H
                have c33b0 : decide (t1581 < 0) = true := decide_eq_true c33
                clear c33
                (first | rw [c33b0] | (simp only [i64_w, i32_w]; rw [c33b0]) | skip)
                have H' := Aside0.mk H
                clear H
                go_wp2
                go_meet
                case rel => exact ⟨_, (true), (by first | rfl | (simp; done) | (simp [*]; done)), H', ⟨by have := HJ8.out; first | omega | exact Nat.le_refl _⟩, ⟨kdU_ HO_6.out⟩, ⟨kdU_ HO_9.out⟩, ⟨bel_⟩⟩
              · rw [if_neg c33] at H
                have c33b0 : decide (t1581 < 0) = false := decide_eq_false c33
                clear c33
                (first | rw [c33b0] | (simp only [i64_w, i32_w]; rw [c33b0]) | skip)
                obtain ⟨t1583, A34, H⟩ := bnd_ H
                by_cases c35 : t1583 = true
                · subst c35
                  rw [if_pos rfl] at H
                  have H' := Aside0.mk H
                  clear H
                  obtain ⟨Ao36, co36, eo36⟩ := Kd.R_slice HO_9.out
                  subst eo36
                  obtain ⟨Ao37, co37, eo37⟩ := Kd.R_slice HO_6.out
                  subst eo37
                  go_wp2_with (first | (go_at_call 39; (with_reducible refine (laws_eqDigestS.calls kj8 _ _ t1572 _ _ t1565 true _ ?side1 ?side2 ?side3 ?side4 A34.out).mono ?_); (case side1 => repeat (first | exact (Kd.R_reads' HO_9.out).2.2 | (with_reducible refine Kd.C_alloc ?_ _) | (with_reducible refine Kd.C_drewN ?_ _) | (with_reducible refine Kd.C_drew ?_))); (case side2 => exact (Kd.R_reads' HO_9.out).2.1); (case side3 => repeat (first | exact (Kd.R_reads' HO_6.out).2.2 | (with_reducible refine Kd.C_alloc ?_ _) | (with_reducible refine Kd.C_drewN ?_ _) | (with_reducible refine Kd.C_drew ?_))); (case side4 => exact (Kd.R_reads' HO_6.out).2.1); rintro e w38 ⟨rfl, hb⟩; replace HO_6 := Aside0.mk (Kd.R_below (kdU_ HO_6.out) hb); replace HO_8 := Aside0.mk (Kd.R_below (kdU_ HO_8.out) hb); replace HO_9 := Aside0.mk (Kd.R_below (kdU_ HO_9.out) hb); replace HO1579 := Aside0.mk (Kd.R_below (kdU_ HO1579.out) hb); replace HB := stepB_ hb; (try clear hb); (try clear hk)))
                  go_meet
                  case rel => exact ⟨_, ((t1573 != t1566)), (by first | rfl | (simp; done) | (simp [*]; done)), H', ⟨by have := HJ8.out; first | omega | exact Nat.le_refl _⟩, ⟨kdU_ HO_6.out⟩, ⟨kdU_ HO_9.out⟩, ⟨bel_⟩⟩
                · replace c35 := Bool.eq_false_iff.mpr c35
                  subst c35
                  rw [if_neg (show ¬ (false = true) by decide)] at H
                  have H' := Aside0.mk H
                  clear H
                  obtain ⟨Ao39, co39, eo39⟩ := Kd.R_slice HO_9.out
                  subst eo39
                  obtain ⟨Ao40, co40, eo40⟩ := Kd.R_slice HO_6.out
                  subst eo40
                  go_wp2_with (first | (go_at_call 39; (with_reducible refine (laws_eqDigestS.calls kj8 _ _ t1572 _ _ t1565 false _ ?side1 ?side2 ?side3 ?side4 A34.out).mono ?_); (case side1 => repeat (first | exact (Kd.R_reads' HO_9.out).2.2 | (with_reducible refine Kd.C_alloc ?_ _) | (with_reducible refine Kd.C_drewN ?_ _) | (with_reducible refine Kd.C_drew ?_))); (case side2 => exact (Kd.R_reads' HO_9.out).2.1); (case side3 => repeat (first | exact (Kd.R_reads' HO_6.out).2.2 | (with_reducible refine Kd.C_alloc ?_ _) | (with_reducible refine Kd.C_drewN ?_ _) | (with_reducible refine Kd.C_drew ?_))); (case side4 => exact (Kd.R_reads' HO_6.out).2.1); rintro e w41 ⟨rfl, hb⟩; replace HO_6 := Aside0.mk (Kd.R_below (kdU_ HO_6.out) hb); replace HO_8 := Aside0.mk (Kd.R_below (kdU_ HO_8.out) hb); replace HO_9 := Aside0.mk (Kd.R_below (kdU_ HO_9.out) hb); replace HO1579 := Aside0.mk (Kd.R_below (kdU_ HO1579.out) hb); replace HB := stepB_ hb; (try clear hb); (try clear hk)))
                  go_meet
                  case rel => exact ⟨_, (true), (by first | rfl | (simp; done) | (simp [*]; done)), H', ⟨by have := HJ8.out; first | omega | exact Nat.le_refl _⟩, ⟨kdU_ HO_6.out⟩, ⟨kdU_ HO_9.out⟩, ⟨bel_⟩⟩
            case rest =>
              clear HC29
              (try clear c4); (try clear c4b0); (try clear c17); (try clear c24); (try clear c27); (try clear c33); (try clear c33b0); (try clear c35)
              obtain ⟨kq, x65_28, rfl, HA, HJ28, HO_6, HO_9, HB⟩ := hcut
              cases kq with
              | zero => exact absurd HA.out (by simp [laws_FnExactGrowthOf.j1])
              | succ kj28 =>
                have H := HA.out
                clear HA
                simp only [laws_FnExactGrowthOf.j1] at H
                by_cases c42 : x65_28 = true
                · subst c42
                  rw [if_pos rfl] at H
                  exact absurd ((Option.some.inj H).trans hr_) (by decide)
                · replace c42 := Bool.eq_false_iff.mpr c42
                  subst c42
                  rw [if_neg (show ¬ (false = true) by decide)] at H
                  obtain ⟨⟨t1584, t1585⟩, A43, H⟩ := bnd_ H
                  dsimp only at H
                  obtain ⟨t1586, A44, H⟩ := bnd_ H
                  by_cases c45 : t1586 < 0
                  · rw [if_pos c45] at H
                    have c45b0 : decide (t1586 < 0) = true := decide_eq_true c45
                    clear c45
                    exact absurd ((Option.some.inj H).trans hr_) (by decide)
                  · rw [if_neg c45] at H
                    have c45b0 : decide (t1586 < 0) = false := decide_eq_false c45
                    clear c45
                    by_cases c46 : t1586 = t1584
                    · rw [if_pos c46] at H
                      have c46b0 : (t1586 == t1584) = true := beq_iff_eq.mpr c46
                      have c46b1 : (t1586 != t1584) = false := bne_eq_false_iff_eq.mpr c46
                      clear c46
                      obtain ⟨t1587, A47, H⟩ := bnd_ H
                      obtain ⟨⟨t1590, t1591⟩, A48, H⟩ := bnd_ H
                      dsimp only at H
                      have HC49 := Aside0.mk H
                      clear H
                      obtain ⟨Ao50, co50, eo50⟩ := Kd.R_slice HO_9.out
                      subst eo50
                      go_upto_region 25 with (first | ((with_reducible refine gate_callee (f := 59) rfl ?_); refine goL_ (some 68) Try.func59 #[.slice Ao50 t1572.length co50, .int .i64 1] ?_; (with_reducible refine (laws_markDigestS.calls kj28 (fun k_ => some k_ = (.slice Ao50 t1572.length co50 : Value).ownBlock) (.slice Ao50 t1572.length co50) t1572 1 t1584 t1585 w _ ?side1 ?side2 A43.out).mono ?_); (case side1 => exact bel_); (case side2 => exact Kd.R_tight rfl HO_9.out); rintro e w51 ⟨rfl, hy0, hb, hkp⟩; refine ⟨_, rfl, ?_⟩; replace HO_6 := Aside0.mk (Kd.R_mono (ok' := fun k_ => some k_ ≠ (.slice Ao50 t1572.length co50 : Value).ownBlock) (Kd.R_keptB (HO_6.out) hkp (fun k_ hk_ hs_ => (hk_) hs_)) (fun k_ hk_ => hk_.1)); replace HO_9 := Aside0.mk (Kd.R_reok rfl hy0 (fun k_ e_ => HO_9.out.1 k_ e_)); replace HB := Aside0.mk (hb); (try clear hb); (try clear hkp); (try clear hy0)) | ((with_reducible refine gate_callee (f := 60) rfl ?_); refine goesL_ (some 71) rfl rfl Try.func60 (by kernel_rfl) rfl #[.slice Ao50 t1585.length co50, .int .i64 1] rfl (by (try simp only [List.map_toArray, List.map_cons, List.map_nil]); first | done | (rw [show t1585.length = t1572.length from (Kd.R_reads' HO_9.out).1.symm] <;> rfl) | rfl | (simp only [List.length_drop, List.length_take]; rfl)) ?_; (with_reducible refine (laws_heldDigestS.calls kj28 _ _ t1585 1 t1586 _ ?side1 ?side2 A44.out).mono ?_); (case side1 => repeat (first | exact (Kd.R_reads' HO_9.out).2.2 | (with_reducible refine Kd.C_alloc ?_ _) | (with_reducible refine Kd.C_drewN ?_ _) | (with_reducible refine Kd.C_drew ?_))); (case side2 => rw [show t1585.length = t1572.length from (Kd.R_reads' HO_9.out).1.symm]; exact (Kd.R_reads' HO_9.out).2.1); rintro e w' ⟨rfl, ⟨nd, rfl⟩⟩; refine ⟨_, rfl, ?_⟩) | ((with_reducible refine gate_callee (f := 44) rfl ?_); refine goL_ (some 79) Try.func44 #[.slice A0 l0.length c0] ?_; (with_reducible refine (laws_toStringS.calls kj28 _ _ l0 t1587 _ ?side1 ?side2 A47.out).mono ?_); (case side1 => repeat (first | exact (Kd.C_below HR0.out bel_) | (with_reducible refine Kd.C_alloc ?_ _) | (with_reducible refine Kd.C_drewN ?_ _) | (with_reducible refine Kd.C_drew ?_))); (case side2 => exact HC0.out); rintro e w52 ⟨v1588, rfl, ho0, hb⟩; refine ⟨_, rfl, ?_⟩; replace HO_6 := Aside0.mk (Kd.R_below (kdU_ HO_6.out) hb); replace HO_9 := Aside0.mk (Kd.R_below (kdU_ HO_9.out) hb); have HO1589 := Aside0.mk (Kd.R_lower ho0 (below_size bel_)); replace HB := stepB_ hb; (try clear hb); (try clear hk); (try clear ho0); obtain ⟨Ao53, co53, eo53⟩ := Kd.R_slice HO1589.out; subst eo53) | ((with_reducible refine gate_callee (f := 72) rfl ?_); refine goL_ (some 81) Try.func72 #[.slice Ao53 t1587.length co53, .int .i64 a1] ?_; (with_reducible refine (impl_GrowthOf.calls kj28 _ _ t1587 a1 t1590 t1591 _ ?side1 ?side2 A48.out).mono ?_); (case side1 => repeat (first | exact (Kd.R_reads' HO1589.out).2.2 | (with_reducible refine Kd.C_alloc ?_ _) | (with_reducible refine Kd.C_drewN ?_ _) | (with_reducible refine Kd.C_drew ?_))); (case side2 => exact (Kd.R_reads' HO1589.out).2.1); rintro e w54 ⟨v1592, rfl, ho0, hb⟩; refine ⟨_, rfl, ?_⟩; replace HO1589 := Aside0.mk (Kd.R_below (kdU_ HO1589.out) hb); have HO1593 := Aside0.mk (Kd.R_lower (Kd.R_new' (Kd.R_new' ho0 (Kd.R_lt (kdU_ HO_6.out))) (Kd.R_lt (kdU_ HO_9.out))) (below_size bel_)); replace HO_6 := Aside0.mk (Kd.R_elder' (kdU_ HO_6.out) (Kd.R_base ho0) hb); replace HO_9 := Aside0.mk (Kd.R_elder' (kdU_ HO_9.out) (Kd.R_base ho0) hb); replace HB := stepB_ hb; (try clear hb); (try clear hk); (try clear ho0)))
                      (try simp only [Act.put, List.setIfInBounds_toArray, List.set_cons_zero, List.set_cons_succ])
                      go_cut [92] (fun v92 wc => ∃ (kq : Nat) (x92_48 : Bool), v92 = .bool x92_48 ∧ Aside0 (laws_FnExactGrowthOf.j2 kq t1585 t1584 x92_48 = some r) ∧ Aside0 (kq ≤ kj28) ∧ Aside0 (Kd.R k29 29 wc w.heap.size (fun _ => True) (.slice Ao50 t1572.length co50) t1585) ∧ Aside0 (Below w.heap.size w wc))
                      case first =>
                        have H := HC49.out
                        clear HC49
                        obtain ⟨t1594, A55, H⟩ := bnd_ H
                        by_cases c56 : t1594 = true
                        · subst c56
                          rw [if_pos rfl] at H
                          have H' := Aside0.mk H
                          clear H
                          obtain ⟨Ao57, co57, eo57⟩ := Kd.R_slice HO1593.out
                          subst eo57
                          obtain ⟨Ao58, co58, eo58⟩ := Kd.R_slice HO_6.out
                          subst eo58
                          go_wp2_with (first | ((with_reducible refine gate_callee (f := 39) rfl ?_); refine goL_ (some 86) Try.func39 #[.slice Ao57 t1590.length co57, .slice Ao58 t1565.length co58] ?_; (with_reducible refine (laws_eqDigestS.calls kj28 _ _ t1590 _ _ t1565 true _ ?side1 ?side2 ?side3 ?side4 A55.out).mono ?_); (case side1 => repeat (first | exact (Kd.R_reads' HO1593.out).2.2 | (with_reducible refine Kd.C_alloc ?_ _) | (with_reducible refine Kd.C_drewN ?_ _) | (with_reducible refine Kd.C_drew ?_))); (case side2 => exact (Kd.R_reads' HO1593.out).2.1); (case side3 => repeat (first | exact (Kd.R_reads' HO_6.out).2.2 | (with_reducible refine Kd.C_alloc ?_ _) | (with_reducible refine Kd.C_drewN ?_ _) | (with_reducible refine Kd.C_drew ?_))); (case side4 => exact (Kd.R_reads' HO_6.out).2.1); rintro e w59 ⟨rfl, hb⟩; refine ⟨_, rfl, ?_⟩; replace HO_6 := Aside0.mk (Kd.R_below (kdU_ HO_6.out) hb); replace HO_9 := Aside0.mk (Kd.R_below (kdU_ HO_9.out) hb); replace HO1589 := Aside0.mk (Kd.R_below (kdU_ HO1589.out) hb); replace HO1593 := Aside0.mk (Kd.R_below (kdU_ HO1593.out) hb); replace HB := stepB_ hb; (try clear hb); (try clear hk)))
                          go_meet
                          case rel => exact ⟨_, ((t1591 != t1566)), (by first | rfl | (simp; done) | (simp [*]; done)), H', ⟨by have := HJ8.out; have := HJ28.out; first | omega | exact Nat.le_refl _⟩, ⟨by (with_reducible repeat (first | apply Kd.R_alloc | apply Kd.R_drewN | apply Kd.R_drew)); exact Kd.R_mono HO_9.out (fun _ hk => trivial)⟩, ⟨bel_⟩⟩
                        · replace c56 := Bool.eq_false_iff.mpr c56
                          subst c56
                          rw [if_neg (show ¬ (false = true) by decide)] at H
                          have H' := Aside0.mk H
                          clear H
                          obtain ⟨Ao60, co60, eo60⟩ := Kd.R_slice HO1593.out
                          subst eo60
                          obtain ⟨Ao61, co61, eo61⟩ := Kd.R_slice HO_6.out
                          subst eo61
                          go_wp2_with (first | ((with_reducible refine gate_callee (f := 39) rfl ?_); refine goL_ (some 86) Try.func39 #[.slice Ao60 t1590.length co60, .slice Ao61 t1565.length co61] ?_; (with_reducible refine (laws_eqDigestS.calls kj28 _ _ t1590 _ _ t1565 false _ ?side1 ?side2 ?side3 ?side4 A55.out).mono ?_); (case side1 => repeat (first | exact (Kd.R_reads' HO1593.out).2.2 | (with_reducible refine Kd.C_alloc ?_ _) | (with_reducible refine Kd.C_drewN ?_ _) | (with_reducible refine Kd.C_drew ?_))); (case side2 => exact (Kd.R_reads' HO1593.out).2.1); (case side3 => repeat (first | exact (Kd.R_reads' HO_6.out).2.2 | (with_reducible refine Kd.C_alloc ?_ _) | (with_reducible refine Kd.C_drewN ?_ _) | (with_reducible refine Kd.C_drew ?_))); (case side4 => exact (Kd.R_reads' HO_6.out).2.1); rintro e w62 ⟨rfl, hb⟩; refine ⟨_, rfl, ?_⟩; replace HO_6 := Aside0.mk (Kd.R_below (kdU_ HO_6.out) hb); replace HO_9 := Aside0.mk (Kd.R_below (kdU_ HO_9.out) hb); replace HO1589 := Aside0.mk (Kd.R_below (kdU_ HO1589.out) hb); replace HO1593 := Aside0.mk (Kd.R_below (kdU_ HO1593.out) hb); replace HB := stepB_ hb; (try clear hb); (try clear hk)))
                          go_meet
                          case rel => exact ⟨_, (true), (by first | rfl | (simp; done) | (simp [*]; done)), H', ⟨by have := HJ8.out; have := HJ28.out; first | omega | exact Nat.le_refl _⟩, ⟨by (with_reducible repeat (first | apply Kd.R_alloc | apply Kd.R_drewN | apply Kd.R_drew)); exact Kd.R_mono HO_9.out (fun _ hk => trivial)⟩, ⟨bel_⟩⟩
                      case rest =>
                        clear HC49
                        (try clear c4); (try clear c4b0); (try clear c17); (try clear c24); (try clear c27); (try clear c33); (try clear c33b0); (try clear c35); (try clear c42); (try clear c45); (try clear c45b0); (try clear c46); (try clear c46b0); (try clear c46b1); (try clear c56)
                        obtain ⟨kq, x92_48, rfl, HA, HJ48, HO_9, HB⟩ := hcut
                        have hl9_48 := (Kd.R_reads' HO_9.out).1
                        rw [hl9_48] at HO_9
                        (try simp only [hl9_48])
                        cases kq with
                        | zero => exact absurd HA.out (by simp [laws_FnExactGrowthOf.j2])
                        | succ kj48 =>
                          have H := HA.out
                          clear HA
                          simp only [laws_FnExactGrowthOf.j2] at H
                          by_cases c63 : x92_48 = true
                          · subst c63
                            rw [if_pos rfl] at H
                            exact absurd ((Option.some.inj H).trans hr_) (by decide)
                          · replace c63 := Bool.eq_false_iff.mpr c63
                            subst c63
                            rw [if_neg (show ¬ (false = true) by decide)] at H
                            obtain ⟨t1595, A64, H⟩ := bnd_ H
                            by_cases c65 : t1595 < 0
                            · rw [if_pos c65] at H
                              have c65b0 : decide (t1595 < 0) = true := decide_eq_true c65
                              clear c65
                              exact absurd ((Option.some.inj H).trans hr_) (by decide)
                            · rw [if_neg c65] at H
                              have c65b0 : decide (t1595 < 0) = false := decide_eq_false c65
                              clear c65
                              by_cases c66 : t1595 = t1584
                              · rw [if_pos c66] at H
                                have c66b0 : (t1595 == t1584) = true := beq_iff_eq.mpr c66
                                have c66b1 : (t1595 != t1584) = false := bne_eq_false_iff_eq.mpr c66
                                clear c66
                                obtain rfl := Option.some.inj H
                                go_wp2_with (first | ((with_reducible refine gate_callee (f := 60) rfl ?_); refine goL_ (some 95) Try.func60 #[.slice Ao50 t1585.length co50, .int .i64 1] ?_; (with_reducible refine (laws_heldDigestS.calls kj48 _ _ t1585 1 t1595 _ ?side1 ?side2 A64.out).mono ?_); (case side1 => repeat (first | exact (Kd.R_reads' HO_9.out).2.2 | (with_reducible refine Kd.C_alloc ?_ _) | (with_reducible refine Kd.C_drewN ?_ _) | (with_reducible refine Kd.C_drew ?_))); (case side2 => exact (Kd.R_reads' HO_9.out).2.1); rintro e w' ⟨rfl, ⟨nd, rfl⟩⟩; refine ⟨_, rfl, ?_⟩))
                                go_ret
                                exact ⟨rfl_, bel_⟩
                              · rw [if_neg c66] at H
                                have c66b0 : (t1595 == t1584) = false := beq_eq_false_iff_ne.mpr c66
                                have c66b1 : (t1595 != t1584) = true := bne_iff_ne.mpr c66
                                exact absurd ((Option.some.inj H).trans hr_) (by decide)
                    · rw [if_neg c46] at H
                      have c46b0 : (t1586 == t1584) = false := beq_eq_false_iff_ne.mpr c46
                      have c46b1 : (t1586 != t1584) = true := bne_iff_ne.mpr c46
                      exact absurd ((Option.some.inj H).trans hr_) (by decide)
          · replace c27 := Bool.eq_false_iff.mpr c27
            subst c27
            rw [if_neg (show ¬ (false = true) by decide)] at H
            exact absurd ((Option.some.inj H).trans hr_) (by decide)

end
end Go.Proofs.Ytemfciflhbhobaa.B
