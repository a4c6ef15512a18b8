/- What the Go functions loop.example/belfry/laws.FnExactPathOf do is what the Lean functions .f of their names here say; condition: .f gives an answer. (Written by the session's program pp.py over the kit's print; Lean checks it.) -/
import Derived.Test.YtemfciflhbhobaaK
import Derived.Test.YtemfciflhbhobaaM
import Derived.Test.YtemfciflhbhobaaFImplPathOf
import Derived.Test.YtemfciflhbhobaaFSpecPathOf
import Derived.Test.YtemfciflhbhobaaGLawD1
import Derived.Test.YtemfciflhbhobaaGLawMD1
import Derived.Test.YtemfciflhbhobaaGLawMS1
import Derived.Test.YtemfciflhbhobaaGLawS1
namespace Go.Proofs.Ytemfciflhbhobaa.B
open Go.RowKit Go.Proofs.YtemfciflhbhobaaW.PrintWords Go.Proofs.YtemfciflhbhobaaW.PrintLast Go.Proofs.YtemfciflhbhobaaW.PrintMore
attribute [local go_sem] max2_int min2_int max_two min_two max_three min_three max_four min_four   -- for this text's walks alone
set_option linter.unusedVariables false
set_option linter.unusedSimpArgs false

section
/-! ### laws_FnExactPathOf: function 14 -/
mutual
def laws_FnExactPathOf.j0 : Nat → List ByteArray → Int → List (S29) → Bool → List ByteArray → List (S29) → Bool → Bool → Option (Bool)
  | 0, _, _, _, _, _, _, _, _ => none
  | k + 1, x0, x1, x6, x7, x8, x9, x10, x44 => if x44 = true then (some false) else ((laws_toStringS.f k x0).bind fun t1507 => ((laws_eqStringS.f k x8 t1507).bind fun t1510 => (if t1510 = true then ((laws_markStringS.f k x8 1).bind fun bt1511 => (if bt1511.1 < 0 then (laws_FnExactPathOf.j1 k x0 x1 x6 x7 x9 true) else ((laws_eqDigestS.f k x9 x6).bind fun t1513 => (if t1513 = true then (laws_FnExactPathOf.j1 k x0 x1 x6 x7 x9 (x10 != x7)) else (laws_FnExactPathOf.j1 k x0 x1 x6 x7 x9 true))))) else (some false))))
def laws_FnExactPathOf.j1 : Nat → List ByteArray → Int → List (S29) → Bool → List (S29) → Bool → Option (Bool)
  | 0, _, _, _, _, _, _ => none
  | k + 1, x0, x1, x6, x7, x9, x65 => if x65 = true then (some false) else ((laws_markDigestS.f k x9 1).bind fun bt1514 => ((laws_heldDigestS.f k bt1514.2 1).bind fun t1516 => (if t1516 < 0 then (some false) else (if t1516 = bt1514.1 then ((laws_toStringS.f k x0).bind fun t1517 => ((impl_PathOf.f k t1517 x1).bind fun bt1520 => ((laws_eqDigestS.f k bt1520.1 x6).bind fun t1524 => (if t1524 = true then (laws_FnExactPathOf.j2 k bt1514.2 bt1514.1 (bt1520.2 != x7)) else (laws_FnExactPathOf.j2 k bt1514.2 bt1514.1 true))))) else (some false)))))
def laws_FnExactPathOf.j2 : Nat → List (S29) → Int → Bool → Option (Bool)
  | 0, _, _, _ => none
  | k + 1, x9, x12, x92 => if x92 = true then (some false) else ((laws_heldDigestS.f k x9 1).bind fun t1525 => (if t1525 < 0 then (some false) else (if t1525 = x12 then (some true) else (some false))))
end
def laws_FnExactPathOf.f (k : Nat) (l0 : List ByteArray) (a1 : Int) : Option (Bool) := (laws_szStringS.f k l0 1048576).bind fun t1491 => (if t1491 < 0 then (some true) else ((laws_toStringS.f k l0).bind fun t1492 => ((spec_PathOf.f k t1492 a1).bind fun bt1495 => ((laws_toStringS.f k l0).bind fun t1499 => ((impl_PathOf.f k t1499 a1).bind fun bt1502 => ((laws_eqDigestS.f k bt1502.1 bt1495.1).bind fun t1506 => (if t1506 = true then (laws_FnExactPathOf.j0 k l0 a1 bt1495.1 bt1495.2 t1499 bt1502.1 bt1502.2 (bt1502.2 != bt1495.2)) else (laws_FnExactPathOf.j0 k l0 a1 bt1495.1 bt1495.2 t1499 bt1502.1 bt1502.2 true))))))))
theorem laws_FnExactPathOf.mono_l : ∀ k, (∀ y0 y1 y2 y3 y4 y5 y6 y7, LeO (laws_FnExactPathOf.j0 k y0 y1 y2 y3 y4 y5 y6 y7) (laws_FnExactPathOf.j0 (k + 1) y0 y1 y2 y3 y4 y5 y6 y7)) ∧ (∀ y0 y1 y2 y3 y4 y5, LeO (laws_FnExactPathOf.j1 k y0 y1 y2 y3 y4 y5) (laws_FnExactPathOf.j1 (k + 1) y0 y1 y2 y3 y4 y5)) ∧ (∀ y0 y1 y2, LeO (laws_FnExactPathOf.j2 k y0 y1 y2) (laws_FnExactPathOf.j2 (k + 1) y0 y1 y2))
  | 0 => ⟨fun _ _ _ _ _ _ _ _ r h => by simp [laws_FnExactPathOf.j0] at h, fun _ _ _ _ _ _ r h => by simp [laws_FnExactPathOf.j1] at h, fun _ _ _ r h => by simp [laws_FnExactPathOf.j2] at h⟩
  | k + 1 => by
    obtain ⟨ih0, ih1, ih2⟩ := laws_FnExactPathOf.mono_l k
    refine ⟨?_, ?_, ?_⟩
    · intro y0 y1 y2 y3 y4 y5 y6 y7
      unfold laws_FnExactPathOf.j0
      repeat' first | (with_reducible first | exact ih0 _ _ _ _ _ _ _ _ | exact ih1 _ _ _ _ _ _ | exact ih2 _ _ _ | exact impl_PathOf.mono _ _ _ | exact laws_eqDigestS.mono _ _ _ | exact laws_eqStringS.mono _ _ _ | exact laws_heldDigestS.mono _ _ _ | exact laws_markDigestS.mono _ _ _ | exact laws_markStringS.mono _ _ _ | exact laws_szStringS.mono _ _ _ | exact laws_toStringS.mono _ _ | exact spec_PathOf.mono _ _ _ | exact LeO.refl _ | exact LeO.none _ | refine LeO.ite ?_ ?_ | refine LeO.bind ?_ (fun _ => ?_)) | exact ih0 _ _ _ _ _ _ _ _ | exact ih1 _ _ _ _ _ _ | exact ih2 _ _ _ | exact LeO.none _ | refine LeO.ite ?_ ?_ | refine LeO.bind ?_ (fun _ => ?_)
    · intro y0 y1 y2 y3 y4 y5
      unfold laws_FnExactPathOf.j1
      repeat' first | (with_reducible first | exact ih0 _ _ _ _ _ _ _ _ | exact ih1 _ _ _ _ _ _ | exact ih2 _ _ _ | exact impl_PathOf.mono _ _ _ | exact laws_eqDigestS.mono _ _ _ | exact laws_eqStringS.mono _ _ _ | exact laws_heldDigestS.mono _ _ _ | exact laws_markDigestS.mono _ _ _ | exact laws_markStringS.mono _ _ _ | exact laws_szStringS.mono _ _ _ | exact laws_toStringS.mono _ _ | exact spec_PathOf.mono _ _ _ | exact LeO.refl _ | exact LeO.none _ | refine LeO.ite ?_ ?_ | refine LeO.bind ?_ (fun _ => ?_)) | exact ih0 _ _ _ _ _ _ _ _ | exact ih1 _ _ _ _ _ _ | exact ih2 _ _ _ | exact LeO.none _ | refine LeO.ite ?_ ?_ | refine LeO.bind ?_ (fun _ => ?_)
    · intro y0 y1 y2
      unfold laws_FnExactPathOf.j2
      repeat' first | (with_reducible first | exact ih0 _ _ _ _ _ _ _ _ | exact ih1 _ _ _ _ _ _ | exact ih2 _ _ _ | exact impl_PathOf.mono _ _ _ | exact laws_eqDigestS.mono _ _ _ | exact laws_eqStringS.mono _ _ _ | exact laws_heldDigestS.mono _ _ _ | exact laws_markDigestS.mono _ _ _ | exact laws_markStringS.mono _ _ _ | exact laws_szStringS.mono _ _ _ | exact laws_toStringS.mono _ _ | exact spec_PathOf.mono _ _ _ | exact LeO.refl _ | exact LeO.none _ | refine LeO.ite ?_ ?_ | refine LeO.bind ?_ (fun _ => ?_)) | exact ih0 _ _ _ _ _ _ _ _ | exact ih1 _ _ _ _ _ _ | exact ih2 _ _ _ | exact LeO.none _ | refine LeO.ite ?_ ?_ | refine LeO.bind ?_ (fun _ => ?_)
theorem laws_FnExactPathOf.mono : ∀ a0 a1 k, LeO (laws_FnExactPathOf.f k a0 a1) (laws_FnExactPathOf.f (k + 1) a0 a1) := by
  intro a0 a1 k
  obtain ⟨ih0, ih1, ih2⟩ := laws_FnExactPathOf.mono_l k
  unfold laws_FnExactPathOf.f
  repeat' first | (with_reducible first | exact ih0 _ _ _ _ _ _ _ _ | exact ih1 _ _ _ _ _ _ | exact ih2 _ _ _ | exact impl_PathOf.mono _ _ _ | exact laws_eqDigestS.mono _ _ _ | exact laws_eqStringS.mono _ _ _ | exact laws_heldDigestS.mono _ _ _ | exact laws_markDigestS.mono _ _ _ | exact laws_markStringS.mono _ _ _ | exact laws_szStringS.mono _ _ _ | exact laws_toStringS.mono _ _ | exact spec_PathOf.mono _ _ _ | exact LeO.refl _ | exact LeO.none _ | refine LeO.ite ?_ ?_ | refine LeO.bind ?_ (fun _ => ?_)) | exact ih0 _ _ _ _ _ _ _ _ | exact ih1 _ _ _ _ _ _ | exact ih2 _ _ _ | exact LeO.none _ | refine LeO.ite ?_ ?_ | refine LeO.bind ?_ (fun _ => ?_)
set_option maxHeartbeats 8000000 in
set_option maxRecDepth 100000 in
theorem laws_FnExactPathOf.calls (k : Nat) (A0 : Option Addr) (c0 : Nat) (l0 : List ByteArray) (a1 : Int) (r : Bool) (hr_ : r = true) (w : World) (hr0 : Kd.C Kd.string w A0 l0.length l0) (hc0 : l0.length ≤ c0) (h : laws_FnExactPathOf.f k l0 a1 = some r) :
    Calls Try.prog 14 #[.slice A0 l0.length c0, .int .i64 a1] w fun e w' => e = .returned (.bool r) ∧ Below w.heap.size w w' := by
  have HR0 := Aside0.mk hr0
  have HC0 := Aside0.mk hc0
  clear hr0 hc0
  have HB := Aside0.mk (Below.refl w.heap.size w)
  have H : ((laws_szStringS.f k l0 1048576).bind fun t1491 => (if t1491 < 0 then (some true) else ((laws_toStringS.f k l0).bind fun t1492 => ((spec_PathOf.f k t1492 a1).bind fun bt1495 => ((laws_toStringS.f k l0).bind fun t1499 => ((impl_PathOf.f k t1499 a1).bind fun bt1502 => ((laws_eqDigestS.f k bt1502.1 bt1495.1).bind fun t1506 => (if t1506 = true then (laws_FnExactPathOf.j0 k l0 a1 bt1495.1 bt1495.2 t1499 bt1502.1 bt1502.2 (bt1502.2 != bt1495.2)) else (laws_FnExactPathOf.j0 k l0 a1 bt1495.1 bt1495.2 t1499 bt1502.1 bt1502.2 true))))))))) = some r := h
  clear h
  obtain ⟨t1491, A3, H⟩ := bnd_ H
  by_cases c4 : t1491 < 0
  · rw [if_pos c4] at H
    have c4b0 : decide (t1491 < 0) = true := decide_eq_true c4
    clear c4
    obtain rfl := Option.some.inj H
    go_enter Try.func14, Try.ntmps14
    go_wp2_with (first | ((with_reducible refine gate_callee (f := 42) rfl ?_); refine goL_ (some 18) Try.func42 #[.slice A0 l0.length c0, .int .i64 1048576] ?_; (with_reducible refine (laws_szStringS.calls k _ _ l0 1048576 t1491 _ ?side1 ?side2 A3.out).mono ?_); (case side1 => repeat (first | exact HR0.out | (with_reducible refine Kd.C_alloc ?_ _) | (with_reducible refine Kd.C_drewN ?_ _) | (with_reducible refine Kd.C_drew ?_))); (case side2 => exact HC0.out); rintro e w' ⟨rfl, ⟨nd, rfl⟩⟩; refine ⟨_, rfl, ?_⟩))
    go_ret
    exact ⟨rfl_, bel_⟩
  · rw [if_neg c4] at H
    have c4b0 : decide (t1491 < 0) = false := decide_eq_false c4
    clear c4
    obtain ⟨t1492, A5, H⟩ := bnd_ H
    obtain ⟨⟨t1495, t1496⟩, A6, H⟩ := bnd_ H
    dsimp only at H
    obtain ⟨t1499, A7, H⟩ := bnd_ H
    obtain ⟨⟨t1502, t1503⟩, A8, H⟩ := bnd_ H
    dsimp only at H
    have HC9 := Aside0.mk H
    clear H
    go_enter Try.func14, Try.ntmps14
    go_upto_region 8 with (first | ((with_reducible refine gate_callee (f := 42) rfl ?_); refine goL_ (some 18) Try.func42 #[.slice A0 l0.length c0, .int .i64 1048576] ?_; (with_reducible refine (laws_szStringS.calls k _ _ l0 1048576 t1491 _ ?side1 ?side2 A3.out).mono ?_); (case side1 => repeat (first | exact HR0.out | (with_reducible refine Kd.C_alloc ?_ _) | (with_reducible refine Kd.C_drewN ?_ _) | (with_reducible refine Kd.C_drew ?_))); (case side2 => exact HC0.out); rintro e w' ⟨rfl, ⟨nd, rfl⟩⟩; refine ⟨_, rfl, ?_⟩) | ((with_reducible refine gate_callee (f := 44) rfl ?_); refine goL_ (some 23) Try.func44 #[.slice A0 l0.length c0] ?_; (with_reducible refine (laws_toStringS.calls k _ _ l0 t1492 _ ?side1 ?side2 A5.out).mono ?_); (case side1 => repeat (first | exact HR0.out | (with_reducible refine Kd.C_alloc ?_ _) | (with_reducible refine Kd.C_drewN ?_ _) | (with_reducible refine Kd.C_drew ?_))); (case side2 => exact HC0.out); rintro e w10 ⟨v1493, rfl, ho0, hb⟩; refine ⟨_, rfl, ?_⟩; have HO1494 := Aside0.mk (Kd.R_lower ho0 (below_size bel_)); replace HB := stepB_ hb; (try clear hb); (try clear ho0); obtain ⟨Ao11, co11, eo11⟩ := Kd.R_slice HO1494.out; subst eo11) | ((with_reducible refine gate_callee (f := 69) rfl ?_); refine goL_ (some 25) Try.func69 #[.slice Ao11 t1492.length co11, .int .i64 a1] ?_; (with_reducible refine (spec_PathOf.calls k _ _ t1492 a1 t1495 t1496 _ ?side1 ?side2 A6.out).mono ?_); (case side1 => repeat (first | exact (Kd.R_reads' HO1494.out).2.2 | (with_reducible refine Kd.C_alloc ?_ _) | (with_reducible refine Kd.C_drewN ?_ _) | (with_reducible refine Kd.C_drew ?_))); (case side2 => exact (Kd.R_reads' HO1494.out).2.1); rintro e w12 ⟨v1497, rfl, ho0, hb⟩; refine ⟨_, rfl, ?_⟩; replace HO1494 := Aside0.mk (Kd.R_below (kdU_ HO1494.out) hb); have HO1498 := Aside0.mk (Kd.R_lower ho0 (below_size bel_)); replace HB := stepB_ hb; (try clear hb); (try clear ho0)) | ((with_reducible refine gate_callee (f := 44) rfl ?_); refine goL_ (some 29) Try.func44 #[.slice A0 l0.length c0] ?_; (with_reducible refine (laws_toStringS.calls k _ _ l0 t1499 _ ?side1 ?side2 A7.out).mono ?_); (case side1 => repeat (first | exact (Kd.C_below HR0.out HB.out) | (with_reducible refine Kd.C_alloc ?_ _) | (with_reducible refine Kd.C_drewN ?_ _) | (with_reducible refine Kd.C_drew ?_))); (case side2 => exact HC0.out); rintro e w13 ⟨v1500, rfl, ho0, hb⟩; refine ⟨_, rfl, ?_⟩; replace HO1498 := Aside0.mk (Kd.R_below (kdU_ HO1498.out) hb); have HO1501 := Aside0.mk (Kd.R_lower (Kd.R_new' ho0 (Kd.R_lt (kdU_ HO1494.out))) (below_size bel_)); replace HO1494 := Aside0.mk (Kd.R_elder' (kdU_ HO1494.out) (Kd.R_base ho0) hb); replace HB := stepB_ hb; (try clear hb); (try clear ho0); obtain ⟨Ao14, co14, eo14⟩ := Kd.R_slice HO1501.out; subst eo14) | ((with_reducible refine gate_callee (f := 70) rfl ?_); refine goL_ (some 33) Try.func70 #[.slice Ao14 t1499.length co14, .int .i64 a1] ?_; (with_reducible refine (impl_PathOf.calls k _ _ t1499 a1 t1502 t1503 _ ?side1 ?side2 A8.out).mono ?_); (case side1 => repeat (first | exact (Kd.R_reads' HO1501.out).2.2 | (with_reducible refine Kd.C_alloc ?_ _) | (with_reducible refine Kd.C_drewN ?_ _) | (with_reducible refine Kd.C_drew ?_))); (case side2 => exact (Kd.R_reads' HO1501.out).2.1); rintro e w15 ⟨v1504, rfl, ho0, hb⟩; refine ⟨_, rfl, ?_⟩; replace HO1494 := Aside0.mk (Kd.R_below (kdU_ HO1494.out) hb); replace HO1501 := Aside0.mk (Kd.R_below (kdU_ HO1501.out) hb); have HO1505 := Aside0.mk (Kd.R_lower (Kd.R_new' ho0 (Kd.R_lt (kdU_ HO1498.out))) (below_size bel_)); replace HO1498 := Aside0.mk (Kd.R_elder' (kdU_ HO1498.out) (Kd.R_base ho0) hb); replace HB := stepB_ hb; (try clear hb); (try clear ho0)))
    (try simp only [Act.put, List.setIfInBounds_toArray, List.set_cons_zero, List.set_cons_succ])
    go_cut [44] (fun v44 wc => ∃ (kq : Nat) (x44_8 : Bool), v44 = .bool x44_8 ∧ Aside0 (laws_FnExactPathOf.j0 kq l0 a1 t1495 t1496 t1499 t1502 t1503 x44_8 = some r) ∧ Aside0 (kq ≤ k) ∧ Aside0 (Kd.R k29 29 wc w.heap.size (fun k_ => some k_ ≠ (v1504 : Value).ownBlock) v1497 t1495) ∧ Aside0 (Kd.R Kd.string 9 wc w.heap.size (fun _ => True) (.slice Ao14 t1499.length co14) t1499) ∧ Aside0 (Kd.R k29 29 wc w.heap.size (fun k_ => some k_ ≠ (v1497 : Value).ownBlock) v1504 t1502) ∧ Aside0 (Below w.heap.size w wc))
    case first =>
      have H := HC9.out
      clear HC9
      obtain ⟨t1506, A16, H⟩ := bnd_ H
      by_cases c17 : t1506 = true
      · subst c17
        rw [if_pos rfl] at H
        have H' := Aside0.mk H
        clear H
        obtain ⟨Ao18, co18, eo18⟩ := Kd.R_slice HO1505.out
        subst eo18
        obtain ⟨Ao19, co19, eo19⟩ := Kd.R_slice HO1498.out
        subst eo19
        go_wp2_with (first | ((with_reducible refine gate_callee (f := 39) rfl ?_); refine goL_ (some 38) Try.func39 #[.slice Ao18 t1502.length co18, .slice Ao19 t1495.length co19] ?_; (with_reducible refine (laws_eqDigestS.calls k _ _ t1502 _ _ t1495 true _ ?side1 ?side2 ?side3 ?side4 A16.out).mono ?_); (case side1 => repeat (first | exact (Kd.R_reads' HO1505.out).2.2 | (with_reducible refine Kd.C_alloc ?_ _) | (with_reducible refine Kd.C_drewN ?_ _) | (with_reducible refine Kd.C_drew ?_))); (case side2 => exact (Kd.R_reads' HO1505.out).2.1); (case side3 => repeat (first | exact (Kd.R_reads' HO1498.out).2.2 | (with_reducible refine Kd.C_alloc ?_ _) | (with_reducible refine Kd.C_drewN ?_ _) | (with_reducible refine Kd.C_drew ?_))); (case side4 => exact (Kd.R_reads' HO1498.out).2.1); rintro e w20 ⟨rfl, hb⟩; refine ⟨_, rfl, ?_⟩; replace HO1494 := Aside0.mk (Kd.R_below (kdU_ HO1494.out) hb); replace HO1498 := Aside0.mk (Kd.R_below (kdU_ HO1498.out) hb); replace HO1501 := Aside0.mk (Kd.R_below (kdU_ HO1501.out) hb); replace HO1505 := Aside0.mk (Kd.R_below (kdU_ HO1505.out) hb); replace HB := stepB_ hb; (try clear hb)))
        go_meet
        case rel => exact ⟨_, ((t1503 != t1496)), (by first | rfl | (simp; done) | (simp [*]; done)), H', ⟨by first | omega | exact Nat.le_refl _⟩, ⟨by (with_reducible repeat (first | apply Kd.R_alloc | apply Kd.R_drewN | apply Kd.R_drew)); exact Kd.R_mono HO1498.out (fun _ hk => hk.2)⟩, ⟨by (with_reducible repeat (first | apply Kd.R_alloc | apply Kd.R_drewN | apply Kd.R_drew)); exact Kd.R_mono HO1501.out (fun _ hk => trivial)⟩, ⟨by (with_reducible repeat (first | apply Kd.R_alloc | apply Kd.R_drewN | apply Kd.R_drew)); exact Kd.R_mono HO1505.out (fun _ hk => hk.2)⟩, ⟨bel_⟩⟩
      · replace c17 := Bool.eq_false_iff.mpr c17
        subst c17
        rw [if_neg (show ¬ (false = true) by decide)] at H
        have H' := Aside0.mk H
        clear H
        obtain ⟨Ao21, co21, eo21⟩ := Kd.R_slice HO1505.out
        subst eo21
        obtain ⟨Ao22, co22, eo22⟩ := Kd.R_slice HO1498.out
        subst eo22
        go_wp2_with (first | ((with_reducible refine gate_callee (f := 39) rfl ?_); refine goL_ (some 38) Try.func39 #[.slice Ao21 t1502.length co21, .slice Ao22 t1495.length co22] ?_; (with_reducible refine (laws_eqDigestS.calls k _ _ t1502 _ _ t1495 false _ ?side1 ?side2 ?side3 ?side4 A16.out).mono ?_); (case side1 => repeat (first | exact (Kd.R_reads' HO1505.out).2.2 | (with_reducible refine Kd.C_alloc ?_ _) | (with_reducible refine Kd.C_drewN ?_ _) | (with_reducible refine Kd.C_drew ?_))); (case side2 => exact (Kd.R_reads' HO1505.out).2.1); (case side3 => repeat (first | exact (Kd.R_reads' HO1498.out).2.2 | (with_reducible refine Kd.C_alloc ?_ _) | (with_reducible refine Kd.C_drewN ?_ _) | (with_reducible refine Kd.C_drew ?_))); (case side4 => exact (Kd.R_reads' HO1498.out).2.1); rintro e w23 ⟨rfl, hb⟩; refine ⟨_, rfl, ?_⟩; replace HO1494 := Aside0.mk (Kd.R_below (kdU_ HO1494.out) hb); replace HO1498 := Aside0.mk (Kd.R_below (kdU_ HO1498.out) hb); replace HO1501 := Aside0.mk (Kd.R_below (kdU_ HO1501.out) hb); replace HO1505 := Aside0.mk (Kd.R_below (kdU_ HO1505.out) hb); replace HB := stepB_ hb; (try clear hb); (try clear hk)))
        go_meet
        case rel => exact ⟨_, (true), (by first | rfl | (simp; done) | (simp [*]; done)), H', ⟨by first | omega | exact Nat.le_refl _⟩, ⟨by (with_reducible repeat (first | apply Kd.R_alloc | apply Kd.R_drewN | apply Kd.R_drew)); exact Kd.R_mono HO1498.out (fun _ hk => hk.2)⟩, ⟨by (with_reducible repeat (first | apply Kd.R_alloc | apply Kd.R_drewN | apply Kd.R_drew)); exact Kd.R_mono HO1501.out (fun _ hk => trivial)⟩, ⟨by (with_reducible repeat (first | apply Kd.R_alloc | apply Kd.R_drewN | apply Kd.R_drew)); exact Kd.R_mono HO1505.out (fun _ hk => hk.2)⟩, ⟨bel_⟩⟩
    case rest =>
      clear HC9
      (try clear c4); (try clear c4b0); (try clear c17)
      obtain ⟨kq, x44_8, rfl, HA, HJ8, HO_6, HO_8, HO_9, HB⟩ := hcut
      cases kq with
      | zero => exact absurd HA.out (by simp [laws_FnExactPathOf.j0])
      | succ kj8 =>
        have H := HA.out
        clear HA
        simp only [laws_FnExactPathOf.j0] at H
        by_cases c24 : x44_8 = true
        · subst c24
          rw [if_pos rfl] at H
          exact absurd ((Option.some.inj H).trans hr_) (by decide)
        · replace c24 := Bool.eq_false_iff.mpr c24
          subst c24
          rw [if_neg (show ¬ (false = true) by decide)] at H
          obtain ⟨t1507, A25, H⟩ := bnd_ H
          obtain ⟨t1510, A26, H⟩ := bnd_ H
          by_cases c27 : t1510 = true
          · subst c27
            rw [if_pos rfl] at H
            obtain ⟨⟨t1511, t1512⟩, A28, H⟩ := bnd_ H
            dsimp only at H
            have HC29 := Aside0.mk H
            clear H
            go_upto_region 14 with (first | ((with_reducible refine gate_callee (f := 44) rfl ?_); refine goL_ (some 47) Try.func44 #[.slice A0 l0.length c0] ?_; (with_reducible refine (laws_toStringS.calls kj8 _ _ l0 t1507 _ ?side1 ?side2 A25.out).mono ?_); (case side1 => repeat (first | exact (Kd.C_below HR0.out HB.out) | (with_reducible refine Kd.C_alloc ?_ _) | (with_reducible refine Kd.C_drewN ?_ _) | (with_reducible refine Kd.C_drew ?_))); (case side2 => exact HC0.out); rintro e w30 ⟨v1508, rfl, ho0, hb⟩; refine ⟨_, rfl, ?_⟩; replace HO_6 := Aside0.mk (Kd.R_below (kdU_ HO_6.out) hb); replace HO_9 := Aside0.mk (Kd.R_below (kdU_ HO_9.out) hb); have HO1509 := Aside0.mk (Kd.R_lower (Kd.R_new' ho0 (Kd.R_lt (kdU_ HO_8.out))) (below_size bel_)); replace HO_8 := Aside0.mk (Kd.R_elder' (kdU_ HO_8.out) (Kd.R_base ho0) hb); replace HB := stepB_ hb; (try clear hb); (try clear hk); (try clear ho0); obtain ⟨Ao31, co31, eo31⟩ := Kd.R_slice HO1509.out; subst eo31) | ((with_reducible refine gate_callee (f := 47) rfl ?_); refine goL_ (some 48) Try.func47 #[.slice Ao14 t1499.length co14, .slice Ao31 t1507.length co31] ?_; (with_reducible refine (laws_eqStringS.calls kj8 _ _ t1499 _ _ t1507 true _ ?side1 ?side2 ?side3 ?side4 A26.out).mono ?_); (case side1 => repeat (first | exact (Kd.R_reads' HO_8.out).2.2 | (with_reducible refine Kd.C_alloc ?_ _) | (with_reducible refine Kd.C_drewN ?_ _) | (with_reducible refine Kd.C_drew ?_))); (case side2 => exact (Kd.R_reads' HO_8.out).2.1); (case side3 => repeat (first | exact (Kd.R_reads' HO1509.out).2.2 | (with_reducible refine Kd.C_alloc ?_ _) | (with_reducible refine Kd.C_drewN ?_ _) | (with_reducible refine Kd.C_drew ?_))); (case side4 => exact (Kd.R_reads' HO1509.out).2.1); rintro e w' ⟨rfl, ⟨nd, rfl⟩⟩; refine ⟨_, rfl, ?_⟩) | ((with_reducible refine gate_callee (f := 65) rfl ?_); refine goL_ (some 52) Try.func65 #[.slice Ao14 t1499.length co14, .int .i64 1] ?_; (with_reducible refine (laws_markStringS.calls kj8 (fun k_ => some k_ = (.slice Ao14 t1499.length co14 : Value).ownBlock) (.slice Ao14 t1499.length co14) t1499 1 t1511 t1512 w _ ?side1 ?side2 A28.out).mono ?_); (case side1 => exact bel_); (case side2 => exact Kd.R_tight rfl HO_8.out); rintro e w32 ⟨rfl, hy0, hb, hkp⟩; refine ⟨_, rfl, ?_⟩; replace HO_6 := Aside0.mk (Kd.R_mono (ok' := fun k_ => some k_ ≠ (v1504 : Value).ownBlock) (Kd.R_keptB ((Kd.R_apart' HO_6.out (Kd.R_typed HO_8.out) (by decide))) hkp (fun k_ hk_ hs_ => (hk_.2) hs_)) (fun k_ hk_ => hk_.1.1)); replace HO_9 := Aside0.mk (Kd.R_mono (ok' := fun k_ => some k_ ≠ (v1497 : Value).ownBlock) (Kd.R_keptB ((Kd.R_apart' HO_9.out (Kd.R_typed HO_8.out) (by decide))) hkp (fun k_ hk_ hs_ => (hk_.2) hs_)) (fun k_ hk_ => hk_.1.1)); replace HO_8 := Aside0.mk (Kd.R_reok rfl hy0 (fun k_ e_ => HO_8.out.1 k_ e_)); replace HO1509 := Aside0.mk (Kd.R_mono (ok' := fun k_ => some k_ ≠ (.slice Ao14 t1499.length co14 : Value).ownBlock) (Kd.R_keptB (HO1509.out) hkp (fun k_ hk_ hs_ => (hk_.2) hs_)) (fun k_ hk_ => hk_.1.2)); replace HB := Aside0.mk (hb); (try clear hb); (try clear hkp); (try clear hy0)))
            (try simp only [Act.put, List.setIfInBounds_toArray, List.set_cons_zero, List.set_cons_succ])
            go_cut [65] (fun v65 wc => ∃ (kq : Nat) (x65_28 : Bool), v65 = .bool x65_28 ∧ Aside0 (laws_FnExactPathOf.j1 kq l0 a1 t1495 t1496 t1502 x65_28 = some r) ∧ Aside0 (kq ≤ kj8) ∧ Aside0 (Kd.R k29 29 wc w.heap.size (fun k_ => some k_ ≠ (v1504 : Value).ownBlock) v1497 t1495) ∧ Aside0 (Kd.R k29 29 wc w.heap.size (fun k_ => some k_ ≠ (v1497 : Value).ownBlock) v1504 t1502) ∧ Aside0 (Below w.heap.size w wc))
            case first =>
              have H := HC29.out
              clear HC29
              by_cases c33 : t1511 < 0
              · rw [if_pos c33] at H
                have c33b0 : decide (t1511 < 0) = true := decide_eq_true c33
                clear c33
                (first | rw [c33b0] | (simp only [i64_w, i32_w]; rw [c33b0]) | skip)
                have H' := Aside0.mk H
                clear H
                go_wp2
                go_meet
                case rel => exact ⟨_, (true), (by first | rfl | (simp; done) | (simp [*]; done)), H', ⟨by have := HJ8.out; first | omega | exact Nat.le_refl _⟩, ⟨kdU_ HO_6.out⟩, ⟨kdU_ HO_9.out⟩, ⟨bel_⟩⟩
              · rw [if_neg c33] at H
                have c33b0 : decide (t1511 < 0) = false := decide_eq_false c33
                clear c33
                (first | rw [c33b0] | (simp only [i64_w, i32_w]; rw [c33b0]) | skip)
                obtain ⟨t1513, A34, H⟩ := bnd_ H
                by_cases c35 : t1513 = true
                · subst c35
                  rw [if_pos rfl] at H
                  have H' := Aside0.mk H
                  clear H
                  obtain ⟨Ao36, co36, eo36⟩ := Kd.R_slice HO_9.out
                  subst eo36
                  obtain ⟨Ao37, co37, eo37⟩ := Kd.R_slice HO_6.out
                  subst eo37
                  go_wp2_with (first | (go_at_call 39; (with_reducible refine (laws_eqDigestS.calls kj8 _ _ t1502 _ _ t1495 true _ ?side1 ?side2 ?side3 ?side4 A34.out).mono ?_); (case side1 => repeat (first | exact (Kd.R_reads' HO_9.out).2.2 | (with_reducible refine Kd.C_alloc ?_ _) | (with_reducible refine Kd.C_drewN ?_ _) | (with_reducible refine Kd.C_drew ?_))); (case side2 => exact (Kd.R_reads' HO_9.out).2.1); (case side3 => repeat (first | exact (Kd.R_reads' HO_6.out).2.2 | (with_reducible refine Kd.C_alloc ?_ _) | (with_reducible refine Kd.C_drewN ?_ _) | (with_reducible refine Kd.C_drew ?_))); (case side4 => exact (Kd.R_reads' HO_6.out).2.1); rintro e w38 ⟨rfl, hb⟩; replace HO_6 := Aside0.mk (Kd.R_below (kdU_ HO_6.out) hb); replace HO_8 := Aside0.mk (Kd.R_below (kdU_ HO_8.out) hb); replace HO_9 := Aside0.mk (Kd.R_below (kdU_ HO_9.out) hb); replace HO1509 := Aside0.mk (Kd.R_below (kdU_ HO1509.out) hb); replace HB := stepB_ hb; (try clear hb); (try clear hk)))
                  go_meet
                  case rel => exact ⟨_, ((t1503 != t1496)), (by first | rfl | (simp; done) | (simp [*]; done)), H', ⟨by have := HJ8.out; first | omega | exact Nat.le_refl _⟩, ⟨kdU_ HO_6.out⟩, ⟨kdU_ HO_9.out⟩, ⟨bel_⟩⟩
                · replace c35 := Bool.eq_false_iff.mpr c35
                  subst c35
                  rw [if_neg (show ¬ (false = true) by decide)] at H
                  have H' := Aside0.mk H
                  clear H
                  obtain ⟨Ao39, co39, eo39⟩ := Kd.R_slice HO_9.out
                  subst eo39
                  obtain ⟨Ao40, co40, eo40⟩ := Kd.R_slice HO_6.out
                  subst eo40
                  go_wp2_with (first | (go_at_call 39; (with_reducible refine (laws_eqDigestS.calls kj8 _ _ t1502 _ _ t1495 false _ ?side1 ?side2 ?side3 ?side4 A34.out).mono ?_); (case side1 => repeat (first | exact (Kd.R_reads' HO_9.out).2.2 | (with_reducible refine Kd.C_alloc ?_ _) | (with_reducible refine Kd.C_drewN ?_ _) | (with_reducible refine Kd.C_drew ?_))); (case side2 => exact (Kd.R_reads' HO_9.out).2.1); (case side3 => repeat (first | exact (Kd.R_reads' HO_6.out).2.2 | (with_reducible refine Kd.C_alloc ?_ _) | (with_reducible refine Kd.C_drewN ?_ _) | (with_reducible refine Kd.C_drew ?_))); (case side4 => exact (Kd.R_reads' HO_6.out).2.1); rintro e w41 ⟨rfl, hb⟩; replace HO_6 := Aside0.mk (Kd.R_below (kdU_ HO_6.out) hb); replace HO_8 := Aside0.mk (Kd.R_below (kdU_ HO_8.out) hb); replace HO_9 := Aside0.mk (Kd.R_below (kdU_ HO_9.out) hb); replace HO1509 := Aside0.mk (Kd.R_below (kdU_ HO1509.out) hb); replace HB := stepB_ hb; (try clear hb); (try clear hk)))
                  go_meet
                  case rel => exact ⟨_, (true), (by first | rfl | (simp; done) | (simp [*]; done)), H', ⟨by have := HJ8.out; first | omega | exact Nat.le_refl _⟩, ⟨kdU_ HO_6.out⟩, ⟨kdU_ HO_9.out⟩, ⟨bel_⟩⟩
            case rest =>
              clear HC29
              (try clear c4); (try clear c4b0); (try clear c17); (try clear c24); (try clear c27); (try clear c33); (try clear c33b0); (try clear c35)
              obtain ⟨kq, x65_28, rfl, HA, HJ28, HO_6, HO_9, HB⟩ := hcut
              cases kq with
              | zero => exact absurd HA.out (by simp [laws_FnExactPathOf.j1])
              | succ kj28 =>
                have H := HA.out
                clear HA
                simp only [laws_FnExactPathOf.j1] at H
                by_cases c42 : x65_28 = true
                · subst c42
                  rw [if_pos rfl] at H
                  exact absurd ((Option.some.inj H).trans hr_) (by decide)
                · replace c42 := Bool.eq_false_iff.mpr c42
                  subst c42
                  rw [if_neg (show ¬ (false = true) by decide)] at H
                  obtain ⟨⟨t1514, t1515⟩, A43, H⟩ := bnd_ H
                  dsimp only at H
                  obtain ⟨t1516, A44, H⟩ := bnd_ H
                  by_cases c45 : t1516 < 0
                  · rw [if_pos c45] at H
                    have c45b0 : decide (t1516 < 0) = true := decide_eq_true c45
                    clear c45
                    exact absurd ((Option.some.inj H).trans hr_) (by decide)
                  · rw [if_neg c45] at H
                    have c45b0 : decide (t1516 < 0) = false := decide_eq_false c45
                    clear c45
                    by_cases c46 : t1516 = t1514
                    · rw [if_pos c46] at H
                      have c46b0 : (t1516 == t1514) = true := beq_iff_eq.mpr c46
                      have c46b1 : (t1516 != t1514) = false := bne_eq_false_iff_eq.mpr c46
                      clear c46
                      obtain ⟨t1517, A47, H⟩ := bnd_ H
                      obtain ⟨⟨t1520, t1521⟩, A48, H⟩ := bnd_ H
                      dsimp only at H
                      have HC49 := Aside0.mk H
                      clear H
                      obtain ⟨Ao50, co50, eo50⟩ := Kd.R_slice HO_9.out
                      subst eo50
                      go_upto_region 25 with (first | ((with_reducible refine gate_callee (f := 59) rfl ?_); refine goL_ (some 68) Try.func59 #[.slice Ao50 t1502.length co50, .int .i64 1] ?_; (with_reducible refine (laws_markDigestS.calls kj28 (fun k_ => some k_ = (.slice Ao50 t1502.length co50 : Value).ownBlock) (.slice Ao50 t1502.length co50) t1502 1 t1514 t1515 w _ ?side1 ?side2 A43.out).mono ?_); (case side1 => exact bel_); (case side2 => exact Kd.R_tight rfl HO_9.out); rintro e w51 ⟨rfl, hy0, hb, hkp⟩; refine ⟨_, rfl, ?_⟩; replace HO_6 := Aside0.mk (Kd.R_mono (ok' := fun k_ => some k_ ≠ (.slice Ao50 t1502.length co50 : Value).ownBlock) (Kd.R_keptB (HO_6.out) hkp (fun k_ hk_ hs_ => (hk_) hs_)) (fun k_ hk_ => hk_.1)); replace HO_9 := Aside0.mk (Kd.R_reok rfl hy0 (fun k_ e_ => HO_9.out.1 k_ e_)); replace HB := Aside0.mk (hb); (try clear hb); (try clear hkp); (try clear hy0)) | ((with_reducible refine gate_callee (f := 60) rfl ?_); refine goesL_ (some 71) rfl rfl Try.func60 (by kernel_rfl) rfl #[.slice Ao50 t1515.length co50, .int .i64 1] rfl (by (try simp only [List.map_toArray, List.map_cons, List.map_nil]); first | done | (rw [show t1515.length = t1502.length from (Kd.R_reads' HO_9.out).1.symm] <;> rfl) | rfl | (simp only [List.length_drop, List.length_take]; rfl)) ?_; (with_reducible refine (laws_heldDigestS.calls kj28 _ _ t1515 1 t1516 _ ?side1 ?side2 A44.out).mono ?_); (case side1 => repeat (first | exact (Kd.R_reads' HO_9.out).2.2 | (with_reducible refine Kd.C_alloc ?_ _) | (with_reducible refine Kd.C_drewN ?_ _) | (with_reducible refine Kd.C_drew ?_))); (case side2 => rw [show t1515.length = t1502.length from (Kd.R_reads' HO_9.out).1.symm]; exact (Kd.R_reads' HO_9.out).2.1); rintro e w' ⟨rfl, ⟨nd, rfl⟩⟩; refine ⟨_, rfl, ?_⟩) | ((with_reducible refine gate_callee (f := 44) rfl ?_); refine goL_ (some 79) Try.func44 #[.slice A0 l0.length c0] ?_; (with_reducible refine (laws_toStringS.calls kj28 _ _ l0 t1517 _ ?side1 ?side2 A47.out).mono ?_); (case side1 => repeat (first | exact (Kd.C_below HR0.out bel_) | (with_reducible refine Kd.C_alloc ?_ _) | (with_reducible refine Kd.C_drewN ?_ _) | (with_reducible refine Kd.C_drew ?_))); (case side2 => exact HC0.out); rintro e w52 ⟨v1518, rfl, ho0, hb⟩; refine ⟨_, rfl, ?_⟩; replace HO_6 := Aside0.mk (Kd.R_below (kdU_ HO_6.out) hb); replace HO_9 := Aside0.mk (Kd.R_below (kdU_ HO_9.out) hb); have HO1519 := Aside0.mk (Kd.R_lower ho0 (below_size bel_)); replace HB := stepB_ hb; (try clear hb); (try clear hk); (try clear ho0); obtain ⟨Ao53, co53, eo53⟩ := Kd.R_slice HO1519.out; subst eo53) | ((with_reducible refine gate_callee (f := 70) rfl ?_); refine goL_ (some 81) Try.func70 #[.slice Ao53 t1517.length co53, .int .i64 a1] ?_; (with_reducible refine (impl_PathOf.calls kj28 _ _ t1517 a1 t1520 t1521 _ ?side1 ?side2 A48.out).mono ?_); (case side1 => repeat (first | exact (Kd.R_reads' HO1519.out).2.2 | (with_reducible refine Kd.C_alloc ?_ _) | (with_reducible refine Kd.C_drewN ?_ _) | (with_reducible refine Kd.C_drew ?_))); (case side2 => exact (Kd.R_reads' HO1519.out).2.1); rintro e w54 ⟨v1522, rfl, ho0, hb⟩; refine ⟨_, rfl, ?_⟩; replace HO1519 := Aside0.mk (Kd.R_below (kdU_ HO1519.out) hb); have HO1523 := Aside0.mk (Kd.R_lower (Kd.R_new' (Kd.R_new' ho0 (Kd.R_lt (kdU_ HO_6.out))) (Kd.R_lt (kdU_ HO_9.out))) (below_size bel_)); replace HO_6 := Aside0.mk (Kd.R_elder' (kdU_ HO_6.out) (Kd.R_base ho0) hb); replace HO_9 := Aside0.mk (Kd.R_elder' (kdU_ HO_9.out) (Kd.R_base ho0) hb); replace HB := stepB_ hb; (try clear hb); (try clear hk); (try clear ho0)))
                      (try simp only [Act.put, List.setIfInBounds_toArray, List.set_cons_zero, List.set_cons_succ])
                      go_cut [92] (fun v92 wc => ∃ (kq : Nat) (x92_48 : Bool), v92 = .bool x92_48 ∧ Aside0 (laws_FnExactPathOf.j2 kq t1515 t1514 x92_48 = some r) ∧ Aside0 (kq ≤ kj28) ∧ Aside0 (Kd.R k29 29 wc w.heap.size (fun _ => True) (.slice Ao50 t1502.length co50) t1515) ∧ Aside0 (Below w.heap.size w wc))
                      case first =>
                        have H := HC49.out
                        clear HC49
                        obtain ⟨t1524, A55, H⟩ := bnd_ H
                        by_cases c56 : t1524 = true
                        · subst c56
                          rw [if_pos rfl] at H
                          have H' := Aside0.mk H
                          clear H
                          obtain ⟨Ao57, co57, eo57⟩ := Kd.R_slice HO1523.out
                          subst eo57
                          obtain ⟨Ao58, co58, eo58⟩ := Kd.R_slice HO_6.out
                          subst eo58
                          go_wp2_with (first | ((with_reducible refine gate_callee (f := 39) rfl ?_); refine goL_ (some 86) Try.func39 #[.slice Ao57 t1520.length co57, .slice Ao58 t1495.length co58] ?_; (with_reducible refine (laws_eqDigestS.calls kj28 _ _ t1520 _ _ t1495 true _ ?side1 ?side2 ?side3 ?side4 A55.out).mono ?_); (case side1 => repeat (first | exact (Kd.R_reads' HO1523.out).2.2 | (with_reducible refine Kd.C_alloc ?_ _) | (with_reducible refine Kd.C_drewN ?_ _) | (with_reducible refine Kd.C_drew ?_))); (case side2 => exact (Kd.R_reads' HO1523.out).2.1); (case side3 => repeat (first | exact (Kd.R_reads' HO_6.out).2.2 | (with_reducible refine Kd.C_alloc ?_ _) | (with_reducible refine Kd.C_drewN ?_ _) | (with_reducible refine Kd.C_drew ?_))); (case side4 => exact (Kd.R_reads' HO_6.out).2.1); rintro e w59 ⟨rfl, hb⟩; refine ⟨_, rfl, ?_⟩; replace HO_6 := Aside0.mk (Kd.R_below (kdU_ HO_6.out) hb); replace HO_9 := Aside0.mk (Kd.R_below (kdU_ HO_9.out) hb); replace HO1519 := Aside0.mk (Kd.R_below (kdU_ HO1519.out) hb); replace HO1523 := Aside0.mk (Kd.R_below (kdU_ HO1523.out) hb); replace HB := stepB_ hb; (try clear hb); (try clear hk)))
                          go_meet
                          case rel => exact ⟨_, ((t1521 != t1496)), (by first | rfl | (simp; done) | (simp [*]; done)), H', ⟨by have := HJ8.out; have := HJ28.out; first | omega | exact Nat.le_refl _⟩, ⟨by (with_reducible repeat (first | apply Kd.R_alloc | apply Kd.R_drewN | apply Kd.R_drew)); exact Kd.R_mono HO_9.out (fun _ hk => trivial)⟩, ⟨bel_⟩⟩
                        · replace c56 := Bool.eq_false_iff.mpr c56
                          subst c56
                          rw [if_neg (show ¬ (false = true) by decide)] at H
                          have H' := Aside0.mk H
                          clear H
                          obtain ⟨Ao60, co60, eo60⟩ := Kd.R_slice HO1523.out
                          subst eo60
                          obtain ⟨Ao61, co61, eo61⟩ := Kd.R_slice HO_6.out
                          subst eo61
                          go_wp2_with (first | ((with_reducible refine gate_callee (f := 39) rfl ?_); refine goL_ (some 86) Try.func39 #[.slice Ao60 t1520.length co60, .slice Ao61 t1495.length co61] ?_; (with_reducible refine (laws_eqDigestS.calls kj28 _ _ t1520 _ _ t1495 false _ ?side1 ?side2 ?side3 ?side4 A55.out).mono ?_); (case side1 => repeat (first | exact (Kd.R_reads' HO1523.out).2.2 | (with_reducible refine Kd.C_alloc ?_ _) | (with_reducible refine Kd.C_drewN ?_ _) | (with_reducible refine Kd.C_drew ?_))); (case side2 => exact (Kd.R_reads' HO1523.out).2.1); (case side3 => repeat (first | exact (Kd.R_reads' HO_6.out).2.2 | (with_reducible refine Kd.C_alloc ?_ _) | (with_reducible refine Kd.C_drewN ?_ _) | (with_reducible refine Kd.C_drew ?_))); (case side4 => exact (Kd.R_reads' HO_6.out).2.1); rintro e w62 ⟨rfl, hb⟩; refine ⟨_, rfl, ?_⟩; replace HO_6 := Aside0.mk (Kd.R_below (kdU_ HO_6.out) hb); replace HO_9 := Aside0.mk (Kd.R_below (kdU_ HO_9.out) hb); replace HO1519 := Aside0.mk (Kd.R_below (kdU_ HO1519.out) hb); replace HO1523 := Aside0.mk (Kd.R_below (kdU_ HO1523.out) hb); replace HB := stepB_ hb; (try clear hb); (try clear hk)))
                          go_meet
                          case rel => exact ⟨_, (true), (by first | rfl | (simp; done) | (simp [*]; done)), H', ⟨by have := HJ8.out; have := HJ28.out; first | omega | exact Nat.le_refl _⟩, ⟨by (with_reducible repeat (first | apply Kd.R_alloc | apply Kd.R_drewN | apply Kd.R_drew)); exact Kd.R_mono HO_9.out (fun _ hk => trivial)⟩, ⟨bel_⟩⟩
                      case rest =>
                        clear HC49
                        (try clear c4); (try clear c4b0); (try clear c17); (try clear c24); (try clear c27); (try clear c33); (try clear c33b0); (try clear c35); (try clear c42); (try clear c45); (try clear c45b0); (try clear c46); (try clear c46b0); (try clear c46b1); (try clear c56)
                        obtain ⟨kq, x92_48, rfl, HA, HJ48, HO_9, HB⟩ := hcut
                        have hl9_48 := (Kd.R_reads' HO_9.out).1
                        rw [hl9_48] at HO_9
                        (try simp only [hl9_48])
                        cases kq with
                        | zero => exact absurd HA.out (by simp [laws_FnExactPathOf.j2])
                        | succ kj48 =>
                          have H := HA.out
                          clear HA
                          simp only [laws_FnExactPathOf.j2] at H
                          by_cases c63 : x92_48 = true
                          · subst c63
                            rw [if_pos rfl] at H
                            exact absurd ((Option.some.inj H).trans hr_) (by decide)
                          · replace c63 := Bool.eq_false_iff.mpr c63
                            subst c63
                            rw [if_neg (show ¬ (false = true) by decide)] at H
                            obtain ⟨t1525, A64, H⟩ := bnd_ H
                            by_cases c65 : t1525 < 0
                            · rw [if_pos c65] at H
                              have c65b0 : decide (t1525 < 0) = true := decide_eq_true c65
                              clear c65
                              exact absurd ((Option.some.inj H).trans hr_) (by decide)
                            · rw [if_neg c65] at H
                              have c65b0 : decide (t1525 < 0) = false := decide_eq_false c65
                              clear c65
                              by_cases c66 : t1525 = t1514
                              · rw [if_pos c66] at H
                                have c66b0 : (t1525 == t1514) = true := beq_iff_eq.mpr c66
                                have c66b1 : (t1525 != t1514) = false := bne_eq_false_iff_eq.mpr c66
                                clear c66
                                obtain rfl := Option.some.inj H
                                go_wp2_with (first | ((with_reducible refine gate_callee (f := 60) rfl ?_); refine goL_ (some 95) Try.func60 #[.slice Ao50 t1515.length co50, .int .i64 1] ?_; (with_reducible refine (laws_heldDigestS.calls kj48 _ _ t1515 1 t1525 _ ?side1 ?side2 A64.out).mono ?_); (case side1 => repeat (first | exact (Kd.R_reads' HO_9.out).2.2 | (with_reducible refine Kd.C_alloc ?_ _) | (with_reducible refine Kd.C_drewN ?_ _) | (with_reducible refine Kd.C_drew ?_))); (case side2 => exact (Kd.R_reads' HO_9.out).2.1); rintro e w' ⟨rfl, ⟨nd, rfl⟩⟩; refine ⟨_, rfl, ?_⟩))
                                go_ret
                                exact ⟨rfl_, bel_⟩
                              · rw [if_neg c66] at H
                                have c66b0 : (t1525 == t1514) = false := beq_eq_false_iff_ne.mpr c66
                                have c66b1 : (t1525 != t1514) = true := bne_iff_ne.mpr c66
                                exact absurd ((Option.some.inj H).trans hr_) (by decide)
                    · rw [if_neg c46] at H
                      have c46b0 : (t1516 == t1514) = false := beq_eq_false_iff_ne.mpr c46
                      have c46b1 : (t1516 != t1514) = true := bne_iff_ne.mpr c46
                      exact absurd ((Option.some.inj H).trans hr_) (by decide)
          · replace c27 := Bool.eq_false_iff.mpr c27
            subst c27
            rw [if_neg (show ¬ (false = true) by decide)] at H
            exact absurd ((Option.some.inj H).trans hr_) (by decide)

end
end Go.Proofs.Ytemfciflhbhobaa.B
