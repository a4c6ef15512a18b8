/- What the Go functions loop.example/belfry/laws.FnExactClashRow do is what the Lean functions .f of their names here say; condition: .f gives an answer. (Written by the session's program pp.py over the kit's print; Lean checks it.) -/
import Derived.Test.YtemfciflhbhobaaK
import Derived.Test.YtemfciflhbhobaaM
import Derived.Test.YtemfciflhbhobaaGLawD1
import Derived.Test.YtemfciflhbhobaaGLawMD1
import Derived.Test.YtemfciflhbhobaaGLawMS1
import Derived.Test.YtemfciflhbhobaaGLawS1
import Derived.Test.YtemfciflhbhobaaGRow1
namespace Go.Proofs.Ytemfciflhbhobaa.B
open Go.RowKit Go.Proofs.YtemfciflhbhobaaW.PrintWords Go.Proofs.YtemfciflhbhobaaW.PrintLast Go.Proofs.YtemfciflhbhobaaW.PrintMore
attribute [local go_sem] max2_int min2_int max_two min_two max_three min_three max_four min_four   -- for this text's walks alone
set_option linter.unusedVariables false
set_option linter.unusedSimpArgs false

section
/-! ### laws_FnExactClashRow: function 18 -/
mutual
def laws_FnExactClashRow.j0 : Nat → Int → Int → ByteArray → List (S24) → List ByteArray → Bool → List (S29) → List ByteArray → Bool → Bool → Option (Bool)
  | 0, _, _, _, _, _, _, _, _, _, _ => none
  | k + 1, x0, x1, x2, x3, x10, x11, x12, x13, x14, x55 => if x55 = true then (some false) else ((laws_toDigestS.f k x3).bind fun t1730 => ((laws_eqDigestS.f k x12 t1730).bind fun t1733 => (if t1733 = true then ((laws_markDigestS.f k x12 1).bind fun bt1734 => (if bt1734.1 < 0 then (laws_FnExactClashRow.j1 k x0 x1 x2 x3 x10 x11 x13 true) else ((laws_eqStringS.f k x13 x10).bind fun t1736 => (if t1736 = true then (laws_FnExactClashRow.j1 k x0 x1 x2 x3 x10 x11 x13 (x14 != x11)) else (laws_FnExactClashRow.j1 k x0 x1 x2 x3 x10 x11 x13 true))))) else (some false))))
def laws_FnExactClashRow.j1 : Nat → Int → Int → ByteArray → List (S24) → List ByteArray → Bool → List ByteArray → Bool → Option (Bool)
  | 0, _, _, _, _, _, _, _, _ => none
  | k + 1, x0, x1, x2, x3, x10, x11, x13, x76 => if x76 = true then (some false) else ((laws_markStringS.f k x13 1).bind fun bt1737 => ((laws_heldStringS.f k bt1737.2 1).bind fun t1739 => (if t1739 < 0 then (some false) else (if t1739 = bt1737.1 then ((laws_toDigestS.f k x3).bind fun t1740 => ((impl_ClashRow.f k x0 x1 x2 t1740).bind fun bt1743 => ((laws_eqStringS.f k bt1743.1 x10).bind fun t1747 => (if t1747 = true then (laws_FnExactClashRow.j2 k bt1737.2 bt1737.1 (bt1743.2 != x11)) else (laws_FnExactClashRow.j2 k bt1737.2 bt1737.1 true))))) else (some false)))))
def laws_FnExactClashRow.j2 : Nat → List ByteArray → Int → Bool → Option (Bool)
  | 0, _, _, _ => none
  | k + 1, x13, x16, x105 => if x105 = true then (some false) else ((laws_heldStringS.f k x13 1).bind fun t1748 => (if t1748 < 0 then (some false) else (if t1748 = x16 then (some true) else (some false))))
end
def laws_FnExactClashRow.f (k : Nat) (a0 : Int) (a1 : Int) (a2 : ByteArray) (l3 : List (S24)) : Option (Bool) := if (a2.size : Int) > 1048576 then (some true) else ((laws_szDigestS.f l3 1048576).bind fun t1714 => (if t1714 < 0 then (some true) else ((laws_toDigestS.f k l3).bind fun t1715 => ((spec_ClashRow.f k a0 a1 a2 t1715).bind fun bt1718 => ((laws_toDigestS.f k l3).bind fun t1722 => ((impl_ClashRow.f k a0 a1 a2 t1722).bind fun bt1725 => ((laws_eqStringS.f k bt1725.1 bt1718.1).bind fun t1729 => (if t1729 = true then (laws_FnExactClashRow.j0 k a0 a1 a2 l3 bt1718.1 bt1718.2 t1722 bt1725.1 bt1725.2 (bt1725.2 != bt1718.2)) else (laws_FnExactClashRow.j0 k a0 a1 a2 l3 bt1718.1 bt1718.2 t1722 bt1725.1 bt1725.2 true)))))))))
theorem laws_FnExactClashRow.mono_l : ∀ k, (∀ y0 y1 y2 y3 y4 y5 y6 y7 y8 y9, LeO (laws_FnExactClashRow.j0 k y0 y1 y2 y3 y4 y5 y6 y7 y8 y9) (laws_FnExactClashRow.j0 (k + 1) y0 y1 y2 y3 y4 y5 y6 y7 y8 y9)) ∧ (∀ y0 y1 y2 y3 y4 y5 y6 y7, LeO (laws_FnExactClashRow.j1 k y0 y1 y2 y3 y4 y5 y6 y7) (laws_FnExactClashRow.j1 (k + 1) y0 y1 y2 y3 y4 y5 y6 y7)) ∧ (∀ y0 y1 y2, LeO (laws_FnExactClashRow.j2 k y0 y1 y2) (laws_FnExactClashRow.j2 (k + 1) y0 y1 y2))
  | 0 => ⟨fun _ _ _ _ _ _ _ _ _ _ r h => by simp [laws_FnExactClashRow.j0] at h, fun _ _ _ _ _ _ _ _ r h => by simp [laws_FnExactClashRow.j1] at h, fun _ _ _ r h => by simp [laws_FnExactClashRow.j2] at h⟩
  | k + 1 => by
    obtain ⟨ih0, ih1, ih2⟩ := laws_FnExactClashRow.mono_l k
    refine ⟨?_, ?_, ?_⟩
    · intro y0 y1 y2 y3 y4 y5 y6 y7 y8 y9
      unfold laws_FnExactClashRow.j0
      repeat' first | (with_reducible first | exact ih0 _ _ _ _ _ _ _ _ _ _ | exact ih1 _ _ _ _ _ _ _ _ | exact ih2 _ _ _ | exact impl_ClashRow.mono _ _ _ _ _ | exact laws_eqDigestS.mono _ _ _ | exact laws_eqStringS.mono _ _ _ | exact laws_heldStringS.mono _ _ _ | exact laws_markDigestS.mono _ _ _ | exact laws_markStringS.mono _ _ _ | exact laws_toDigestS.mono _ _ | exact spec_ClashRow.mono _ _ _ _ _ | exact LeO.refl _ | exact LeO.none _ | refine LeO.ite ?_ ?_ | refine LeO.bind ?_ (fun _ => ?_)) | exact ih0 _ _ _ _ _ _ _ _ _ _ | exact ih1 _ _ _ _ _ _ _ _ | exact ih2 _ _ _ | exact LeO.none _ | refine LeO.ite ?_ ?_ | refine LeO.bind ?_ (fun _ => ?_)
    · intro y0 y1 y2 y3 y4 y5 y6 y7
      unfold laws_FnExactClashRow.j1
      repeat' first | (with_reducible first | exact ih0 _ _ _ _ _ _ _ _ _ _ | exact ih1 _ _ _ _ _ _ _ _ | exact ih2 _ _ _ | exact impl_ClashRow.mono _ _ _ _ _ | exact laws_eqDigestS.mono _ _ _ | exact laws_eqStringS.mono _ _ _ | exact laws_heldStringS.mono _ _ _ | exact laws_markDigestS.mono _ _ _ | exact laws_markStringS.mono _ _ _ | exact laws_toDigestS.mono _ _ | exact spec_ClashRow.mono _ _ _ _ _ | exact LeO.refl _ | exact LeO.none _ | refine LeO.ite ?_ ?_ | refine LeO.bind ?_ (fun _ => ?_)) | exact ih0 _ _ _ _ _ _ _ _ _ _ | exact ih1 _ _ _ _ _ _ _ _ | exact ih2 _ _ _ | exact LeO.none _ | refine LeO.ite ?_ ?_ | refine LeO.bind ?_ (fun _ => ?_)
    · intro y0 y1 y2
      unfold laws_FnExactClashRow.j2
      repeat' first | (with_reducible first | exact ih0 _ _ _ _ _ _ _ _ _ _ | exact ih1 _ _ _ _ _ _ _ _ | exact ih2 _ _ _ | exact impl_ClashRow.mono _ _ _ _ _ | exact laws_eqDigestS.mono _ _ _ | exact laws_eqStringS.mono _ _ _ | exact laws_heldStringS.mono _ _ _ | exact laws_markDigestS.mono _ _ _ | exact laws_markStringS.mono _ _ _ | exact laws_toDigestS.mono _ _ | exact spec_ClashRow.mono _ _ _ _ _ | exact LeO.refl _ | exact LeO.none _ | refine LeO.ite ?_ ?_ | refine LeO.bind ?_ (fun _ => ?_)) | exact ih0 _ _ _ _ _ _ _ _ _ _ | exact ih1 _ _ _ _ _ _ _ _ | exact ih2 _ _ _ | exact LeO.none _ | refine LeO.ite ?_ ?_ | refine LeO.bind ?_ (fun _ => ?_)
theorem laws_FnExactClashRow.mono : ∀ a0 a1 a2 a3 k, LeO (laws_FnExactClashRow.f k a0 a1 a2 a3) (laws_FnExactClashRow.f (k + 1) a0 a1 a2 a3) := by
  intro a0 a1 a2 a3 k
  obtain ⟨ih0, ih1, ih2⟩ := laws_FnExactClashRow.mono_l k
  unfold laws_FnExactClashRow.f
  repeat' first | (with_reducible first | exact ih0 _ _ _ _ _ _ _ _ _ _ | exact ih1 _ _ _ _ _ _ _ _ | exact ih2 _ _ _ | exact impl_ClashRow.mono _ _ _ _ _ | exact laws_eqDigestS.mono _ _ _ | exact laws_eqStringS.mono _ _ _ | exact laws_heldStringS.mono _ _ _ | exact laws_markDigestS.mono _ _ _ | exact laws_markStringS.mono _ _ _ | exact laws_toDigestS.mono _ _ | exact spec_ClashRow.mono _ _ _ _ _ | exact LeO.refl _ | exact LeO.none _ | refine LeO.ite ?_ ?_ | refine LeO.bind ?_ (fun _ => ?_)) | exact ih0 _ _ _ _ _ _ _ _ _ _ | exact ih1 _ _ _ _ _ _ _ _ | exact ih2 _ _ _ | exact LeO.none _ | refine LeO.ite ?_ ?_ | refine LeO.bind ?_ (fun _ => ?_)
set_option maxHeartbeats 8000000 in
set_option maxRecDepth 100000 in
theorem laws_FnExactClashRow.calls (k : Nat) (a0 : Int) (a1 : Int) (a2 : ByteArray) (A3 : Option Addr) (c3 : Nat) (l3 : List (S24)) (r : Bool) (hr_ : r = true) (w : World) (hr3 : Kd.C k24 w A3 l3.length l3) (hc3 : l3.length ≤ c3) (h : laws_FnExactClashRow.f k a0 a1 a2 l3 = some r) :
    Calls Try.prog 18 #[.int .i64 a0, .int .i64 a1, .string a2, .slice A3 l3.length c3] w fun e w' => e = .returned (.bool r) ∧ Below w.heap.size w w' := by
  have HR3 := Aside0.mk hr3
  have HC3 := Aside0.mk hc3
  clear hr3 hc3
  have HB := Aside0.mk (Below.refl w.heap.size w)
  have H : (if (a2.size : Int) > 1048576 then (some true) else ((laws_szDigestS.f l3 1048576).bind fun t1714 => (if t1714 < 0 then (some true) else ((laws_toDigestS.f k l3).bind fun t1715 => ((spec_ClashRow.f k a0 a1 a2 t1715).bind fun bt1718 => ((laws_toDigestS.f k l3).bind fun t1722 => ((impl_ClashRow.f k a0 a1 a2 t1722).bind fun bt1725 => ((laws_eqStringS.f k bt1725.1 bt1718.1).bind fun t1729 => (if t1729 = true then (laws_FnExactClashRow.j0 k a0 a1 a2 l3 bt1718.1 bt1718.2 t1722 bt1725.1 bt1725.2 (bt1725.2 != bt1718.2)) else (laws_FnExactClashRow.j0 k a0 a1 a2 l3 bt1718.1 bt1718.2 t1722 bt1725.1 bt1725.2 true)))))))))) = some r := h
  clear h
  by_cases c5 : (a2.size : Int) > 1048576
  · rw [if_pos c5] at H
    have c5b0 : decide (1048576 < (a2.size : Int)) = true := decide_eq_true c5
    have c5b1 : decide (1048576 < a2.size) = true := decide_eq_true (by omega)
    clear c5
    obtain rfl := Option.some.inj H
    go_enter Try.func18, Try.ntmps18
    go_wp2
    go_ret
    exact ⟨rfl_, bel_⟩
  · rw [if_neg c5] at H
    have c5b0 : decide (1048576 < (a2.size : Int)) = false := decide_eq_false c5
    have c5b1 : decide (1048576 < a2.size) = false := decide_eq_false (by omega)
    clear c5
    obtain ⟨t1714, A6, H⟩ := bnd_ H
    by_cases c7 : t1714 < 0
    · rw [if_pos c7] at H
      have c7b0 : decide (t1714 < 0) = true := decide_eq_true c7
      clear c7
      obtain rfl := Option.some.inj H
      go_enter Try.func18, Try.ntmps18
      go_wp2_with (first | ((with_reducible refine gate_callee (f := 32) rfl ?_); refine goL_ (some 25) Try.func32 #[.slice A3 l3.length c3, .int .i64 1048576] ?_; (with_reducible refine (laws_szDigestS.calls _ _ l3 1048576 t1714 _ ?side1 ?side2 A6.out).mono ?_); (case side1 => repeat (first | exact HR3.out | (with_reducible refine Kd.C_alloc ?_ _) | (with_reducible refine Kd.C_drewN ?_ _) | (with_reducible refine Kd.C_drew ?_))); (case side2 => exact HC3.out); rintro e w' ⟨rfl, ⟨nd, rfl⟩⟩; refine ⟨_, rfl, ?_⟩))
      go_ret
      exact ⟨rfl_, bel_⟩
    · rw [if_neg c7] at H
      have c7b0 : decide (t1714 < 0) = false := decide_eq_false c7
      clear c7
      obtain ⟨t1715, A8, H⟩ := bnd_ H
      obtain ⟨⟨t1718, t1719⟩, A9, H⟩ := bnd_ H
      dsimp only at H
      obtain ⟨t1722, A10, H⟩ := bnd_ H
      obtain ⟨⟨t1725, t1726⟩, A11, H⟩ := bnd_ H
      dsimp only at H
      have HC12 := Aside0.mk H
      clear H
      go_enter Try.func18, Try.ntmps18
      go_upto_region 10 with (first | ((with_reducible refine gate_callee (f := 32) rfl ?_); refine goL_ (some 25) Try.func32 #[.slice A3 l3.length c3, .int .i64 1048576] ?_; (with_reducible refine (laws_szDigestS.calls _ _ l3 1048576 t1714 _ ?side1 ?side2 A6.out).mono ?_); (case side1 => repeat (first | exact HR3.out | (with_reducible refine Kd.C_alloc ?_ _) | (with_reducible refine Kd.C_drewN ?_ _) | (with_reducible refine Kd.C_drew ?_))); (case side2 => exact HC3.out); rintro e w' ⟨rfl, ⟨nd, rfl⟩⟩; refine ⟨_, rfl, ?_⟩) | ((with_reducible refine gate_callee (f := 35) rfl ?_); refine goL_ (some 33) Try.func35 #[.slice A3 l3.length c3] ?_; (with_reducible refine (laws_toDigestS.calls k _ _ l3 t1715 _ ?side1 ?side2 A8.out).mono ?_); (case side1 => repeat (first | exact HR3.out | (with_reducible refine Kd.C_alloc ?_ _) | (with_reducible refine Kd.C_drewN ?_ _) | (with_reducible refine Kd.C_drew ?_))); (case side2 => exact HC3.out); rintro e w13 ⟨v1716, rfl, ho0, hb⟩; refine ⟨_, rfl, ?_⟩; have HO1717 := Aside0.mk (Kd.R_lower ho0 (below_size bel_)); replace HB := stepB_ hb; (try clear hb); (try clear ho0); obtain ⟨Ao14, co14, eo14⟩ := Kd.R_slice HO1717.out; subst eo14) | ((with_reducible refine gate_callee (f := 80) rfl ?_); refine goL_ (some 34) Try.func80 #[.int .i64 a0, .int .i64 a1, .string a2, .slice Ao14 t1715.length co14] ?_; (with_reducible refine (spec_ClashRow.calls k a0 a1 a2 _ _ t1715 t1718 t1719 _ ?side1 ?side2 A9.out).mono ?_); (case side1 => repeat (first | exact (Kd.R_reads' HO1717.out).2.2 | (with_reducible refine Kd.C_alloc ?_ _) | (with_reducible refine Kd.C_drewN ?_ _) | (with_reducible refine Kd.C_drew ?_))); (case side2 => exact (Kd.R_reads' HO1717.out).2.1); rintro e w15 ⟨v1720, rfl, ho0, hb⟩; refine ⟨_, rfl, ?_⟩; replace HO1717 := Aside0.mk (Kd.R_below (kdU_ HO1717.out) hb); have HO1721 := Aside0.mk (Kd.R_lower ho0 (below_size bel_)); replace HB := stepB_ hb; (try clear hb); (try clear ho0)) | ((with_reducible refine gate_callee (f := 35) rfl ?_); refine goL_ (some 38) Try.func35 #[.slice A3 l3.length c3] ?_; (with_reducible refine (laws_toDigestS.calls k _ _ l3 t1722 _ ?side1 ?side2 A10.out).mono ?_); (case side1 => repeat (first | exact (Kd.C_below HR3.out HB.out) | (with_reducible refine Kd.C_alloc ?_ _) | (with_reducible refine Kd.C_drewN ?_ _) | (with_reducible refine Kd.C_drew ?_))); (case side2 => exact HC3.out); rintro e w16 ⟨v1723, rfl, ho0, hb⟩; refine ⟨_, rfl, ?_⟩; replace HO1721 := Aside0.mk (Kd.R_below (kdU_ HO1721.out) hb); have HO1724 := Aside0.mk (Kd.R_lower (Kd.R_new' ho0 (Kd.R_lt (kdU_ HO1717.out))) (below_size bel_)); replace HO1717 := Aside0.mk (Kd.R_elder' (kdU_ HO1717.out) (Kd.R_base ho0) hb); replace HB := stepB_ hb; (try clear hb); (try clear ho0); obtain ⟨Ao17, co17, eo17⟩ := Kd.R_slice HO1724.out; subst eo17) | ((with_reducible refine gate_callee (f := 81) rfl ?_); refine goL_ (some 44) Try.func81 #[.int .i64 a0, .int .i64 a1, .string a2, .slice Ao17 t1722.length co17] ?_; (with_reducible refine (impl_ClashRow.calls k a0 a1 a2 _ _ t1722 t1725 t1726 _ ?side1 ?side2 A11.out).mono ?_); (case side1 => repeat (first | exact (Kd.R_reads' HO1724.out).2.2 | (with_reducible refine Kd.C_alloc ?_ _) | (with_reducible refine Kd.C_drewN ?_ _) | (with_reducible refine Kd.C_drew ?_))); (case side2 => exact (Kd.R_reads' HO1724.out).2.1); rintro e w18 ⟨v1727, rfl, ho0, hb⟩; refine ⟨_, rfl, ?_⟩; replace HO1717 := Aside0.mk (Kd.R_below (kdU_ HO1717.out) hb); replace HO1724 := Aside0.mk (Kd.R_below (kdU_ HO1724.out) hb); have HO1728 := Aside0.mk (Kd.R_lower (Kd.R_new' ho0 (Kd.R_lt (kdU_ HO1721.out))) (below_size bel_)); replace HO1721 := Aside0.mk (Kd.R_elder' (kdU_ HO1721.out) (Kd.R_base ho0) hb); replace HB := stepB_ hb; (try clear hb); (try clear ho0)))
      (try simp only [Act.put, List.setIfInBounds_toArray, List.set_cons_zero, List.set_cons_succ])
      go_cut [55] (fun v55 wc => ∃ (kq : Nat) (x55_11 : Bool), v55 = .bool x55_11 ∧ Aside0 (laws_FnExactClashRow.j0 kq a0 a1 a2 l3 t1718 t1719 t1722 t1725 t1726 x55_11 = some r) ∧ Aside0 (kq ≤ k) ∧ Aside0 (Kd.R Kd.string 9 wc w.heap.size (fun k_ => some k_ ≠ (v1727 : Value).ownBlock) v1720 t1718) ∧ Aside0 (Kd.R k29 29 wc w.heap.size (fun _ => True) (.slice Ao17 t1722.length co17) t1722) ∧ Aside0 (Kd.R Kd.string 9 wc w.heap.size (fun k_ => some k_ ≠ (v1720 : Value).ownBlock) v1727 t1725) ∧ Aside0 (Below w.heap.size w wc))
      case first =>
        have H := HC12.out
        clear HC12
        obtain ⟨t1729, A19, H⟩ := bnd_ H
        by_cases c20 : t1729 = true
        · subst c20
          rw [if_pos rfl] at H
          have H' := Aside0.mk H
          clear H
          obtain ⟨Ao21, co21, eo21⟩ := Kd.R_slice HO1728.out
          subst eo21
          obtain ⟨Ao22, co22, eo22⟩ := Kd.R_slice HO1721.out
          subst eo22
          go_wp2_with (first | ((with_reducible refine gate_callee (f := 47) rfl ?_); refine goL_ (some 49) Try.func47 #[.slice Ao21 t1725.length co21, .slice Ao22 t1718.length co22] ?_; (with_reducible refine (laws_eqStringS.calls k _ _ t1725 _ _ t1718 true _ ?side1 ?side2 ?side3 ?side4 A19.out).mono ?_); (case side1 => repeat (first | exact (Kd.R_reads' HO1728.out).2.2 | (with_reducible refine Kd.C_alloc ?_ _) | (with_reducible refine Kd.C_drewN ?_ _) | (with_reducible refine Kd.C_drew ?_))); (case side2 => exact (Kd.R_reads' HO1728.out).2.1); (case side3 => repeat (first | exact (Kd.R_reads' HO1721.out).2.2 | (with_reducible refine Kd.C_alloc ?_ _) | (with_reducible refine Kd.C_drewN ?_ _) | (with_reducible refine Kd.C_drew ?_))); (case side4 => exact (Kd.R_reads' HO1721.out).2.1); rintro e w' ⟨rfl, ⟨nd, rfl⟩⟩; refine ⟨_, rfl, ?_⟩))
          go_meet
          case rel => exact ⟨_, ((t1726 != t1719)), (by first | rfl | (simp; done) | (simp [*]; done)), H', ⟨by first | omega | exact Nat.le_refl _⟩, ⟨by (with_reducible repeat (first | apply Kd.R_alloc | apply Kd.R_drewN | apply Kd.R_drew)); exact Kd.R_mono HO1721.out (fun _ hk => hk.2)⟩, ⟨by (with_reducible repeat (first | apply Kd.R_alloc | apply Kd.R_drewN | apply Kd.R_drew)); exact Kd.R_mono HO1724.out (fun _ hk => trivial)⟩, ⟨by (with_reducible repeat (first | apply Kd.R_alloc | apply Kd.R_drewN | apply Kd.R_drew)); exact Kd.R_mono HO1728.out (fun _ hk => hk.2)⟩, ⟨bel_⟩⟩
        · replace c20 := Bool.eq_false_iff.mpr c20
          subst c20
          rw [if_neg (show ¬ (false = true) by decide)] at H
          have H' := Aside0.mk H
          clear H
          obtain ⟨Ao23, co23, eo23⟩ := Kd.R_slice HO1728.out
          subst eo23
          obtain ⟨Ao24, co24, eo24⟩ := Kd.R_slice HO1721.out
          subst eo24
          go_wp2_with (first | ((with_reducible refine gate_callee (f := 47) rfl ?_); refine goL_ (some 49) Try.func47 #[.slice Ao23 t1725.length co23, .slice Ao24 t1718.length co24] ?_; (with_reducible refine (laws_eqStringS.calls k _ _ t1725 _ _ t1718 false _ ?side1 ?side2 ?side3 ?side4 A19.out).mono ?_); (case side1 => repeat (first | exact (Kd.R_reads' HO1728.out).2.2 | (with_reducible refine Kd.C_alloc ?_ _) | (with_reducible refine Kd.C_drewN ?_ _) | (with_reducible refine Kd.C_drew ?_))); (case side2 => exact (Kd.R_reads' HO1728.out).2.1); (case side3 => repeat (first | exact (Kd.R_reads' HO1721.out).2.2 | (with_reducible refine Kd.C_alloc ?_ _) | (with_reducible refine Kd.C_drewN ?_ _) | (with_reducible refine Kd.C_drew ?_))); (case side4 => exact (Kd.R_reads' HO1721.out).2.1); rintro e w' ⟨rfl, ⟨nd, rfl⟩⟩; refine ⟨_, rfl, ?_⟩))
          go_meet
          case rel => exact ⟨_, (true), (by first | rfl | (simp; done) | (simp [*]; done)), H', ⟨by first | omega | exact Nat.le_refl _⟩, ⟨by (with_reducible repeat (first | apply Kd.R_alloc | apply Kd.R_drewN | apply Kd.R_drew)); exact Kd.R_mono HO1721.out (fun _ hk => hk.2)⟩, ⟨by (with_reducible repeat (first | apply Kd.R_alloc | apply Kd.R_drewN | apply Kd.R_drew)); exact Kd.R_mono HO1724.out (fun _ hk => trivial)⟩, ⟨by (with_reducible repeat (first | apply Kd.R_alloc | apply Kd.R_drewN | apply Kd.R_drew)); exact Kd.R_mono HO1728.out (fun _ hk => hk.2)⟩, ⟨bel_⟩⟩
      case rest =>
        clear HC12
        (try clear c3); (try clear c5); (try clear c5b0); (try clear c5b1); (try clear c7); (try clear c7b0); (try clear c20)
        obtain ⟨kq, x55_11, rfl, HA, HJ11, HO_10, HO_12, HO_13, HB⟩ := hcut
        cases kq with
        | zero => exact absurd HA.out (by simp [laws_FnExactClashRow.j0])
        | succ kj11 =>
          have H := HA.out
          clear HA
          simp only [laws_FnExactClashRow.j0] at H
          by_cases c25 : x55_11 = true
          · subst c25
            rw [if_pos rfl] at H
            exact absurd ((Option.some.inj H).trans hr_) (by decide)
          · replace c25 := Bool.eq_false_iff.mpr c25
            subst c25
            rw [if_neg (show ¬ (false = true) by decide)] at H
            obtain ⟨t1730, A26, H⟩ := bnd_ H
            obtain ⟨t1733, A27, H⟩ := bnd_ H
            by_cases c28 : t1733 = true
            · subst c28
              rw [if_pos rfl] at H
              obtain ⟨⟨t1734, t1735⟩, A29, H⟩ := bnd_ H
              dsimp only at H
              have HC30 := Aside0.mk H
              clear H
              go_upto_region 16 with (first | ((with_reducible refine gate_callee (f := 35) rfl ?_); refine goL_ (some 58) Try.func35 #[.slice A3 l3.length c3] ?_; (with_reducible refine (laws_toDigestS.calls kj11 _ _ l3 t1730 _ ?side1 ?side2 A26.out).mono ?_); (case side1 => repeat (first | exact (Kd.C_below HR3.out HB.out) | (with_reducible refine Kd.C_alloc ?_ _) | (with_reducible refine Kd.C_drewN ?_ _) | (with_reducible refine Kd.C_drew ?_))); (case side2 => exact HC3.out); rintro e w31 ⟨v1731, rfl, ho0, hb⟩; refine ⟨_, rfl, ?_⟩; replace HO_10 := Aside0.mk (Kd.R_below (kdU_ HO_10.out) hb); replace HO_13 := Aside0.mk (Kd.R_below (kdU_ HO_13.out) hb); have HO1732 := Aside0.mk (Kd.R_lower (Kd.R_new' ho0 (Kd.R_lt (kdU_ HO_12.out))) (below_size bel_)); replace HO_12 := Aside0.mk (Kd.R_elder' (kdU_ HO_12.out) (Kd.R_base ho0) hb); replace HB := stepB_ hb; (try clear hb); (try clear hk); (try clear ho0); obtain ⟨Ao32, co32, eo32⟩ := Kd.R_slice HO1732.out; subst eo32) | ((with_reducible refine gate_callee (f := 39) rfl ?_); refine goL_ (some 59) Try.func39 #[.slice Ao17 t1722.length co17, .slice Ao32 t1730.length co32] ?_; (with_reducible refine (laws_eqDigestS.calls kj11 _ _ t1722 _ _ t1730 true _ ?side1 ?side2 ?side3 ?side4 A27.out).mono ?_); (case side1 => repeat (first | exact (Kd.R_reads' HO_12.out).2.2 | (with_reducible refine Kd.C_alloc ?_ _) | (with_reducible refine Kd.C_drewN ?_ _) | (with_reducible refine Kd.C_drew ?_))); (case side2 => exact (Kd.R_reads' HO_12.out).2.1); (case side3 => repeat (first | exact (Kd.R_reads' HO1732.out).2.2 | (with_reducible refine Kd.C_alloc ?_ _) | (with_reducible refine Kd.C_drewN ?_ _) | (with_reducible refine Kd.C_drew ?_))); (case side4 => exact (Kd.R_reads' HO1732.out).2.1); rintro e w33 ⟨rfl, hb⟩; refine ⟨_, rfl, ?_⟩; replace HO_10 := Aside0.mk (Kd.R_below (kdU_ HO_10.out) hb); replace HO_12 := Aside0.mk (Kd.R_below (kdU_ HO_12.out) hb); replace HO_13 := Aside0.mk (Kd.R_below (kdU_ HO_13.out) hb); replace HO1732 := Aside0.mk (Kd.R_below (kdU_ HO1732.out) hb); replace HB := stepB_ hb; (try clear hb); (try clear hk)) | ((with_reducible refine gate_callee (f := 59) rfl ?_); refine goL_ (some 63) Try.func59 #[.slice Ao17 t1722.length co17, .int .i64 1] ?_; (with_reducible refine (laws_markDigestS.calls kj11 (fun k_ => some k_ = (.slice Ao17 t1722.length co17 : Value).ownBlock) (.slice Ao17 t1722.length co17) t1722 1 t1734 t1735 w _ ?side1 ?side2 A29.out).mono ?_); (case side1 => exact bel_); (case side2 => exact Kd.R_tight rfl HO_12.out); rintro e w34 ⟨rfl, hy0, hb, hkp⟩; refine ⟨_, rfl, ?_⟩; replace HO_10 := Aside0.mk (Kd.R_mono (ok' := fun k_ => some k_ ≠ (v1727 : Value).ownBlock) (Kd.R_keptB ((Kd.R_apart' HO_10.out (Kd.R_typed HO_12.out) (by decide))) hkp (fun k_ hk_ hs_ => (hk_.2) hs_)) (fun k_ hk_ => hk_.1.1)); replace HO_13 := Aside0.mk (Kd.R_mono (ok' := fun k_ => some k_ ≠ (v1720 : Value).ownBlock) (Kd.R_keptB ((Kd.R_apart' HO_13.out (Kd.R_typed HO_12.out) (by decide))) hkp (fun k_ hk_ hs_ => (hk_.2) hs_)) (fun k_ hk_ => hk_.1.1)); replace HO_12 := Aside0.mk (Kd.R_reok rfl hy0 (fun k_ e_ => HO_12.out.1 k_ e_)); replace HO1732 := Aside0.mk (Kd.R_mono (ok' := fun k_ => some k_ ≠ (.slice Ao17 t1722.length co17 : Value).ownBlock) (Kd.R_keptB (HO1732.out) hkp (fun k_ hk_ hs_ => (hk_.2) hs_)) (fun k_ hk_ => hk_.1.2)); replace HB := Aside0.mk (hb); (try clear hb); (try clear hkp); (try clear hy0)))
              (try simp only [Act.put, List.setIfInBounds_toArray, List.set_cons_zero, List.set_cons_succ])
              go_cut [76] (fun v76 wc => ∃ (kq : Nat) (x76_29 : Bool), v76 = .bool x76_29 ∧ Aside0 (laws_FnExactClashRow.j1 kq a0 a1 a2 l3 t1718 t1719 t1725 x76_29 = some r) ∧ Aside0 (kq ≤ kj11) ∧ Aside0 (Kd.R Kd.string 9 wc w.heap.size (fun k_ => some k_ ≠ (v1727 : Value).ownBlock) v1720 t1718) ∧ Aside0 (Kd.R Kd.string 9 wc w.heap.size (fun k_ => some k_ ≠ (v1720 : Value).ownBlock) v1727 t1725) ∧ Aside0 (Below w.heap.size w wc))
              case first =>
                have H := HC30.out
                clear HC30
                by_cases c35 : t1734 < 0
                · rw [if_pos c35] at H
                  have c35b0 : decide (t1734 < 0) = true := decide_eq_true c35
                  clear c35
                  (first | rw [c35b0] | (simp only [i64_w, i32_w]; rw [c35b0]) | skip)
                  have H' := Aside0.mk H
                  clear H
                  go_wp2
                  go_meet
                  case rel => exact ⟨_, (true), (by first | rfl | (simp; done) | (simp [*]; done)), H', ⟨by have := HJ11.out; first | omega | exact Nat.le_refl _⟩, ⟨kdU_ HO_10.out⟩, ⟨kdU_ HO_13.out⟩, ⟨bel_⟩⟩
                · rw [if_neg c35] at H
                  have c35b0 : decide (t1734 < 0) = false := decide_eq_false c35
                  clear c35
                  (first | rw [c35b0] | (simp only [i64_w, i32_w]; rw [c35b0]) | skip)
                  obtain ⟨t1736, A36, H⟩ := bnd_ H
                  by_cases c37 : t1736 = true
                  · subst c37
                    rw [if_pos rfl] at H
                    have H' := Aside0.mk H
                    clear H
                    obtain ⟨Ao38, co38, eo38⟩ := Kd.R_slice HO_13.out
                    subst eo38
                    obtain ⟨Ao39, co39, eo39⟩ := Kd.R_slice HO_10.out
                    subst eo39
                    go_wp2_with (first | (go_at_call 47; (with_reducible refine (laws_eqStringS.calls kj11 _ _ t1725 _ _ t1718 true _ ?side1 ?side2 ?side3 ?side4 A36.out).mono ?_); (case side1 => repeat (first | exact (Kd.R_reads' HO_13.out).2.2 | (with_reducible refine Kd.C_alloc ?_ _) | (with_reducible refine Kd.C_drewN ?_ _) | (with_reducible refine Kd.C_drew ?_))); (case side2 => exact (Kd.R_reads' HO_13.out).2.1); (case side3 => repeat (first | exact (Kd.R_reads' HO_10.out).2.2 | (with_reducible refine Kd.C_alloc ?_ _) | (with_reducible refine Kd.C_drewN ?_ _) | (with_reducible refine Kd.C_drew ?_))); (case side4 => exact (Kd.R_reads' HO_10.out).2.1); rintro e w' ⟨rfl, ⟨nd, rfl⟩⟩))
                    go_meet
                    case rel => exact ⟨_, ((t1726 != t1719)), (by first | rfl | (simp; done) | (simp [*]; done)), H', ⟨by have := HJ11.out; first | omega | exact Nat.le_refl _⟩, ⟨kdU_ HO_10.out⟩, ⟨kdU_ HO_13.out⟩, ⟨bel_⟩⟩
                  · replace c37 := Bool.eq_false_iff.mpr c37
                    subst c37
                    rw [if_neg (show ¬ (false = true) by decide)] at H
                    have H' := Aside0.mk H
                    clear H
                    obtain ⟨Ao40, co40, eo40⟩ := Kd.R_slice HO_13.out
                    subst eo40
                    obtain ⟨Ao41, co41, eo41⟩ := Kd.R_slice HO_10.out
                    subst eo41
                    go_wp2_with (first | (go_at_call 47; (with_reducible refine (laws_eqStringS.calls kj11 _ _ t1725 _ _ t1718 false _ ?side1 ?side2 ?side3 ?side4 A36.out).mono ?_); (case side1 => repeat (first | exact (Kd.R_reads' HO_13.out).2.2 | (with_reducible refine Kd.C_alloc ?_ _) | (with_reducible refine Kd.C_drewN ?_ _) | (with_reducible refine Kd.C_drew ?_))); (case side2 => exact (Kd.R_reads' HO_13.out).2.1); (case side3 => repeat (first | exact (Kd.R_reads' HO_10.out).2.2 | (with_reducible refine Kd.C_alloc ?_ _) | (with_reducible refine Kd.C_drewN ?_ _) | (with_reducible refine Kd.C_drew ?_))); (case side4 => exact (Kd.R_reads' HO_10.out).2.1); rintro e w' ⟨rfl, ⟨nd, rfl⟩⟩))
                    go_meet
                    case rel => exact ⟨_, (true), (by first | rfl | (simp; done) | (simp [*]; done)), H', ⟨by have := HJ11.out; first | omega | exact Nat.le_refl _⟩, ⟨kdU_ HO_10.out⟩, ⟨kdU_ HO_13.out⟩, ⟨bel_⟩⟩
              case rest =>
                clear HC30
                (try clear c3); (try clear c5); (try clear c5b0); (try clear c5b1); (try clear c7); (try clear c7b0); (try clear c20); (try clear c25); (try clear c28); (try clear c35); (try clear c35b0); (try clear c37)
                obtain ⟨kq, x76_29, rfl, HA, HJ29, HO_10, HO_13, HB⟩ := hcut
                cases kq with
                | zero => exact absurd HA.out (by simp [laws_FnExactClashRow.j1])
                | succ kj29 =>
                  have H := HA.out
                  clear HA
                  simp only [laws_FnExactClashRow.j1] at H
                  by_cases c42 : x76_29 = true
                  · subst c42
                    rw [if_pos rfl] at H
                    exact absurd ((Option.some.inj H).trans hr_) (by decide)
                  · replace c42 := Bool.eq_false_iff.mpr c42
                    subst c42
                    rw [if_neg (show ¬ (false = true) by decide)] at H
                    obtain ⟨⟨t1737, t1738⟩, A43, H⟩ := bnd_ H
                    dsimp only at H
                    obtain ⟨t1739, A44, H⟩ := bnd_ H
                    by_cases c45 : t1739 < 0
                    · rw [if_pos c45] at H
                      have c45b0 : decide (t1739 < 0) = true := decide_eq_true c45
                      clear c45
                      exact absurd ((Option.some.inj H).trans hr_) (by decide)
                    · rw [if_neg c45] at H
                      have c45b0 : decide (t1739 < 0) = false := decide_eq_false c45
                      clear c45
                      by_cases c46 : t1739 = t1737
                      · rw [if_pos c46] at H
                        have c46b0 : (t1739 == t1737) = true := beq_iff_eq.mpr c46
                        have c46b1 : (t1739 != t1737) = false := bne_eq_false_iff_eq.mpr c46
                        clear c46
                        obtain ⟨t1740, A47, H⟩ := bnd_ H
                        obtain ⟨⟨t1743, t1744⟩, A48, H⟩ := bnd_ H
                        dsimp only at H
                        have HC49 := Aside0.mk H
                        clear H
                        obtain ⟨Ao50, co50, eo50⟩ := Kd.R_slice HO_13.out
                        subst eo50
                        go_upto_region 27 with (first | ((with_reducible refine gate_callee (f := 65) rfl ?_); refine goL_ (some 79) Try.func65 #[.slice Ao50 t1725.length co50, .int .i64 1] ?_; (with_reducible refine (laws_markStringS.calls kj29 (fun k_ => some k_ = (.slice Ao50 t1725.length co50 : Value).ownBlock) (.slice Ao50 t1725.length co50) t1725 1 t1737 t1738 w _ ?side1 ?side2 A43.out).mono ?_); (case side1 => exact bel_); (case side2 => exact Kd.R_tight rfl HO_13.out); rintro e w51 ⟨rfl, hy0, hb, hkp⟩; refine ⟨_, rfl, ?_⟩; replace HO_10 := Aside0.mk (Kd.R_mono (ok' := fun k_ => some k_ ≠ (.slice Ao50 t1725.length co50 : Value).ownBlock) (Kd.R_keptB (HO_10.out) hkp (fun k_ hk_ hs_ => (hk_) hs_)) (fun k_ hk_ => hk_.1)); replace HO_13 := Aside0.mk (Kd.R_reok rfl hy0 (fun k_ e_ => HO_13.out.1 k_ e_)); replace HB := Aside0.mk (hb); (try clear hb); (try clear hkp); (try clear hy0)) | ((with_reducible refine gate_callee (f := 82) rfl ?_); refine goesL_ (some 82) rfl rfl Try.func82 (by kernel_rfl) rfl #[.slice Ao50 t1738.length co50, .int .i64 1] rfl (by (try simp only [List.map_toArray, List.map_cons, List.map_nil]); first | done | (rw [show t1738.length = t1725.length from (Kd.R_reads' HO_13.out).1.symm] <;> rfl) | rfl | (simp only [List.length_drop, List.length_take]; rfl)) ?_; (with_reducible refine (laws_heldStringS.calls kj29 _ _ t1738 1 t1739 _ ?side1 ?side2 A44.out).mono ?_); (case side1 => repeat (first | exact (Kd.R_reads' HO_13.out).2.2 | (with_reducible refine Kd.C_alloc ?_ _) | (with_reducible refine Kd.C_drewN ?_ _) | (with_reducible refine Kd.C_drew ?_))); (case side2 => rw [show t1738.length = t1725.length from (Kd.R_reads' HO_13.out).1.symm]; exact (Kd.R_reads' HO_13.out).2.1); rintro e w52 ⟨rfl, hb⟩; refine ⟨_, rfl, ?_⟩; replace HO_10 := Aside0.mk (Kd.R_below (kdU_ HO_10.out) hb); replace HO_13 := Aside0.mk (Kd.R_below (kdU_ HO_13.out) hb); replace HB := stepB_ hb; (try clear hb); (try clear hk)) | ((with_reducible refine gate_callee (f := 35) rfl ?_); refine goL_ (some 93) Try.func35 #[.slice A3 l3.length c3] ?_; (with_reducible refine (laws_toDigestS.calls kj29 _ _ l3 t1740 _ ?side1 ?side2 A47.out).mono ?_); (case side1 => repeat (first | exact (Kd.C_below HR3.out HB.out) | (with_reducible refine Kd.C_alloc ?_ _) | (with_reducible refine Kd.C_drewN ?_ _) | (with_reducible refine Kd.C_drew ?_))); (case side2 => exact HC3.out); rintro e w53 ⟨v1741, rfl, ho0, hb⟩; refine ⟨_, rfl, ?_⟩; replace HO_10 := Aside0.mk (Kd.R_below (kdU_ HO_10.out) hb); replace HO_13 := Aside0.mk (Kd.R_below (kdU_ HO_13.out) hb); have HO1742 := Aside0.mk (Kd.R_lower ho0 (below_size bel_)); replace HB := stepB_ hb; (try clear hb); (try clear hk); (try clear ho0); obtain ⟨Ao54, co54, eo54⟩ := Kd.R_slice HO1742.out; subst eo54) | ((with_reducible refine gate_callee (f := 81) rfl ?_); refine goL_ (some 94) Try.func81 #[.int .i64 a0, .int .i64 a1, .string a2, .slice Ao54 t1740.length co54] ?_; (with_reducible refine (impl_ClashRow.calls kj29 a0 a1 a2 _ _ t1740 t1743 t1744 _ ?side1 ?side2 A48.out).mono ?_); (case side1 => repeat (first | exact (Kd.R_reads' HO1742.out).2.2 | (with_reducible refine Kd.C_alloc ?_ _) | (with_reducible refine Kd.C_drewN ?_ _) | (with_reducible refine Kd.C_drew ?_))); (case side2 => exact (Kd.R_reads' HO1742.out).2.1); rintro e w55 ⟨v1745, rfl, ho0, hb⟩; refine ⟨_, rfl, ?_⟩; replace HO1742 := Aside0.mk (Kd.R_below (kdU_ HO1742.out) hb); have HO1746 := Aside0.mk (Kd.R_lower (Kd.R_new' (Kd.R_new' ho0 (Kd.R_lt (kdU_ HO_10.out))) (Kd.R_lt (kdU_ HO_13.out))) (below_size bel_)); replace HO_10 := Aside0.mk (Kd.R_elder' (kdU_ HO_10.out) (Kd.R_base ho0) hb); replace HO_13 := Aside0.mk (Kd.R_elder' (kdU_ HO_13.out) (Kd.R_base ho0) hb); replace HB := stepB_ hb; (try clear hb); (try clear hk); (try clear ho0)))
                        (try simp only [Act.put, List.setIfInBounds_toArray, List.set_cons_zero, List.set_cons_succ])
                        go_cut [105] (fun v105 wc => ∃ (kq : Nat) (x105_48 : Bool), v105 = .bool x105_48 ∧ Aside0 (laws_FnExactClashRow.j2 kq t1738 t1737 x105_48 = some r) ∧ Aside0 (kq ≤ kj29) ∧ Aside0 (Kd.R Kd.string 9 wc w.heap.size (fun _ => True) (.slice Ao50 t1725.length co50) t1738) ∧ Aside0 (Below w.heap.size w wc))
                        case first =>
                          have H := HC49.out
                          clear HC49
                          obtain ⟨t1747, A56, H⟩ := bnd_ H
                          by_cases c57 : t1747 = true
                          · subst c57
                            rw [if_pos rfl] at H
                            have H' := Aside0.mk H
                            clear H
                            obtain ⟨Ao58, co58, eo58⟩ := Kd.R_slice HO1746.out
                            subst eo58
                            obtain ⟨Ao59, co59, eo59⟩ := Kd.R_slice HO_10.out
                            subst eo59
                            go_wp2_with (first | ((with_reducible refine gate_callee (f := 47) rfl ?_); refine goL_ (some 99) Try.func47 #[.slice Ao58 t1743.length co58, .slice Ao59 t1718.length co59] ?_; (with_reducible refine (laws_eqStringS.calls kj29 _ _ t1743 _ _ t1718 true _ ?side1 ?side2 ?side3 ?side4 A56.out).mono ?_); (case side1 => repeat (first | exact (Kd.R_reads' HO1746.out).2.2 | (with_reducible refine Kd.C_alloc ?_ _) | (with_reducible refine Kd.C_drewN ?_ _) | (with_reducible refine Kd.C_drew ?_))); (case side2 => exact (Kd.R_reads' HO1746.out).2.1); (case side3 => repeat (first | exact (Kd.R_reads' HO_10.out).2.2 | (with_reducible refine Kd.C_alloc ?_ _) | (with_reducible refine Kd.C_drewN ?_ _) | (with_reducible refine Kd.C_drew ?_))); (case side4 => exact (Kd.R_reads' HO_10.out).2.1); rintro e w' ⟨rfl, ⟨nd, rfl⟩⟩; refine ⟨_, rfl, ?_⟩))
                            go_meet
                            case rel => exact ⟨_, ((t1744 != t1719)), (by first | rfl | (simp; done) | (simp [*]; done)), H', ⟨by have := HJ11.out; have := HJ29.out; first | omega | exact Nat.le_refl _⟩, ⟨by (with_reducible repeat (first | apply Kd.R_alloc | apply Kd.R_drewN | apply Kd.R_drew)); exact Kd.R_mono HO_13.out (fun _ hk => trivial)⟩, ⟨bel_⟩⟩
                          · replace c57 := Bool.eq_false_iff.mpr c57
                            subst c57
                            rw [if_neg (show ¬ (false = true) by decide)] at H
                            have H' := Aside0.mk H
                            clear H
                            obtain ⟨Ao60, co60, eo60⟩ := Kd.R_slice HO1746.out
                            subst eo60
                            obtain ⟨Ao61, co61, eo61⟩ := Kd.R_slice HO_10.out
                            subst eo61
                            go_wp2_with (first | ((with_reducible refine gate_callee (f := 47) rfl ?_); refine goL_ (some 99) Try.func47 #[.slice Ao60 t1743.length co60, .slice Ao61 t1718.length co61] ?_; (with_reducible refine (laws_eqStringS.calls kj29 _ _ t1743 _ _ t1718 false _ ?side1 ?side2 ?side3 ?side4 A56.out).mono ?_); (case side1 => repeat (first | exact (Kd.R_reads' HO1746.out).2.2 | (with_reducible refine Kd.C_alloc ?_ _) | (with_reducible refine Kd.C_drewN ?_ _) | (with_reducible refine Kd.C_drew ?_))); (case side2 => exact (Kd.R_reads' HO1746.out).2.1); (case side3 => repeat (first | exact (Kd.R_reads' HO_10.out).2.2 | (with_reducible refine Kd.C_alloc ?_ _) | (with_reducible refine Kd.C_drewN ?_ _) | (with_reducible refine Kd.C_drew ?_))); (case side4 => exact (Kd.R_reads' HO_10.out).2.1); rintro e w' ⟨rfl, ⟨nd, rfl⟩⟩; refine ⟨_, rfl, ?_⟩))
                            go_meet
                            case rel => exact ⟨_, (true), (by first | rfl | (simp; done) | (simp [*]; done)), H', ⟨by have := HJ11.out; have := HJ29.out; first | omega | exact Nat.le_refl _⟩, ⟨by (with_reducible repeat (first | apply Kd.R_alloc | apply Kd.R_drewN | apply Kd.R_drew)); exact Kd.R_mono HO_13.out (fun _ hk => trivial)⟩, ⟨bel_⟩⟩
                        case rest =>
                          clear HC49
                          (try clear c3); (try clear c5); (try clear c5b0); (try clear c5b1); (try clear c7); (try clear c7b0); (try clear c20); (try clear c25); (try clear c28); (try clear c35); (try clear c35b0); (try clear c37); (try clear c42); (try clear c45); (try clear c45b0); (try clear c46); (try clear c46b0); (try clear c46b1); (try clear c57)
                          obtain ⟨kq, x105_48, rfl, HA, HJ48, HO_13, HB⟩ := hcut
                          have hl13_48 := (Kd.R_reads' HO_13.out).1
                          rw [hl13_48] at HO_13
                          (try simp only [hl13_48])
                          cases kq with
                          | zero => exact absurd HA.out (by simp [laws_FnExactClashRow.j2])
                          | succ kj48 =>
                            have H := HA.out
                            clear HA
                            simp only [laws_FnExactClashRow.j2] at H
                            by_cases c62 : x105_48 = true
                            · subst c62
                              rw [if_pos rfl] at H
                              exact absurd ((Option.some.inj H).trans hr_) (by decide)
                            · replace c62 := Bool.eq_false_iff.mpr c62
                              subst c62
                              rw [if_neg (show ¬ (false = true) by decide)] at H
                              obtain ⟨t1748, A63, H⟩ := bnd_ H
                              by_cases c64 : t1748 < 0
                              · rw [if_pos c64] at H
                                have c64b0 : decide (t1748 < 0) = true := decide_eq_true c64
                                clear c64
                                exact absurd ((Option.some.inj H).trans hr_) (by decide)
                              · rw [if_neg c64] at H
                                have c64b0 : decide (t1748 < 0) = false := decide_eq_false c64
                                clear c64
                                by_cases c65 : t1748 = t1737
                                · rw [if_pos c65] at H
                                  have c65b0 : (t1748 == t1737) = true := beq_iff_eq.mpr c65
                                  have c65b1 : (t1748 != t1737) = false := bne_eq_false_iff_eq.mpr c65
                                  clear c65
                                  obtain rfl := Option.some.inj H
                                  go_wp2_with (first | ((with_reducible refine gate_callee (f := 82) rfl ?_); refine goL_ (some 108) Try.func82 #[.slice Ao50 t1738.length co50, .int .i64 1] ?_; (with_reducible refine (laws_heldStringS.calls kj48 _ _ t1738 1 t1748 _ ?side1 ?side2 A63.out).mono ?_); (case side1 => repeat (first | exact (Kd.R_reads' HO_13.out).2.2 | (with_reducible refine Kd.C_alloc ?_ _) | (with_reducible refine Kd.C_drewN ?_ _) | (with_reducible refine Kd.C_drew ?_))); (case side2 => exact (Kd.R_reads' HO_13.out).2.1); rintro e w66 ⟨rfl, hb⟩; refine ⟨_, rfl, ?_⟩; replace HO_13 := Aside0.mk (Kd.R_below (kdU_ HO_13.out) hb); replace HB := stepB_ hb; (try clear hb); (try clear hk)))
                                  go_ret
                                  exact ⟨rfl_, bel_⟩
                                · rw [if_neg c65] at H
                                  have c65b0 : (t1748 == t1737) = false := beq_eq_false_iff_ne.mpr c65
                                  have c65b1 : (t1748 != t1737) = true := bne_iff_ne.mpr c65
                                  exact absurd ((Option.some.inj H).trans hr_) (by decide)
                      · rw [if_neg c46] at H
                        have c46b0 : (t1739 == t1737) = false := beq_eq_false_iff_ne.mpr c46
                        have c46b1 : (t1739 != t1737) = true := bne_iff_ne.mpr c46
                        exact absurd ((Option.some.inj H).trans hr_) (by decide)
            · replace c28 := Bool.eq_false_iff.mpr c28
              subst c28
              rw [if_neg (show ¬ (false = true) by decide)] at H
              exact absurd ((Option.some.inj H).trans hr_) (by decide)

end
end Go.Proofs.Ytemfciflhbhobaa.B
