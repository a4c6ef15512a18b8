/- What the Go functions loop.example/belfry/laws.FnExactClashOfPaths do is what the Lean functions .f of their names here say; condition: .f gives an answer. (Written by the session's program pp.py over the kit's print; Lean checks it.) -/
import Derived.Test.YtemfciflhbhobaaK
import Derived.Test.YtemfciflhbhobaaM
import Derived.Test.YtemfciflhbhobaaFImplClashOfPaths
import Derived.Test.YtemfciflhbhobaaFLawsEqClash
import Derived.Test.YtemfciflhbhobaaFSpecClashOfPaths
import Derived.Test.YtemfciflhbhobaaGLawD1
namespace Go.Proofs.Ytemfciflhbhobaa.B
open Go.RowKit Go.Proofs.YtemfciflhbhobaaW.PrintWords Go.Proofs.YtemfciflhbhobaaW.PrintLast Go.Proofs.YtemfciflhbhobaaW.PrintMore
attribute [local go_sem] max2_int min2_int max_two min_two max_three min_three max_four min_four   -- for this text's walks alone
set_option linter.unusedVariables false
set_option linter.unusedSimpArgs false

section
/-! ### laws_FnExactClashOfPaths: function 16 -/
def laws_FnExactClashOfPaths.j0 : Nat → List (S24) → List (S24) → List (S29) → List (S29) → Bool → Option (Bool)
  | 0, _, _, _, _, _ => none
  | k + 1, x3, x5, x16, x17, x70 => if x70 = true then (some false) else ((laws_toDigestS.f k x3).bind fun t1667 => ((laws_eqDigestS.f k x16 t1667).bind fun t1670 => (if t1670 = true then ((laws_toDigestS.f k x5).bind fun t1671 => ((laws_eqDigestS.f k x17 t1671).bind fun t1674 => (if t1674 = true then (some true) else (some false)))) else (some false))))
def laws_FnExactClashOfPaths.f (k : Nat) (a0 : Int) (a1 : Int) (a2 : ByteArray) (l3 : List (S24)) (a4 : ByteArray) (l5 : List (S24)) : Option (Bool) := if (a2.size : Int) > 1048576 then (some true) else (if (a4.size : Int) > 1048576 then (some true) else ((laws_szDigestS.f l3 1048576).bind fun t1644 => (if t1644 < 0 then (some true) else ((laws_szDigestS.f l5 t1644).bind fun t1645 => (if t1645 < 0 then (some true) else ((laws_toDigestS.f k l3).bind fun t1646 => ((laws_toDigestS.f k l5).bind fun t1649 => ((spec_ClashOfPaths.f k a0 a1 a2 t1646 a4 t1649).bind fun bt1652 => ((laws_toDigestS.f k l3).bind fun t1656 => ((laws_toDigestS.f k l5).bind fun t1659 => ((impl_ClashOfPaths.f k a0 a1 a2 t1656 a4 t1659).bind fun bt1662 => ((laws_eqClash.f bt1662.1 bt1662.2.1 bt1652.1 bt1652.2.1).bind fun t1666 => (if t1666 = true then (laws_FnExactClashOfPaths.j0 k l3 l5 t1656 t1659 (bt1662.2.2 != bt1652.2.2)) else (laws_FnExactClashOfPaths.j0 k l3 l5 t1656 t1659 true))))))))))))))
theorem laws_FnExactClashOfPaths.mono_l : ∀ k, (∀ y0 y1 y2 y3 y4, LeO (laws_FnExactClashOfPaths.j0 k y0 y1 y2 y3 y4) (laws_FnExactClashOfPaths.j0 (k + 1) y0 y1 y2 y3 y4))
  | 0 => fun _ _ _ _ _ r h => by simp [laws_FnExactClashOfPaths.j0] at h
  | k + 1 => by
    have ih0 := laws_FnExactClashOfPaths.mono_l k
    · intro y0 y1 y2 y3 y4
      unfold laws_FnExactClashOfPaths.j0
      repeat' first | (with_reducible first | exact ih0 _ _ _ _ _ | exact impl_ClashOfPaths.mono _ _ _ _ _ _ _ | exact laws_eqDigestS.mono _ _ _ | exact laws_toDigestS.mono _ _ | exact spec_ClashOfPaths.mono _ _ _ _ _ _ _ | exact LeO.refl _ | exact LeO.none _ | refine LeO.ite ?_ ?_ | refine LeO.bind ?_ (fun _ => ?_)) | exact ih0 _ _ _ _ _ | exact LeO.none _ | refine LeO.ite ?_ ?_ | refine LeO.bind ?_ (fun _ => ?_)
theorem laws_FnExactClashOfPaths.mono : ∀ a0 a1 a2 a3 a4 a5 k, LeO (laws_FnExactClashOfPaths.f k a0 a1 a2 a3 a4 a5) (laws_FnExactClashOfPaths.f (k + 1) a0 a1 a2 a3 a4 a5) := by
  intro a0 a1 a2 a3 a4 a5 k
  have ih0 := laws_FnExactClashOfPaths.mono_l k
  unfold laws_FnExactClashOfPaths.f
  repeat' first | (with_reducible first | exact ih0 _ _ _ _ _ | exact impl_ClashOfPaths.mono _ _ _ _ _ _ _ | exact laws_eqDigestS.mono _ _ _ | exact laws_toDigestS.mono _ _ | exact spec_ClashOfPaths.mono _ _ _ _ _ _ _ | exact LeO.refl _ | exact LeO.none _ | refine LeO.ite ?_ ?_ | refine LeO.bind ?_ (fun _ => ?_)) | exact ih0 _ _ _ _ _ | exact LeO.none _ | refine LeO.ite ?_ ?_ | refine LeO.bind ?_ (fun _ => ?_)
set_option maxHeartbeats 8000000 in
set_option maxRecDepth 100000 in
theorem laws_FnExactClashOfPaths.calls (k : Nat) (a0 : Int) (a1 : Int) (a2 : ByteArray) (A3 : Option Addr) (c3 : Nat) (l3 : List (S24)) (a4 : ByteArray) (A5 : Option Addr) (c5 : Nat) (l5 : List (S24)) (r : Bool) (hr_ : r = true) (w : World) (hr3 : Kd.C k24 w A3 l3.length l3) (hc3 : l3.length ≤ c3) (hr5 : Kd.C k24 w A5 l5.length l5) (hc5 : l5.length ≤ c5) (h : laws_FnExactClashOfPaths.f k a0 a1 a2 l3 a4 l5 = some r) :
    Calls Try.prog 16 #[.int .i64 a0, .int .i64 a1, .string a2, .slice A3 l3.length c3, .string a4, .slice A5 l5.length c5] w fun e w' => e = .returned (.bool r) ∧ Below w.heap.size w w' := by
  have hu46 := Try.underlying46
  have HR3 := Aside0.mk hr3
  have HC3 := Aside0.mk hc3
  clear hr3 hc3
  have HR5 := Aside0.mk hr5
  have HC5 := Aside0.mk hc5
  clear hr5 hc5
  have HB := Aside0.mk (Below.refl w.heap.size w)
  have H : (if (a2.size : Int) > 1048576 then (some true) else (if (a4.size : Int) > 1048576 then (some true) else ((laws_szDigestS.f l3 1048576).bind fun t1644 => (if t1644 < 0 then (some true) else ((laws_szDigestS.f l5 t1644).bind fun t1645 => (if t1645 < 0 then (some true) else ((laws_toDigestS.f k l3).bind fun t1646 => ((laws_toDigestS.f k l5).bind fun t1649 => ((spec_ClashOfPaths.f k a0 a1 a2 t1646 a4 t1649).bind fun bt1652 => ((laws_toDigestS.f k l3).bind fun t1656 => ((laws_toDigestS.f k l5).bind fun t1659 => ((impl_ClashOfPaths.f k a0 a1 a2 t1656 a4 t1659).bind fun bt1662 => ((laws_eqClash.f bt1662.1 bt1662.2.1 bt1652.1 bt1652.2.1).bind fun t1666 => (if t1666 = true then (laws_FnExactClashOfPaths.j0 k l3 l5 t1656 t1659 (bt1662.2.2 != bt1652.2.2)) else (laws_FnExactClashOfPaths.j0 k l3 l5 t1656 t1659 true))))))))))))))) = some r := h
  clear h
  by_cases c7 : (a2.size : Int) > 1048576
  · rw [if_pos c7] at H
    have c7b0 : decide (1048576 < (a2.size : Int)) = true := decide_eq_true c7
    have c7b1 : decide (1048576 < a2.size) = true := decide_eq_true (by omega)
    clear c7
    obtain rfl := Option.some.inj H
    go_enter Try.func16, Try.ntmps16
    go_wp2
    go_ret
    exact ⟨rfl_, bel_⟩
  · rw [if_neg c7] at H
    have c7b0 : decide (1048576 < (a2.size : Int)) = false := decide_eq_false c7
    have c7b1 : decide (1048576 < a2.size) = false := decide_eq_false (by omega)
    clear c7
    by_cases c8 : (a4.size : Int) > 1048576
    · rw [if_pos c8] at H
      have c8b0 : decide (1048576 < (a4.size : Int)) = true := decide_eq_true c8
      have c8b1 : decide (1048576 < a4.size) = true := decide_eq_true (by omega)
      clear c8
      obtain rfl := Option.some.inj H
      go_enter Try.func16, Try.ntmps16
      go_wp2
      go_ret
      exact ⟨rfl_, bel_⟩
    · rw [if_neg c8] at H
      have c8b0 : decide (1048576 < (a4.size : Int)) = false := decide_eq_false c8
      have c8b1 : decide (1048576 < a4.size) = false := decide_eq_false (by omega)
      clear c8
      obtain ⟨t1644, A9, H⟩ := bnd_ H
      by_cases c10 : t1644 < 0
      · rw [if_pos c10] at H
        have c10b0 : decide (t1644 < 0) = true := decide_eq_true c10
        clear c10
        obtain rfl := Option.some.inj H
        go_enter Try.func16, Try.ntmps16
        go_wp2_with (first | ((with_reducible refine gate_callee (f := 32) rfl ?_); refine goL_ (some 28) Try.func32 #[.slice A3 l3.length c3, .int .i64 1048576] ?_; (with_reducible refine (laws_szDigestS.calls _ _ l3 1048576 t1644 _ ?side1 ?side2 A9.out).mono ?_); (case side1 => repeat (first | exact HR3.out | (with_reducible refine Kd.C_alloc ?_ _) | (with_reducible refine Kd.C_drewN ?_ _) | (with_reducible refine Kd.C_drew ?_))); (case side2 => exact HC3.out); rintro e w' ⟨rfl, ⟨nd, rfl⟩⟩; refine ⟨_, rfl, ?_⟩))
        go_ret
        exact ⟨rfl_, bel_⟩
      · rw [if_neg c10] at H
        have c10b0 : decide (t1644 < 0) = false := decide_eq_false c10
        clear c10
        obtain ⟨t1645, A11, H⟩ := bnd_ H
        by_cases c12 : t1645 < 0
        · rw [if_pos c12] at H
          have c12b0 : decide (t1645 < 0) = true := decide_eq_true c12
          clear c12
          obtain rfl := Option.some.inj H
          go_enter Try.func16, Try.ntmps16
          go_wp2_with (first | ((with_reducible refine gate_callee (f := 32) rfl ?_); refine goL_ (some 28) Try.func32 #[.slice A3 l3.length c3, .int .i64 1048576] ?_; (with_reducible refine (laws_szDigestS.calls _ _ l3 1048576 t1644 _ ?side1 ?side2 A9.out).mono ?_); (case side1 => repeat (first | exact HR3.out | (with_reducible refine Kd.C_alloc ?_ _) | (with_reducible refine Kd.C_drewN ?_ _) | (with_reducible refine Kd.C_drew ?_))); (case side2 => exact HC3.out); rintro e w' ⟨rfl, ⟨nd, rfl⟩⟩; refine ⟨_, rfl, ?_⟩) | ((with_reducible refine gate_callee (f := 32) rfl ?_); refine goL_ (some 33) Try.func32 #[.slice A5 l5.length c5, .int .i64 t1644] ?_; (with_reducible refine (laws_szDigestS.calls _ _ l5 t1644 t1645 _ ?side1 ?side2 A11.out).mono ?_); (case side1 => repeat (first | exact HR5.out | (with_reducible refine Kd.C_alloc ?_ _) | (with_reducible refine Kd.C_drewN ?_ _) | (with_reducible refine Kd.C_drew ?_))); (case side2 => exact HC5.out); rintro e w' ⟨rfl, ⟨nd, rfl⟩⟩; refine ⟨_, rfl, ?_⟩))
          go_ret
          exact ⟨rfl_, bel_⟩
        · rw [if_neg c12] at H
          have c12b0 : decide (t1645 < 0) = false := decide_eq_false c12
          clear c12
          obtain ⟨t1646, A13, H⟩ := bnd_ H
          obtain ⟨t1649, A14, H⟩ := bnd_ H
          obtain ⟨⟨t1652, t1653, t1654⟩, A15, H⟩ := bnd_ H
          dsimp only at H
          obtain ⟨t1656, A16, H⟩ := bnd_ H
          obtain ⟨t1659, A17, H⟩ := bnd_ H
          obtain ⟨⟨t1662, t1663, t1664⟩, A18, H⟩ := bnd_ H
          dsimp only at H
          have HC19 := Aside0.mk H
          clear H
          go_enter Try.func16, Try.ntmps16
          go_upto_region 16 with (first | ((with_reducible refine gate_callee (f := 32) rfl ?_); refine goL_ (some 28) Try.func32 #[.slice A3 l3.length c3, .int .i64 1048576] ?_; (with_reducible refine (laws_szDigestS.calls _ _ l3 1048576 t1644 _ ?side1 ?side2 A9.out).mono ?_); (case side1 => repeat (first | exact HR3.out | (with_reducible refine Kd.C_alloc ?_ _) | (with_reducible refine Kd.C_drewN ?_ _) | (with_reducible refine Kd.C_drew ?_))); (case side2 => exact HC3.out); rintro e w' ⟨rfl, ⟨nd, rfl⟩⟩; refine ⟨_, rfl, ?_⟩) | ((with_reducible refine gate_callee (f := 32) rfl ?_); refine goL_ (some 33) Try.func32 #[.slice A5 l5.length c5, .int .i64 t1644] ?_; (with_reducible refine (laws_szDigestS.calls _ _ l5 t1644 t1645 _ ?side1 ?side2 A11.out).mono ?_); (case side1 => repeat (first | exact HR5.out | (with_reducible refine Kd.C_alloc ?_ _) | (with_reducible refine Kd.C_drewN ?_ _) | (with_reducible refine Kd.C_drew ?_))); (case side2 => exact HC5.out); rintro e w' ⟨rfl, ⟨nd, rfl⟩⟩; refine ⟨_, rfl, ?_⟩) | ((with_reducible refine gate_callee (f := 35) rfl ?_); refine goL_ (some 41) Try.func35 #[.slice A3 l3.length c3] ?_; (with_reducible refine (laws_toDigestS.calls k _ _ l3 t1646 _ ?side1 ?side2 A13.out).mono ?_); (case side1 => repeat (first | exact HR3.out | (with_reducible refine Kd.C_alloc ?_ _) | (with_reducible refine Kd.C_drewN ?_ _) | (with_reducible refine Kd.C_drew ?_))); (case side2 => exact HC3.out); rintro e w20 ⟨v1647, rfl, ho0, hb⟩; refine ⟨_, rfl, ?_⟩; have HO1648 := Aside0.mk (Kd.R_lower ho0 (below_size bel_)); replace HB := stepB_ hb; (try clear hb); (try clear hk); (try clear ho0)) | ((with_reducible refine gate_callee (f := 35) rfl ?_); refine goL_ (some 44) Try.func35 #[.slice A5 l5.length c5] ?_; (with_reducible refine (laws_toDigestS.calls k _ _ l5 t1649 _ ?side1 ?side2 A14.out).mono ?_); (case side1 => repeat (first | exact (Kd.C_below HR5.out HB.out) | (with_reducible refine Kd.C_alloc ?_ _) | (with_reducible refine Kd.C_drewN ?_ _) | (with_reducible refine Kd.C_drew ?_))); (case side2 => exact HC5.out); rintro e w21 ⟨v1650, rfl, ho0, hb⟩; refine ⟨_, rfl, ?_⟩; have HO1651 := Aside0.mk (Kd.R_lower (Kd.R_new' ho0 (Kd.R_lt (kdU_ HO1648.out))) (below_size bel_)); replace HO1648 := Aside0.mk (Kd.R_elder' (kdU_ HO1648.out) (Kd.R_base ho0) hb); replace HB := stepB_ hb; (try clear hb); (try clear hk); (try clear ho0); obtain ⟨Ao22, co22, eo22⟩ := Kd.R_slice HO1648.out; subst eo22; obtain ⟨Ao23, co23, eo23⟩ := Kd.R_slice HO1651.out; subst eo23) | ((with_reducible refine gate_callee (f := 76) rfl ?_); refine goL_ (some 45) Try.func76 #[.int .i64 a0, .int .i64 a1, .string a2, .slice Ao22 t1646.length co22, .string a4, .slice Ao23 t1649.length co23] ?_; (with_reducible refine (spec_ClashOfPaths.calls k a0 a1 a2 _ _ t1646 a4 _ _ t1649 t1652 t1653 t1654 _ ?side1 ?side2 ?side3 ?side4 A15.out).mono ?_); (case side1 => repeat (first | exact (Kd.R_reads' HO1648.out).2.2 | (with_reducible refine Kd.C_alloc ?_ _) | (with_reducible refine Kd.C_drewN ?_ _) | (with_reducible refine Kd.C_drew ?_))); (case side2 => exact (Kd.R_reads' HO1648.out).2.1); (case side3 => repeat (first | exact (Kd.R_reads' HO1651.out).2.2 | (with_reducible refine Kd.C_alloc ?_ _) | (with_reducible refine Kd.C_drewN ?_ _) | (with_reducible refine Kd.C_drew ?_))); (case side4 => exact (Kd.R_reads' HO1651.out).2.1); rintro e w24 ⟨rfl, hb⟩; refine ⟨_, rfl, ?_⟩; replace HO1648 := Aside0.mk (Kd.R_below (kdU_ HO1648.out) hb); replace HO1651 := Aside0.mk (Kd.R_below (kdU_ HO1651.out) hb); replace HB := stepB_ hb; (try clear hb); (try clear hk)) | ((with_reducible refine gate_dst (N := 14) rfl ?_); refine boxE_ (cs := #[.string (⟨#[]⟩ : ByteArray), .string (⟨#[]⟩ : ByteArray)]) (t := 46) ?_; intro gb1655 hg w25 hbox hb; replace HO1648 := Aside0.mk (Kd.R_below (kdU_ HO1648.out) hb); replace HO1651 := Aside0.mk (Kd.R_below (kdU_ HO1651.out) hb); have BK1655 := Aside0.mk (hbox); have GW1655 := sizeB_ hg; have GE1655 := sizeB_ hg; replace HB := stepB_ hb; clear hb hbox hg; obtain ⟨hcz26_0, hcz26_1, hfz26_0, hfz26_1⟩ := cz2_ BK1655.out) | ((with_reducible refine gate_callee (f := 35) rfl ?_); refine goL_ (some 49) Try.func35 #[.slice A3 l3.length c3] ?_; (with_reducible refine (laws_toDigestS.calls k _ _ l3 t1656 _ ?side1 ?side2 A16.out).mono ?_); (case side1 => exact Kd.C_below HR3.out bel_); (case side2 => exact HC3.out); rintro e w27 ⟨v1657, rfl, ho0, hb⟩; refine ⟨_, rfl, ?_⟩; have HO1658 := Aside0.mk (Kd.R_lower (Kd.R_new' (Kd.R_new' ho0 (Kd.R_lt (by (with_reducible repeat (first | apply Kd.R_alloc | apply Kd.R_drewN | apply Kd.R_drew)); exact (Kd.R_mono (Kd.R_far (p := ⟨gb1655, 1, none⟩) (Kd.R_far (p := ⟨gb1655, 0, none⟩) (Kd.R_types HO1648.out BK1655.out (by decide)) (fun _ hk => hk.2) (.string t1652)) (fun _ hk => hk.2) (.string t1653)) (fun _ h_ => h_.1))))) (Kd.R_lt (by (with_reducible repeat (first | apply Kd.R_alloc | apply Kd.R_drewN | apply Kd.R_drew)); exact (Kd.R_mono (Kd.R_far (p := ⟨gb1655, 1, none⟩) (Kd.R_far (p := ⟨gb1655, 0, none⟩) (Kd.R_types HO1651.out BK1655.out (by decide)) (fun _ hk => hk.2) (.string t1652)) (fun _ hk => hk.2) (.string t1653)) (fun _ h_ => h_.1))))) (below_size bel_)); replace HO1648 := Aside0.mk (Kd.R_elder' (by (with_reducible repeat (first | apply Kd.R_alloc | apply Kd.R_drewN | apply Kd.R_drew)); exact (Kd.R_mono (Kd.R_far (p := ⟨gb1655, 1, none⟩) (Kd.R_far (p := ⟨gb1655, 0, none⟩) (Kd.R_types HO1648.out BK1655.out (by decide)) (fun _ hk => hk.2) (.string t1652)) (fun _ hk => hk.2) (.string t1653)) (fun _ h_ => h_.1))) (Kd.R_base ho0) hb); replace HO1651 := Aside0.mk (Kd.R_elder' (by (with_reducible repeat (first | apply Kd.R_alloc | apply Kd.R_drewN | apply Kd.R_drew)); exact (Kd.R_mono (Kd.R_far (p := ⟨gb1655, 1, none⟩) (Kd.R_far (p := ⟨gb1655, 0, none⟩) (Kd.R_types HO1651.out BK1655.out (by decide)) (fun _ hk => hk.2) (.string t1652)) (fun _ hk => hk.2) (.string t1653)) (fun _ h_ => h_.1))) (Kd.R_base ho0) hb); replace BK1655 := blkPB_ (cs := #[.string t1652, .string t1653]) BK1655.out hb; replace HB := stepB_ hb; (try clear hb); (try clear hk); (try clear ho0)) | ((with_reducible refine gate_callee (f := 35) rfl ?_); refine goL_ (some 51) Try.func35 #[.slice A5 l5.length c5] ?_; (with_reducible refine (laws_toDigestS.calls k _ _ l5 t1659 _ ?side1 ?side2 A17.out).mono ?_); (case side1 => repeat (first | exact (Kd.C_below HR5.out HB.out) | (with_reducible refine Kd.C_alloc ?_ _) | (with_reducible refine Kd.C_drewN ?_ _) | (with_reducible refine Kd.C_drew ?_))); (case side2 => exact HC5.out); rintro e w28 ⟨v1660, rfl, ho0, hb⟩; refine ⟨_, rfl, ?_⟩; have HO1661 := Aside0.mk (Kd.R_lower (Kd.R_new' (Kd.R_new' (Kd.R_new' ho0 (Kd.R_lt (kdU_ HO1648.out))) (Kd.R_lt (kdU_ HO1651.out))) (Kd.R_lt (kdU_ HO1658.out))) (below_size bel_)); replace HO1648 := Aside0.mk (Kd.R_elder' (kdU_ HO1648.out) (Kd.R_base ho0) hb); replace HO1651 := Aside0.mk (Kd.R_elder' (kdU_ HO1651.out) (Kd.R_base ho0) hb); replace HO1658 := Aside0.mk (Kd.R_elder' (kdU_ HO1658.out) (Kd.R_base ho0) hb); replace BK1655 := blkBel_ BK1655.out hb; replace HB := stepB_ hb; (try clear hb); (try clear hk); (try clear ho0); obtain ⟨Ao29, co29, eo29⟩ := Kd.R_slice HO1658.out; subst eo29; obtain ⟨Ao30, co30, eo30⟩ := Kd.R_slice HO1661.out; subst eo30) | ((with_reducible refine gate_callee (f := 77) rfl ?_); refine goL_ (some 59) Try.func77 #[.int .i64 a0, .int .i64 a1, .string a2, .slice Ao29 t1656.length co29, .string a4, .slice Ao30 t1659.length co30] ?_; (with_reducible refine (impl_ClashOfPaths.calls k a0 a1 a2 _ _ t1656 a4 _ _ t1659 t1662 t1663 t1664 _ ?side1 ?side2 ?side3 ?side4 A18.out).mono ?_); (case side1 => repeat (first | exact (Kd.R_reads' HO1658.out).2.2 | (with_reducible refine Kd.C_alloc ?_ _) | (with_reducible refine Kd.C_drewN ?_ _) | (with_reducible refine Kd.C_drew ?_))); (case side2 => exact (Kd.R_reads' HO1658.out).2.1); (case side3 => repeat (first | exact (Kd.R_reads' HO1661.out).2.2 | (with_reducible refine Kd.C_alloc ?_ _) | (with_reducible refine Kd.C_drewN ?_ _) | (with_reducible refine Kd.C_drew ?_))); (case side4 => exact (Kd.R_reads' HO1661.out).2.1); rintro e w31 ⟨rfl, hb⟩; refine ⟨_, rfl, ?_⟩; replace HO1648 := Aside0.mk (Kd.R_below (kdU_ HO1648.out) hb); replace HO1651 := Aside0.mk (Kd.R_below (kdU_ HO1651.out) hb); replace HO1658 := Aside0.mk (Kd.R_below (kdU_ HO1658.out) hb); replace HO1661 := Aside0.mk (Kd.R_below (kdU_ HO1661.out) hb); replace BK1655 := blkBel_ BK1655.out hb; replace HB := stepB_ hb; (try clear hb); (try clear hk)) | ((with_reducible refine gate_dst (N := 18) rfl ?_); refine boxE_ (cs := #[.string (⟨#[]⟩ : ByteArray), .string (⟨#[]⟩ : ByteArray)]) (t := 46) ?_; intro gb1665 hg w32 hbox hb; replace HO1648 := Aside0.mk (Kd.R_below (kdU_ HO1648.out) hb); replace HO1651 := Aside0.mk (Kd.R_below (kdU_ HO1651.out) hb); replace HO1658 := Aside0.mk (Kd.R_below (kdU_ HO1658.out) hb); replace HO1661 := Aside0.mk (Kd.R_below (kdU_ HO1661.out) hb); have BK1665 := Aside0.mk (hbox); have GW1665 := sizeB_ hg; have GE1665 := sizeB_ hg; replace HB := stepB_ hb; have NB1655_1665 := neL_ BK1655.out hg; have NB1665_1655 := neG_ BK1655.out hg; replace BK1655 := blkBel_ BK1655.out hb; clear hb hbox hg; have hnb33 := NB1665_1655.out; have hnc33 := NB1655_1665.out; obtain ⟨hcz34_0, hcz34_1, hfz34_0, hfz34_1⟩ := cz2_ BK1665.out))
          (try simp only [Act.put, List.setIfInBounds_toArray, List.set_cons_zero, List.set_cons_succ])
          go_cut [70] (fun v70 wc => ∃ (kq : Nat) (x70_18 : Bool), v70 = .bool x70_18 ∧ Aside0 (laws_FnExactClashOfPaths.j0 kq l3 l5 t1656 t1659 x70_18 = some r) ∧ Aside0 (kq ≤ k) ∧ Aside0 (Kd.R k29 29 wc w.heap.size (fun k_ => some k_ ≠ ((.slice Ao30 t1659.length co30) : Value).ownBlock) (.slice Ao29 t1656.length co29) t1656) ∧ Aside0 (Kd.R k29 29 wc w.heap.size (fun k_ => some k_ ≠ ((.slice Ao29 t1656.length co29) : Value).ownBlock) (.slice Ao30 t1659.length co30) t1659) ∧ Aside0 (wc.heap[gb1655]? = some (.cells #[.string t1652, .string t1653] 46 (0, 0))) ∧ Aside0 (wc.heap[gb1665]? = some (.cells #[.string t1662, .string t1663] 46 (0, 0))) ∧ Aside0 (Below w.heap.size w wc))
          case first =>
            have H := HC19.out
            clear HC19
            obtain ⟨t1666, A35, H⟩ := bnd_ H
            by_cases c36 : t1666 = true
            · subst c36
              rw [if_pos rfl] at H
              have H' := Aside0.mk H
              clear H
              have hnb37 := NB1665_1655.out
              have hnc37 := NB1655_1665.out
              obtain ⟨hcz38_0, hcz38_1, hfz38_0, hfz38_1⟩ := cz2_ BK1665.out
              obtain ⟨hcz39_0, hcz39_1, hfz39_0, hfz39_1⟩ := cz2_ BK1655.out
              go_wp2_with (first | ((with_reducible refine gate_callee (f := 37) rfl ?_); refine goL_ (some 64) Try.func37 #[.agg #[.string t1662, .string t1663], .agg #[.string t1652, .string t1653]] ?_; (with_reducible refine (laws_eqClash.calls t1662 t1663 t1652 t1653 true _ A35.out).mono ?_); rintro e w40 ⟨rfl, hb⟩; refine ⟨_, rfl, ?_⟩; replace HO1648 := Aside0.mk (Kd.R_below (by (with_reducible repeat (first | apply Kd.R_alloc | apply Kd.R_drewN | apply Kd.R_drew)); exact (Kd.R_mono (Kd.R_far (p := ⟨gb1665, 1, none⟩) (Kd.R_far (p := ⟨gb1665, 0, none⟩) (Kd.R_types HO1648.out BK1665.out (by decide)) (fun _ hk => hk.2) (.string t1662)) (fun _ hk => hk.2) (.string t1663)) (fun _ h_ => h_.1))) hb); replace HO1651 := Aside0.mk (Kd.R_below (by (with_reducible repeat (first | apply Kd.R_alloc | apply Kd.R_drewN | apply Kd.R_drew)); exact (Kd.R_mono (Kd.R_far (p := ⟨gb1665, 1, none⟩) (Kd.R_far (p := ⟨gb1665, 0, none⟩) (Kd.R_types HO1651.out BK1665.out (by decide)) (fun _ hk => hk.2) (.string t1662)) (fun _ hk => hk.2) (.string t1663)) (fun _ h_ => h_.1))) hb); replace HO1658 := Aside0.mk (Kd.R_below (by (with_reducible repeat (first | apply Kd.R_alloc | apply Kd.R_drewN | apply Kd.R_drew)); exact (Kd.R_mono (Kd.R_far (p := ⟨gb1665, 1, none⟩) (Kd.R_far (p := ⟨gb1665, 0, none⟩) (Kd.R_types HO1658.out BK1665.out (by decide)) (fun _ hk => hk.2) (.string t1662)) (fun _ hk => hk.2) (.string t1663)) (fun _ h_ => h_.1))) hb); replace HO1661 := Aside0.mk (Kd.R_below (by (with_reducible repeat (first | apply Kd.R_alloc | apply Kd.R_drewN | apply Kd.R_drew)); exact (Kd.R_mono (Kd.R_far (p := ⟨gb1665, 1, none⟩) (Kd.R_far (p := ⟨gb1665, 0, none⟩) (Kd.R_types HO1661.out BK1665.out (by decide)) (fun _ hk => hk.2) (.string t1662)) (fun _ hk => hk.2) (.string t1663)) (fun _ h_ => h_.1))) hb); replace BK1655 := blkBel_ BK1655.out hb; replace BK1665 := blkPB_ (cs := #[.string t1662, .string t1663]) BK1665.out hb; replace HB := stepB_ hb; (try clear hb); (try clear hk)))
              go_meet
              case rel => exact ⟨_, ((t1664 != t1654)), (by first | rfl | (simp; done) | (simp [*]; done)), H', ⟨by first | omega | exact Nat.le_refl _⟩, ⟨by (with_reducible repeat (first | apply Kd.R_alloc | apply Kd.R_drewN | apply Kd.R_drew)); exact Kd.R_mono HO1658.out (fun _ hk => hk.2)⟩, ⟨by (with_reducible repeat (first | apply Kd.R_alloc | apply Kd.R_drewN | apply Kd.R_drew)); exact Kd.R_mono HO1661.out (fun _ hk => hk.2)⟩, ⟨blkU_ BK1655.out⟩, ⟨blkU_ BK1665.out⟩, ⟨bel_⟩⟩
            · replace c36 := Bool.eq_false_iff.mpr c36
              subst c36
              rw [if_neg (show ¬ (false = true) by decide)] at H
              have H' := Aside0.mk H
              clear H
              have hnb41 := NB1665_1655.out
              have hnc41 := NB1655_1665.out
              obtain ⟨hcz42_0, hcz42_1, hfz42_0, hfz42_1⟩ := cz2_ BK1665.out
              obtain ⟨hcz43_0, hcz43_1, hfz43_0, hfz43_1⟩ := cz2_ BK1655.out
              go_wp2_with (first | ((with_reducible refine gate_callee (f := 37) rfl ?_); refine goL_ (some 64) Try.func37 #[.agg #[.string t1662, .string t1663], .agg #[.string t1652, .string t1653]] ?_; (with_reducible refine (laws_eqClash.calls t1662 t1663 t1652 t1653 false _ A35.out).mono ?_); rintro e w44 ⟨rfl, hb⟩; refine ⟨_, rfl, ?_⟩; replace HO1648 := Aside0.mk (Kd.R_below (by (with_reducible repeat (first | apply Kd.R_alloc | apply Kd.R_drewN | apply Kd.R_drew)); exact (Kd.R_mono (Kd.R_far (p := ⟨gb1665, 1, none⟩) (Kd.R_far (p := ⟨gb1665, 0, none⟩) (Kd.R_types HO1648.out BK1665.out (by decide)) (fun _ hk => hk.2) (.string t1662)) (fun _ hk => hk.2) (.string t1663)) (fun _ h_ => h_.1))) hb); replace HO1651 := Aside0.mk (Kd.R_below (by (with_reducible repeat (first | apply Kd.R_alloc | apply Kd.R_drewN | apply Kd.R_drew)); exact (Kd.R_mono (Kd.R_far (p := ⟨gb1665, 1, none⟩) (Kd.R_far (p := ⟨gb1665, 0, none⟩) (Kd.R_types HO1651.out BK1665.out (by decide)) (fun _ hk => hk.2) (.string t1662)) (fun _ hk => hk.2) (.string t1663)) (fun _ h_ => h_.1))) hb); replace HO1658 := Aside0.mk (Kd.R_below (by (with_reducible repeat (first | apply Kd.R_alloc | apply Kd.R_drewN | apply Kd.R_drew)); exact (Kd.R_mono (Kd.R_far (p := ⟨gb1665, 1, none⟩) (Kd.R_far (p := ⟨gb1665, 0, none⟩) (Kd.R_types HO1658.out BK1665.out (by decide)) (fun _ hk => hk.2) (.string t1662)) (fun _ hk => hk.2) (.string t1663)) (fun _ h_ => h_.1))) hb); replace HO1661 := Aside0.mk (Kd.R_below (by (with_reducible repeat (first | apply Kd.R_alloc | apply Kd.R_drewN | apply Kd.R_drew)); exact (Kd.R_mono (Kd.R_far (p := ⟨gb1665, 1, none⟩) (Kd.R_far (p := ⟨gb1665, 0, none⟩) (Kd.R_types HO1661.out BK1665.out (by decide)) (fun _ hk => hk.2) (.string t1662)) (fun _ hk => hk.2) (.string t1663)) (fun _ h_ => h_.1))) hb); replace BK1655 := blkBel_ BK1655.out hb; replace BK1665 := blkPB_ (cs := #[.string t1662, .string t1663]) BK1665.out hb; replace HB := stepB_ hb; (try clear hb); (try clear hk)))
              go_meet
              case rel => exact ⟨_, (true), (by first | rfl | (simp; done) | (simp [*]; done)), H', ⟨by first | omega | exact Nat.le_refl _⟩, ⟨by (with_reducible repeat (first | apply Kd.R_alloc | apply Kd.R_drewN | apply Kd.R_drew)); exact Kd.R_mono HO1658.out (fun _ hk => hk.2)⟩, ⟨by (with_reducible repeat (first | apply Kd.R_alloc | apply Kd.R_drewN | apply Kd.R_drew)); exact Kd.R_mono HO1661.out (fun _ hk => hk.2)⟩, ⟨blkU_ BK1655.out⟩, ⟨blkU_ BK1665.out⟩, ⟨bel_⟩⟩
          case rest =>
            clear HC19
            (try clear c3); (try clear c5); (try clear c7); (try clear c7b0); (try clear c7b1); (try clear c8); (try clear c8b0); (try clear c8b1); (try clear c10); (try clear c10b0); (try clear c12); (try clear c12b0); (try clear c36); (try clear hcz26_0); (try clear hcz26_1); (try clear hcz34_0); (try clear hcz34_1); (try clear hcz38_0); (try clear hcz38_1); (try clear hcz39_0); (try clear hcz39_1); (try clear hcz42_0); (try clear hcz42_1); (try clear hcz43_0); (try clear hcz43_1); (try clear hfz26_0); (try clear hfz26_1); (try clear hfz34_0); (try clear hfz34_1); (try clear hfz38_0); (try clear hfz38_1); (try clear hfz39_0); (try clear hfz39_1); (try clear hfz42_0); (try clear hfz42_1); (try clear hfz43_0); (try clear hfz43_1)
            obtain ⟨kq, x70_18, rfl, HA, HJ18, HO_16, HO_17, BK1655, BK1665, HB⟩ := hcut
            cases kq with
            | zero => exact absurd HA.out (by simp [laws_FnExactClashOfPaths.j0])
            | succ kj18 =>
              have H := HA.out
              clear HA
              simp only [laws_FnExactClashOfPaths.j0] at H
              by_cases c45 : x70_18 = true
              · subst c45
                rw [if_pos rfl] at H
                exact absurd ((Option.some.inj H).trans hr_) (by decide)
              · replace c45 := Bool.eq_false_iff.mpr c45
                subst c45
                rw [if_neg (show ¬ (false = true) by decide)] at H
                obtain ⟨t1667, A46, H⟩ := bnd_ H
                obtain ⟨t1670, A47, H⟩ := bnd_ H
                by_cases c48 : t1670 = true
                · subst c48
                  rw [if_pos rfl] at H
                  obtain ⟨t1671, A49, H⟩ := bnd_ H
                  obtain ⟨t1674, A50, H⟩ := bnd_ H
                  by_cases c51 : t1674 = true
                  · subst c51
                    rw [if_pos rfl] at H
                    obtain rfl := Option.some.inj H
                    go_wp2_with (first | ((with_reducible refine gate_callee (f := 35) rfl ?_); refine goL_ (some 73) Try.func35 #[.slice A3 l3.length c3] ?_; (with_reducible refine (laws_toDigestS.calls kj18 _ _ l3 t1667 _ ?side1 ?side2 A46.out).mono ?_); (case side1 => repeat (first | exact (Kd.C_below HR3.out HB.out) | (with_reducible refine Kd.C_alloc ?_ _) | (with_reducible refine Kd.C_drewN ?_ _) | (with_reducible refine Kd.C_drew ?_))); (case side2 => exact HC3.out); rintro e w52 ⟨v1668, rfl, ho0, hb⟩; refine ⟨_, rfl, ?_⟩; have HO1669 := Aside0.mk (Kd.R_lower (Kd.R_new' (Kd.R_new' ho0 (Kd.R_lt (kdU_ HO_16.out))) (Kd.R_lt (kdU_ HO_17.out))) (below_size bel_)); replace HO_16 := Aside0.mk (Kd.R_elder' (kdU_ HO_16.out) (Kd.R_base ho0) hb); replace HO_17 := Aside0.mk (Kd.R_elder' (kdU_ HO_17.out) (Kd.R_base ho0) hb); replace BK1655 := blkBel_ BK1655.out hb; replace BK1665 := blkBel_ BK1665.out hb; replace HB := stepB_ hb; (try clear hb); (try clear hk); (try clear ho0); obtain ⟨Ao53, co53, eo53⟩ := Kd.R_slice HO1669.out; subst eo53) | ((with_reducible refine gate_callee (f := 39) rfl ?_); refine goL_ (some 74) Try.func39 #[.slice Ao29 t1656.length co29, .slice Ao53 t1667.length co53] ?_; (with_reducible refine (laws_eqDigestS.calls kj18 _ _ t1656 _ _ t1667 true _ ?side1 ?side2 ?side3 ?side4 A47.out).mono ?_); (case side1 => repeat (first | exact (Kd.R_reads' HO_16.out).2.2 | (with_reducible refine Kd.C_alloc ?_ _) | (with_reducible refine Kd.C_drewN ?_ _) | (with_reducible refine Kd.C_drew ?_))); (case side2 => exact (Kd.R_reads' HO_16.out).2.1); (case side3 => repeat (first | exact (Kd.R_reads' HO1669.out).2.2 | (with_reducible refine Kd.C_alloc ?_ _) | (with_reducible refine Kd.C_drewN ?_ _) | (with_reducible refine Kd.C_drew ?_))); (case side4 => exact (Kd.R_reads' HO1669.out).2.1); rintro e w54 ⟨rfl, hb⟩; refine ⟨_, rfl, ?_⟩; replace HO_16 := Aside0.mk (Kd.R_below (kdU_ HO_16.out) hb); replace HO_17 := Aside0.mk (Kd.R_below (kdU_ HO_17.out) hb); replace HO1669 := Aside0.mk (Kd.R_below (kdU_ HO1669.out) hb); replace BK1655 := blkBel_ BK1655.out hb; replace BK1665 := blkBel_ BK1665.out hb; replace HB := stepB_ hb; (try clear hb); (try clear hk)) | ((with_reducible refine gate_callee (f := 35) rfl ?_); refine goL_ (some 78) Try.func35 #[.slice A5 l5.length c5] ?_; (with_reducible refine (laws_toDigestS.calls kj18 _ _ l5 t1671 _ ?side1 ?side2 A49.out).mono ?_); (case side1 => repeat (first | exact (Kd.C_below HR5.out HB.out) | (with_reducible refine Kd.C_alloc ?_ _) | (with_reducible refine Kd.C_drewN ?_ _) | (with_reducible refine Kd.C_drew ?_))); (case side2 => exact HC5.out); rintro e w55 ⟨v1672, rfl, ho0, hb⟩; refine ⟨_, rfl, ?_⟩; have HO1673 := Aside0.mk (Kd.R_lower (Kd.R_new' (Kd.R_new' (Kd.R_new' ho0 (Kd.R_lt (kdU_ HO_16.out))) (Kd.R_lt (kdU_ HO_17.out))) (Kd.R_lt (kdU_ HO1669.out))) (below_size bel_)); replace HO_16 := Aside0.mk (Kd.R_elder' (kdU_ HO_16.out) (Kd.R_base ho0) hb); replace HO_17 := Aside0.mk (Kd.R_elder' (kdU_ HO_17.out) (Kd.R_base ho0) hb); replace HO1669 := Aside0.mk (Kd.R_elder' (kdU_ HO1669.out) (Kd.R_base ho0) hb); replace BK1655 := blkBel_ BK1655.out hb; replace BK1665 := blkBel_ BK1665.out hb; replace HB := stepB_ hb; (try clear hb); (try clear hk); (try clear ho0); obtain ⟨Ao56, co56, eo56⟩ := Kd.R_slice HO1673.out; subst eo56) | ((with_reducible refine gate_callee (f := 39) rfl ?_); refine goL_ (some 79) Try.func39 #[.slice Ao30 t1659.length co30, .slice Ao56 t1671.length co56] ?_; (with_reducible refine (laws_eqDigestS.calls kj18 _ _ t1659 _ _ t1671 true _ ?side1 ?side2 ?side3 ?side4 A50.out).mono ?_); (case side1 => repeat (first | exact (Kd.R_reads' HO_17.out).2.2 | (with_reducible refine Kd.C_alloc ?_ _) | (with_reducible refine Kd.C_drewN ?_ _) | (with_reducible refine Kd.C_drew ?_))); (case side2 => exact (Kd.R_reads' HO_17.out).2.1); (case side3 => repeat (first | exact (Kd.R_reads' HO1673.out).2.2 | (with_reducible refine Kd.C_alloc ?_ _) | (with_reducible refine Kd.C_drewN ?_ _) | (with_reducible refine Kd.C_drew ?_))); (case side4 => exact (Kd.R_reads' HO1673.out).2.1); rintro e w57 ⟨rfl, hb⟩; refine ⟨_, rfl, ?_⟩; replace HO_16 := Aside0.mk (Kd.R_below (kdU_ HO_16.out) hb); replace HO_17 := Aside0.mk (Kd.R_below (kdU_ HO_17.out) hb); replace HO1669 := Aside0.mk (Kd.R_below (kdU_ HO1669.out) hb); replace HO1673 := Aside0.mk (Kd.R_below (kdU_ HO1673.out) hb); replace BK1655 := blkBel_ BK1655.out hb; replace BK1665 := blkBel_ BK1665.out hb; replace HB := stepB_ hb; (try clear hb); (try clear hk)))
                    go_ret
                    exact ⟨rfl_, bel_⟩
                  · replace c51 := Bool.eq_false_iff.mpr c51
                    subst c51
                    rw [if_neg (show ¬ (false = true) by decide)] at H
                    exact absurd ((Option.some.inj H).trans hr_) (by decide)
                · replace c48 := Bool.eq_false_iff.mpr c48
                  subst c48
                  rw [if_neg (show ¬ (false = true) by decide)] at H
                  exact absurd ((Option.some.inj H).trans hr_) (by decide)

end
end Go.Proofs.Ytemfciflhbhobaa.B
