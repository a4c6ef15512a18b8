/- What the Go functions loop.example/belfry/laws.FnExactPathCheck do is what the Lean functions .f of their names here say; condition: .f gives an answer. (Written by the session's program pp.py over the kit's print; Lean checks it.) -/
import Derived.Test.YtemfciflhbhobaaK
import Derived.Test.YtemfciflhbhobaaM
import Derived.Test.YtemfciflhbhobaaGCheck1
import Derived.Test.YtemfciflhbhobaaGLawD1
import Derived.Test.YtemfciflhbhobaaGPoint1
namespace Go.Proofs.Ytemfciflhbhobaa.B
open Go.RowKit Go.Proofs.YtemfciflhbhobaaW.PrintWords Go.Proofs.YtemfciflhbhobaaW.PrintLast Go.Proofs.YtemfciflhbhobaaW.PrintMore
attribute [local go_sem] max2_int min2_int max_two min_two max_three min_three max_four min_four   -- for this text's walks alone
set_option linter.unusedVariables false
set_option linter.unusedSimpArgs false

section
/-! ### laws_FnExactPathCheck: function 11 -/
def laws_FnExactPathCheck.f (k : Nat) (a0_0 : Int) (a0_1 : Int) (a0_2 : Int) (a0_3 : Int) (a0_4 : Int) (a1 : Int) (a2 : ByteArray) (l3 : List (S24)) : Option (Bool) := if (a2.size : Int) > 1048576 then (some true) else ((laws_szDigestS.f l3 1048576).bind fun t1346 => (if t1346 < 0 then (some true) else ((laws_toPoint.f a0_0 a0_1 a0_2 a0_3 a0_4).bind fun bt1347 => ((laws_toDigestS.f k l3).bind fun t1352 => ((spec_PathCheck.f k bt1347.1 bt1347.2.1 bt1347.2.2.1 bt1347.2.2.2.1 bt1347.2.2.2.2 a1 a2 t1352).bind fun t1355 => ((laws_toDigestS.f k l3).bind fun t1356 => ((laws_toPoint.f a0_0 a0_1 a0_2 a0_3 a0_4).bind fun bt1359 => ((impl_PathCheck.f k bt1359.1 bt1359.2.1 bt1359.2.2.1 bt1359.2.2.2.1 bt1359.2.2.2.2 a1 a2 t1356).bind fun t1364 => (if (t1364 != t1355) = true then (some false) else ((laws_toDigestS.f k l3).bind fun t1365 => ((laws_eqDigestS.f k t1356 t1365).bind fun t1368 => (if t1368 = true then (some true) else (some false)))))))))))))
theorem laws_FnExactPathCheck.mono : ∀ a0 a1 a2 a3 a4 a5 a6 a7 k, LeO (laws_FnExactPathCheck.f k a0 a1 a2 a3 a4 a5 a6 a7) (laws_FnExactPathCheck.f (k + 1) a0 a1 a2 a3 a4 a5 a6 a7) := by
  intro a0 a1 a2 a3 a4 a5 a6 a7 k
  unfold laws_FnExactPathCheck.f
  repeat' first | (with_reducible first | exact impl_PathCheck.mono _ _ _ _ _ _ _ _ _ | exact laws_eqDigestS.mono _ _ _ | exact laws_toDigestS.mono _ _ | exact spec_PathCheck.mono _ _ _ _ _ _ _ _ _ | exact LeO.refl _ | exact LeO.none _ | refine LeO.ite ?_ ?_ | refine LeO.bind ?_ (fun _ => ?_)) | exact LeO.none _ | refine LeO.ite ?_ ?_ | refine LeO.bind ?_ (fun _ => ?_)
set_option maxHeartbeats 8000000 in
set_option maxRecDepth 100000 in
theorem laws_FnExactPathCheck.calls (k : Nat) (a0_0 : Int) (a0_1 : Int) (a0_2 : Int) (a0_3 : Int) (a0_4 : Int) (a1 : Int) (a2 : ByteArray) (A3 : Option Addr) (c3 : Nat) (l3 : List (S24)) (r : Bool) (hr_ : r = true) (w : World) (hr3 : Kd.C k24 w A3 l3.length l3) (hc3 : l3.length ≤ c3) (h : laws_FnExactPathCheck.f k a0_0 a0_1 a0_2 a0_3 a0_4 a1 a2 l3 = some r) :
    Calls Try.prog 11 #[.agg #[.int .i64 a0_0, .int .u64 a0_1, .int .u64 a0_2, .int .u64 a0_3, .int .u64 a0_4], .int .i64 a1, .string a2, .slice A3 l3.length c3] w fun e w' => e = .returned (.bool r) ∧ Below w.heap.size w w' := by
  have hu26 := Try.underlying26
  have HR3 := Aside0.mk hr3
  have HC3 := Aside0.mk hc3
  clear hr3 hc3
  have HB := Aside0.mk (Below.refl w.heap.size w)
  have H : (if (a2.size : Int) > 1048576 then (some true) else ((laws_szDigestS.f l3 1048576).bind fun t1346 => (if t1346 < 0 then (some true) else ((laws_toPoint.f a0_0 a0_1 a0_2 a0_3 a0_4).bind fun bt1347 => ((laws_toDigestS.f k l3).bind fun t1352 => ((spec_PathCheck.f k bt1347.1 bt1347.2.1 bt1347.2.2.1 bt1347.2.2.2.1 bt1347.2.2.2.2 a1 a2 t1352).bind fun t1355 => ((laws_toDigestS.f k l3).bind fun t1356 => ((laws_toPoint.f a0_0 a0_1 a0_2 a0_3 a0_4).bind fun bt1359 => ((impl_PathCheck.f k bt1359.1 bt1359.2.1 bt1359.2.2.1 bt1359.2.2.2.1 bt1359.2.2.2.2 a1 a2 t1356).bind fun t1364 => (if (t1364 != t1355) = true then (some false) else ((laws_toDigestS.f k l3).bind fun t1365 => ((laws_eqDigestS.f k t1356 t1365).bind fun t1368 => (if t1368 = true then (some true) else (some false)))))))))))))) = some r := h
  clear h
  by_cases c5 : (a2.size : Int) > 1048576
  · rw [if_pos c5] at H
    have c5b0 : decide (1048576 < (a2.size : Int)) = true := decide_eq_true c5
    have c5b1 : decide (1048576 < a2.size) = true := decide_eq_true (by omega)
    clear c5
    obtain rfl := Option.some.inj H
    go_enter Try.func11, Try.ntmps11
    go_wp2_with (first | ((with_reducible refine gate_dst (N := 4) rfl ?_); refine boxE_ (cs := #[.int .i64 a0_0, .int .u64 a0_1, .int .u64 a0_2, .int .u64 a0_3, .int .u64 a0_4]) (t := 26) ?_; intro gb1345 hg w6 hbox hb; have BK1345 := Aside0.mk (hbox); have GW1345 := sizeB_ hg; have GE1345 := sizeB_ hg; replace HB := stepB_ hb; clear hb hbox hg))
    go_ret
    exact ⟨rfl_, bel_⟩
  · rw [if_neg c5] at H
    have c5b0 : decide (1048576 < (a2.size : Int)) = false := decide_eq_false c5
    have c5b1 : decide (1048576 < a2.size) = false := decide_eq_false (by omega)
    clear c5
    obtain ⟨t1346, A7, H⟩ := bnd_ H
    by_cases c8 : t1346 < 0
    · rw [if_pos c8] at H
      have c8b0 : decide (t1346 < 0) = true := decide_eq_true c8
      clear c8
      obtain rfl := Option.some.inj H
      go_enter Try.func11, Try.ntmps11
      go_wp2_with (first | ((with_reducible refine gate_dst (N := 4) rfl ?_); refine boxE_ (cs := #[.int .i64 a0_0, .int .u64 a0_1, .int .u64 a0_2, .int .u64 a0_3, .int .u64 a0_4]) (t := 26) ?_; intro gb1345 hg w9 hbox hb; have BK1345 := Aside0.mk (hbox); have GW1345 := sizeB_ hg; have GE1345 := sizeB_ hg; replace HB := stepB_ hb; clear hb hbox hg) | ((with_reducible refine gate_callee (f := 32) rfl ?_); refine goL_ (some 18) Try.func32 #[.slice A3 l3.length c3, .int .i64 1048576] ?_; (with_reducible refine (laws_szDigestS.calls _ _ l3 1048576 t1346 _ ?side1 ?side2 A7.out).mono ?_); (case side1 => repeat (first | exact (Kd.C_below HR3.out HB.out) | (with_reducible refine Kd.C_alloc ?_ _) | (with_reducible refine Kd.C_drewN ?_ _) | (with_reducible refine Kd.C_drew ?_))); (case side2 => exact HC3.out); rintro e w' ⟨rfl, ⟨nd, rfl⟩⟩; refine ⟨_, rfl, ?_⟩))
      go_ret
      exact ⟨rfl_, bel_⟩
    · rw [if_neg c8] at H
      have c8b0 : decide (t1346 < 0) = false := decide_eq_false c8
      clear c8
      obtain ⟨⟨t1347, t1348, t1349, t1350, t1351⟩, A10, H⟩ := bnd_ H
      dsimp only at H
      obtain ⟨t1352, A11, H⟩ := bnd_ H
      obtain ⟨t1355, A12, H⟩ := bnd_ H
      obtain ⟨t1356, A13, H⟩ := bnd_ H
      obtain ⟨⟨t1359, t1360, t1361, t1362, t1363⟩, A14, H⟩ := bnd_ H
      dsimp only at H
      obtain ⟨t1364, A15, H⟩ := bnd_ H
      by_cases c16 : (t1364 != t1355) = true
      · rw [if_pos c16] at H
        have c16b0 : (t1364 != t1355) = true := c16
        (try (have c16b1 : decide (t1364 = t1355) = false := by simpa using c16))
        (try (have c16b2 : (t1364 == t1355) = false := by simpa using c16))
        (try (have c16b3 : ¬ (t1364 = t1355) := by simpa using c16))
        clear c16
        exact absurd ((Option.some.inj H).trans hr_) (by decide)
      · rw [if_neg c16] at H
        have c16b0 : (t1364 != t1355) = false := by simpa using c16
        (try (have c16b1 : decide (t1364 = t1355) = true := by simpa using c16))
        (try (have c16b2 : (t1364 == t1355) = true := by simpa using c16))
        clear c16
        obtain ⟨t1365, A17, H⟩ := bnd_ H
        obtain ⟨t1368, A18, H⟩ := bnd_ H
        by_cases c19 : t1368 = true
        · subst c19
          rw [if_pos rfl] at H
          obtain rfl := Option.some.inj H
          go_enter Try.func11, Try.ntmps11
          go_wp2_with (first | ((with_reducible refine gate_dst (N := 4) rfl ?_); refine boxE_ (cs := #[.int .i64 a0_0, .int .u64 a0_1, .int .u64 a0_2, .int .u64 a0_3, .int .u64 a0_4]) (t := 26) ?_; intro gb1345 hg w20 hbox hb; have BK1345 := Aside0.mk (hbox); have GW1345 := sizeB_ hg; have GE1345 := sizeB_ hg; replace HB := stepB_ hb; clear hb hbox hg) | ((with_reducible refine gate_callee (f := 32) rfl ?_); refine goL_ (some 18) Try.func32 #[.slice A3 l3.length c3, .int .i64 1048576] ?_; (with_reducible refine (laws_szDigestS.calls _ _ l3 1048576 t1346 _ ?side1 ?side2 A7.out).mono ?_); (case side1 => repeat (first | exact (Kd.C_below HR3.out HB.out) | (with_reducible refine Kd.C_alloc ?_ _) | (with_reducible refine Kd.C_drewN ?_ _) | (with_reducible refine Kd.C_drew ?_))); (case side2 => exact HC3.out); rintro e w' ⟨rfl, ⟨nd, rfl⟩⟩; refine ⟨_, rfl, ?_⟩; obtain ⟨hcz21_0, hcz21_1, hcz21_2, hcz21_3, hcz21_4, hfz21_0, hfz21_1, hfz21_2, hfz21_3, hfz21_4⟩ := cz5_ BK1345.out) | ((with_reducible refine gate_callee (f := 26) rfl ?_); refine goL_ (some 22) Try.func26 #[.agg #[.int .i64 a0_0, .int .u64 a0_1, .int .u64 a0_2, .int .u64 a0_3, .int .u64 a0_4]] ?_; (with_reducible refine (laws_toPoint.calls a0_0 a0_1 a0_2 a0_3 a0_4 t1347 t1348 t1349 t1350 t1351 _ A10.out).mono ?_); rintro e w22 ⟨rfl, hb⟩; refine ⟨_, rfl, ?_⟩; replace BK1345 := blkBel_ BK1345.out hb; replace HB := stepB_ hb; (try clear hb)) | ((with_reducible refine gate_callee (f := 35) rfl ?_); refine goL_ (some 26) Try.func35 #[.slice A3 l3.length c3] ?_; (with_reducible refine (laws_toDigestS.calls k _ _ l3 t1352 _ ?side1 ?side2 A11.out).mono ?_); (case side1 => repeat (first | exact (Kd.C_below HR3.out HB.out) | (with_reducible refine Kd.C_alloc ?_ _) | (with_reducible refine Kd.C_drewN ?_ _) | (with_reducible refine Kd.C_drew ?_))); (case side2 => exact HC3.out); rintro e w23 ⟨v1353, rfl, ho0, hb⟩; refine ⟨_, rfl, ?_⟩; have HO1354 := Aside0.mk (Kd.R_lower ho0 (below_size bel_)); replace BK1345 := blkBel_ BK1345.out hb; replace HB := stepB_ hb; (try clear hb); (try clear ho0); obtain ⟨Ao24, co24, eo24⟩ := Kd.R_slice HO1354.out; subst eo24) | ((with_reducible refine gate_callee (f := 61) rfl ?_); refine goL_ (some 27) Try.func61 #[.agg #[.int .i64 t1347, .int .u64 t1348, .int .u64 t1349, .int .u64 t1350, .int .u64 t1351], .int .i64 a1, .string a2, .slice Ao24 t1352.length co24] ?_; (with_reducible refine (spec_PathCheck.calls k t1347 t1348 t1349 t1350 t1351 a1 a2 _ _ t1352 t1355 _ ?side1 ?side2 A12.out).mono ?_); (case side1 => repeat (first | exact (Kd.R_reads' HO1354.out).2.2 | (with_reducible refine Kd.C_alloc ?_ _) | (with_reducible refine Kd.C_drewN ?_ _) | (with_reducible refine Kd.C_drew ?_))); (case side2 => exact (Kd.R_reads' HO1354.out).2.1); rintro e w25 ⟨rfl, hb⟩; refine ⟨_, rfl, ?_⟩; replace HO1354 := Aside0.mk (Kd.R_below (kdU_ HO1354.out) hb); replace BK1345 := blkBel_ BK1345.out hb; replace HB := stepB_ hb; (try clear hb)) | ((with_reducible refine gate_callee (f := 35) rfl ?_); refine goL_ (some 29) Try.func35 #[.slice A3 l3.length c3] ?_; (with_reducible refine (laws_toDigestS.calls k _ _ l3 t1356 _ ?side1 ?side2 A13.out).mono ?_); (case side1 => repeat (first | exact (Kd.C_below HR3.out HB.out) | (with_reducible refine Kd.C_alloc ?_ _) | (with_reducible refine Kd.C_drewN ?_ _) | (with_reducible refine Kd.C_drew ?_))); (case side2 => exact HC3.out); rintro e w26 ⟨v1357, rfl, ho0, hb⟩; refine ⟨_, rfl, ?_⟩; have HO1358 := Aside0.mk (Kd.R_lower (Kd.R_new' ho0 (Kd.R_lt (kdU_ HO1354.out))) (below_size bel_)); replace HO1354 := Aside0.mk (Kd.R_elder' (kdU_ HO1354.out) (Kd.R_base ho0) hb); replace BK1345 := blkBel_ BK1345.out hb; replace HB := stepB_ hb; (try clear hb); (try clear ho0); obtain ⟨hcz27_0, hcz27_1, hcz27_2, hcz27_3, hcz27_4, hfz27_0, hfz27_1, hfz27_2, hfz27_3, hfz27_4⟩ := cz5_ BK1345.out) | ((with_reducible refine gate_callee (f := 26) rfl ?_); refine goL_ (some 31) Try.func26 #[.agg #[.int .i64 a0_0, .int .u64 a0_1, .int .u64 a0_2, .int .u64 a0_3, .int .u64 a0_4]] ?_; (with_reducible refine (laws_toPoint.calls a0_0 a0_1 a0_2 a0_3 a0_4 t1359 t1360 t1361 t1362 t1363 _ A14.out).mono ?_); rintro e w28 ⟨rfl, hb⟩; refine ⟨_, rfl, ?_⟩; replace HO1354 := Aside0.mk (Kd.R_below (kdU_ HO1354.out) hb); replace HO1358 := Aside0.mk (Kd.R_below (kdU_ HO1358.out) hb); replace BK1345 := blkBel_ BK1345.out hb; replace HB := stepB_ hb; (try clear hb); obtain ⟨Ao29, co29, eo29⟩ := Kd.R_slice HO1358.out; subst eo29) | ((with_reducible refine gate_callee (f := 62) rfl ?_); refine goL_ (some 35) Try.func62 #[.agg #[.int .i64 t1359, .int .u64 t1360, .int .u64 t1361, .int .u64 t1362, .int .u64 t1363], .int .i64 a1, .string a2, .slice Ao29 t1356.length co29] ?_; (with_reducible refine (impl_PathCheck.calls k t1359 t1360 t1361 t1362 t1363 a1 a2 _ _ t1356 t1364 _ ?side1 ?side2 A15.out).mono ?_); (case side1 => repeat (first | exact (Kd.R_reads' HO1358.out).2.2 | (with_reducible refine Kd.C_alloc ?_ _) | (with_reducible refine Kd.C_drewN ?_ _) | (with_reducible refine Kd.C_drew ?_))); (case side2 => exact (Kd.R_reads' HO1358.out).2.1); rintro e w30 ⟨rfl, hb⟩; refine ⟨_, rfl, ?_⟩; replace HO1354 := Aside0.mk (Kd.R_below (kdU_ HO1354.out) hb); replace HO1358 := Aside0.mk (Kd.R_below (kdU_ HO1358.out) hb); replace BK1345 := blkBel_ BK1345.out hb; replace HB := stepB_ hb; (try clear hb)) | ((with_reducible refine gate_callee (f := 35) rfl ?_); refine goL_ (some 41) Try.func35 #[.slice A3 l3.length c3] ?_; (with_reducible refine (laws_toDigestS.calls k _ _ l3 t1365 _ ?side1 ?side2 A17.out).mono ?_); (case side1 => repeat (first | exact (Kd.C_below HR3.out HB.out) | (with_reducible refine Kd.C_alloc ?_ _) | (with_reducible refine Kd.C_drewN ?_ _) | (with_reducible refine Kd.C_drew ?_))); (case side2 => exact HC3.out); rintro e w31 ⟨v1366, rfl, ho0, hb⟩; refine ⟨_, rfl, ?_⟩; have HO1367 := Aside0.mk (Kd.R_lower (Kd.R_new' (Kd.R_new' ho0 (Kd.R_lt (kdU_ HO1354.out))) (Kd.R_lt (kdU_ HO1358.out))) (below_size bel_)); replace HO1354 := Aside0.mk (Kd.R_elder' (kdU_ HO1354.out) (Kd.R_base ho0) hb); replace HO1358 := Aside0.mk (Kd.R_elder' (kdU_ HO1358.out) (Kd.R_base ho0) hb); replace BK1345 := blkBel_ BK1345.out hb; replace HB := stepB_ hb; (try clear hb); (try clear ho0); obtain ⟨Ao32, co32, eo32⟩ := Kd.R_slice HO1367.out; subst eo32) | ((with_reducible refine gate_callee (f := 39) rfl ?_); refine goL_ (some 42) Try.func39 #[.slice Ao29 t1356.length co29, .slice Ao32 t1365.length co32] ?_; (with_reducible refine (laws_eqDigestS.calls k _ _ t1356 _ _ t1365 true _ ?side1 ?side2 ?side3 ?side4 A18.out).mono ?_); (case side1 => repeat (first | exact (Kd.R_reads' HO1358.out).2.2 | (with_reducible refine Kd.C_alloc ?_ _) | (with_reducible refine Kd.C_drewN ?_ _) | (with_reducible refine Kd.C_drew ?_))); (case side2 => exact (Kd.R_reads' HO1358.out).2.1); (case side3 => repeat (first | exact (Kd.R_reads' HO1367.out).2.2 | (with_reducible refine Kd.C_alloc ?_ _) | (with_reducible refine Kd.C_drewN ?_ _) | (with_reducible refine Kd.C_drew ?_))); (case side4 => exact (Kd.R_reads' HO1367.out).2.1); rintro e w33 ⟨rfl, hb⟩; refine ⟨_, rfl, ?_⟩; replace HO1354 := Aside0.mk (Kd.R_below (kdU_ HO1354.out) hb); replace HO1358 := Aside0.mk (Kd.R_below (kdU_ HO1358.out) hb); replace HO1367 := Aside0.mk (Kd.R_below (kdU_ HO1367.out) hb); replace BK1345 := blkBel_ BK1345.out hb; replace HB := stepB_ hb; (try clear hb)))
          go_ret
          exact ⟨rfl_, bel_⟩
        · replace c19 := Bool.eq_false_iff.mpr c19
          subst c19
          rw [if_neg (show ¬ (false = true) by decide)] at H
          exact absurd ((Option.some.inj H).trans hr_) (by decide)

end
end Go.Proofs.Ytemfciflhbhobaa.B
