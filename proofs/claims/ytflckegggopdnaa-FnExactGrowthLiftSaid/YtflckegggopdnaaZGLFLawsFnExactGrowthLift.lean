/- What the Go functions loop.example/belfry/laws.FnExactGrowthLift do is what the Lean functions .f of their names here say; condition: .f gives an answer. (Written by the session's program pp.py over the kit's print; Lean checks it.) -/
import Derived.Test.YtflckegggopdnaaZGLK
import Derived.Test.YtflckegggopdnaaZGLM
import Derived.Test.YtflckegggopdnaaZGLFImplGrowthLift
import Derived.Test.YtflckegggopdnaaZGLFSpecGrowthLift
import Derived.Test.YtflckegggopdnaaZGLGLawD1
import Derived.Test.YtflckegggopdnaaZGLGLawMD1
namespace Go.Proofs.Ytflckegggopdnaa.B
open Go.RowKit Go.Proofs.YtflckegggopdnaaW.PrintWords Go.Proofs.YtflckegggopdnaaW.PrintLast Go.Proofs.YtflckegggopdnaaW.PrintMore
attribute [local go_sem] max2_int min2_int max_two min_two max_three min_three max_four min_four
set_option linter.unusedVariables false
set_option linter.unusedSimpArgs false
section
mutual
def laws_FnExactGrowthLift.j0 : Nat → Int → Int → Int → List (S24) → List (S24) → List (S29) → Bool → List (S29) → List (S29) → List (S29) → Bool → Bool → Option (Bool)
  | 0, _, _, _, _, _, _, _, _, _, _, _, _ => none
  | k + 1, x0, x1, x2, x3, x4, x12, x13, x14, x15, x16, x17, x65 => if x65 = true then (some false) else ((laws_toDigestS.f k x3).bind fun t1512 => ((laws_eqDigestS.f k x14 t1512).bind fun t1515 => (if t1515 = true then ((laws_toDigestS.f k x4).bind fun t1516 => ((laws_eqDigestS.f k x15 t1516).bind fun t1519 => (if t1519 = true then ((laws_markDigestS.f k x14 1).bind fun bt1520 => ((laws_markDigestS.f k x15 bt1520.1).bind fun bt1522 => (if bt1522.1 < 0 then (laws_FnExactGrowthLift.j1 k x0 x1 x2 x3 x4 x12 x13 x16 true) else ((laws_eqDigestS.f k x16 x12).bind fun t1524 => (if t1524 = true then (laws_FnExactGrowthLift.j1 k x0 x1 x2 x3 x4 x12 x13 x16 (x17 != x13)) else (laws_FnExactGrowthLift.j1 k x0 x1 x2 x3 x4 x12 x13 x16 true)))))) else (some false)))) else (some false))))
def laws_FnExactGrowthLift.j1 : Nat → Int → Int → Int → List (S24) → List (S24) → List (S29) → Bool → List (S29) → Bool → Option (Bool)
  | 0, _, _, _, _, _, _, _, _, _ => none
  | k + 1, x0, x1, x2, x3, x4, x12, x13, x16, x94 => if x94 = true then (some false) else ((laws_markDigestS.f k x16 1).bind fun bt1525 => ((laws_heldDigestS.f k bt1525.2 1).bind fun t1527 => (if t1527 < 0 then (some false) else (if t1527 = bt1525.1 then ((laws_toDigestS.f k x3).bind fun t1528 => ((laws_toDigestS.f k x4).bind fun t1531 => ((impl_GrowthLift.f k x0 x1 x2 t1528 t1531).bind fun bt1534 => ((laws_eqDigestS.f k bt1534.1 x12).bind fun t1538 => (if t1538 = true then (laws_FnExactGrowthLift.j2 k bt1525.2 bt1525.1 (bt1534.2 != x13)) else (laws_FnExactGrowthLift.j2 k bt1525.2 bt1525.1 true)))))) else (some false)))))
def laws_FnExactGrowthLift.j2 : Nat → List (S29) → Int → Bool → Option (Bool)
  | 0, _, _, _ => none
  | k + 1, x16, x19, x125 => if x125 = true then (some false) else ((laws_heldDigestS.f k x16 1).bind fun t1539 => (if t1539 < 0 then (some false) else (if t1539 = x19 then (some true) else (some false))))
end
def laws_FnExactGrowthLift.f (k : Nat) (a0 : Int) (a1 : Int) (a2 : Int) (l3 : List (S24)) (l4 : List (S24)) : Option (Bool) := (laws_szDigestS.f l3 1048576).bind fun t1489 => (if t1489 < 0 then (some true) else ((laws_szDigestS.f l4 t1489).bind fun t1490 => (if t1490 < 0 then (some true) else ((laws_toDigestS.f k l3).bind fun t1491 => ((laws_toDigestS.f k l4).bind fun t1494 => ((spec_GrowthLift.f k a0 a1 a2 t1491 t1494).bind fun bt1497 => ((laws_toDigestS.f k l3).bind fun t1501 => ((laws_toDigestS.f k l4).bind fun t1504 => ((impl_GrowthLift.f k a0 a1 a2 t1501 t1504).bind fun bt1507 => ((laws_eqDigestS.f k bt1507.1 bt1497.1).bind fun t1511 => (if t1511 = true then (laws_FnExactGrowthLift.j0 k a0 a1 a2 l3 l4 bt1497.1 bt1497.2 t1501 t1504 bt1507.1 bt1507.2 (bt1507.2 != bt1497.2)) else (laws_FnExactGrowthLift.j0 k a0 a1 a2 l3 l4 bt1497.1 bt1497.2 t1501 t1504 bt1507.1 bt1507.2 true))))))))))))
set_option maxHeartbeats 8000000 in
set_option maxRecDepth 100000 in
theorem laws_FnExactGrowthLift.calls (k : Nat) (a0 : Int) (a1 : Int) (a2 : Int) (A3 : Option Addr) (c3 : Nat) (l3 : List (S24)) (A4 : Option Addr) (c4 : Nat) (l4 : List (S24)) (r : Bool) (hr_ : r = true) (w : World) (hr3 : Kd.C k24 w A3 l3.length l3) (hc3 : l3.length ≤ c3) (hr4 : Kd.C k24 w A4 l4.length l4) (hc4 : l4.length ≤ c4) (h : laws_FnExactGrowthLift.f k a0 a1 a2 l3 l4 = some r) :
    Calls Try.prog 9 #[.int .i64 a0, .int .i64 a1, .int .i64 a2, .slice A3 l3.length c3, .slice A4 l4.length c4] w fun e w' => e = .returned (.bool r) ∧ Below w.heap.size w w' := by
  have HR3 := Aside0.mk hr3
  have HC3 := Aside0.mk hc3
  clear hr3 hc3
  have HR4 := Aside0.mk hr4
  have HC4 := Aside0.mk hc4
  clear hr4 hc4
  have HB := Aside0.mk (Below.refl w.heap.size w)
  have H : ((laws_szDigestS.f l3 1048576).bind fun t1489 => (if t1489 < 0 then (some true) else ((laws_szDigestS.f l4 t1489).bind fun t1490 => (if t1490 < 0 then (some true) else ((laws_toDigestS.f k l3).bind fun t1491 => ((laws_toDigestS.f k l4).bind fun t1494 => ((spec_GrowthLift.f k a0 a1 a2 t1491 t1494).bind fun bt1497 => ((laws_toDigestS.f k l3).bind fun t1501 => ((laws_toDigestS.f k l4).bind fun t1504 => ((impl_GrowthLift.f k a0 a1 a2 t1501 t1504).bind fun bt1507 => ((laws_eqDigestS.f k bt1507.1 bt1497.1).bind fun t1511 => (if t1511 = true then (laws_FnExactGrowthLift.j0 k a0 a1 a2 l3 l4 bt1497.1 bt1497.2 t1501 t1504 bt1507.1 bt1507.2 (bt1507.2 != bt1497.2)) else (laws_FnExactGrowthLift.j0 k a0 a1 a2 l3 l4 bt1497.1 bt1497.2 t1501 t1504 bt1507.1 bt1507.2 true))))))))))))) = some r := h
  clear h
  obtain ⟨t1489, A6, H⟩ := bnd_ H
  by_cases c7 : t1489 < 0
  · rw [if_pos c7] at H
    have c7b0 : decide (t1489 < 0) = true := decide_eq_true c7
    clear c7
    obtain rfl := Option.some.inj H
    go_enter Try.func9, Try.ntmps9
    go_wp2_with (first | ((with_reducible refine gate_callee (f := 18) rfl ?_); refine goL_ (some 25) Try.func18 #[.slice A3 l3.length c3, .int .i64 1048576] ?_; (with_reducible refine (laws_szDigestS.calls _ _ l3 1048576 t1489 _ ?side1 ?side2 A6.out).mono ?_); (case side1 => repeat (first | exact HR3.out | (with_reducible refine Kd.C_alloc ?_ _) | (with_reducible refine Kd.C_drewN ?_ _) | (with_reducible refine Kd.C_drew ?_))); (case side2 => exact HC3.out); rintro e w' ⟨rfl, ⟨nd, rfl⟩⟩; refine ⟨_, rfl, ?_⟩))
    go_ret
    exact ⟨rfl_, bel_⟩
  · rw [if_neg c7] at H
    have c7b0 : decide (t1489 < 0) = false := decide_eq_false c7
    clear c7
    obtain ⟨t1490, A8, H⟩ := bnd_ H
    by_cases c9 : t1490 < 0
    · rw [if_pos c9] at H
      have c9b0 : decide (t1490 < 0) = true := decide_eq_true c9
      clear c9
      obtain rfl := Option.some.inj H
      go_enter Try.func9, Try.ntmps9
      go_wp2_with (first | ((with_reducible refine gate_callee (f := 18) rfl ?_); refine goL_ (some 25) Try.func18 #[.slice A3 l3.length c3, .int .i64 1048576] ?_; (with_reducible refine (laws_szDigestS.calls _ _ l3 1048576 t1489 _ ?side1 ?side2 A6.out).mono ?_); (case side1 => repeat (first | exact HR3.out | (with_reducible refine Kd.C_alloc ?_ _) | (with_reducible refine Kd.C_drewN ?_ _) | (with_reducible refine Kd.C_drew ?_))); (case side2 => exact HC3.out); rintro e w' ⟨rfl, ⟨nd, rfl⟩⟩; refine ⟨_, rfl, ?_⟩) | ((with_reducible refine gate_callee (f := 18) rfl ?_); refine goL_ (some 30) Try.func18 #[.slice A4 l4.length c4, .int .i64 t1489] ?_; (with_reducible refine (laws_szDigestS.calls _ _ l4 t1489 t1490 _ ?side1 ?side2 A8.out).mono ?_); (case side1 => repeat (first | exact HR4.out | (with_reducible refine Kd.C_alloc ?_ _) | (with_reducible refine Kd.C_drewN ?_ _) | (with_reducible refine Kd.C_drew ?_))); (case side2 => exact HC4.out); rintro e w' ⟨rfl, ⟨nd, rfl⟩⟩; refine ⟨_, rfl, ?_⟩))
      go_ret
      exact ⟨rfl_, bel_⟩
    · rw [if_neg c9] at H
      have c9b0 : decide (t1490 < 0) = false := decide_eq_false c9
      clear c9
      obtain ⟨t1491, A10, H⟩ := bnd_ H
      obtain ⟨t1494, A11, H⟩ := bnd_ H
      obtain ⟨⟨t1497, t1498⟩, A12, H⟩ := bnd_ H
      dsimp only at H
      obtain ⟨t1501, A13, H⟩ := bnd_ H
      obtain ⟨t1504, A14, H⟩ := bnd_ H
      obtain ⟨⟨t1507, t1508⟩, A15, H⟩ := bnd_ H
      dsimp only at H
      have HC16 := Aside0.mk H
      clear H
      go_enter Try.func9, Try.ntmps9
      go_upto_region 12 with (first | ((with_reducible refine gate_callee (f := 18) rfl ?_); refine goL_ (some 25) Try.func18 #[.slice A3 l3.length c3, .int .i64 1048576] ?_; (with_reducible refine (laws_szDigestS.calls _ _ l3 1048576 t1489 _ ?side1 ?side2 A6.out).mono ?_); (case side1 => repeat (first | exact HR3.out | (with_reducible refine Kd.C_alloc ?_ _) | (with_reducible refine Kd.C_drewN ?_ _) | (with_reducible refine Kd.C_drew ?_))); (case side2 => exact HC3.out); rintro e w' ⟨rfl, ⟨nd, rfl⟩⟩; refine ⟨_, rfl, ?_⟩) | ((with_reducible refine gate_callee (f := 18) rfl ?_); refine goL_ (some 30) Try.func18 #[.slice A4 l4.length c4, .int .i64 t1489] ?_; (with_reducible refine (laws_szDigestS.calls _ _ l4 t1489 t1490 _ ?side1 ?side2 A8.out).mono ?_); (case side1 => repeat (first | exact HR4.out | (with_reducible refine Kd.C_alloc ?_ _) | (with_reducible refine Kd.C_drewN ?_ _) | (with_reducible refine Kd.C_drew ?_))); (case side2 => exact HC4.out); rintro e w' ⟨rfl, ⟨nd, rfl⟩⟩; refine ⟨_, rfl, ?_⟩) | ((with_reducible refine gate_callee (f := 21) rfl ?_); refine goL_ (some 38) Try.func21 #[.slice A3 l3.length c3] ?_; (with_reducible refine (laws_toDigestS.calls k _ _ l3 t1491 _ ?side1 ?side2 A10.out).mono ?_); (case side1 => repeat (first | exact HR3.out | (with_reducible refine Kd.C_alloc ?_ _) | (with_reducible refine Kd.C_drewN ?_ _) | (with_reducible refine Kd.C_drew ?_))); (case side2 => exact HC3.out); rintro e w17 ⟨v1492, rfl, ho0, hb⟩; refine ⟨_, rfl, ?_⟩; have HO1493 := Aside0.mk (Kd.R_lower ho0 (below_size bel_)); replace HB := stepB_ hb; (try clear hb); (try clear ho0)) | ((with_reducible refine gate_callee (f := 21) rfl ?_); refine goL_ (some 40) Try.func21 #[.slice A4 l4.length c4] ?_; (with_reducible refine (laws_toDigestS.calls k _ _ l4 t1494 _ ?side1 ?side2 A11.out).mono ?_); (case side1 => repeat (first | exact (Kd.C_below HR4.out HB.out) | (with_reducible refine Kd.C_alloc ?_ _) | (with_reducible refine Kd.C_drewN ?_ _) | (with_reducible refine Kd.C_drew ?_))); (case side2 => exact HC4.out); rintro e w18 ⟨v1495, rfl, ho0, hb⟩; refine ⟨_, rfl, ?_⟩; have HO1496 := Aside0.mk (Kd.R_lower (Kd.R_new' ho0 (Kd.R_lt (kdU_ HO1493.out))) (below_size bel_)); replace HO1493 := Aside0.mk (Kd.R_elder' (kdU_ HO1493.out) (Kd.R_base ho0) hb); replace HB := stepB_ hb; (try clear hb); (try clear ho0); obtain ⟨Ao19, co19, eo19⟩ := Kd.R_slice HO1493.out; subst eo19; obtain ⟨Ao20, co20, eo20⟩ := Kd.R_slice HO1496.out; subst eo20) | ((with_reducible refine gate_callee (f := 41) rfl ?_); refine goL_ (some 41) Try.func41 #[.int .i64 a0, .int .i64 a1, .int .i64 a2, .slice Ao19 t1491.length co19, .slice Ao20 t1494.length co20] ?_; (with_reducible refine (spec_GrowthLift.calls k a0 a1 a2 _ _ t1491 _ _ t1494 t1497 t1498 _ ?side1 ?side2 ?side3 ?side4 A12.out).mono ?_); (case side1 => repeat (first | exact (Kd.R_reads' HO1493.out).2.2 | (with_reducible refine Kd.C_alloc ?_ _) | (with_reducible refine Kd.C_drewN ?_ _) | (with_reducible refine Kd.C_drew ?_))); (case side2 => exact (Kd.R_reads' HO1493.out).2.1); (case side3 => repeat (first | exact (Kd.R_reads' HO1496.out).2.2 | (with_reducible refine Kd.C_alloc ?_ _) | (with_reducible refine Kd.C_drewN ?_ _) | (with_reducible refine Kd.C_drew ?_))); (case side4 => exact (Kd.R_reads' HO1496.out).2.1); rintro e w21 ⟨v1499, rfl, ho0, hb⟩; refine ⟨_, rfl, ?_⟩; have HO1500 := Aside0.mk (Kd.R_lower (Kd.R_new' (Kd.R_new' ho0 (Kd.R_lt (kdU_ HO1493.out))) (Kd.R_lt (kdU_ HO1496.out))) (below_size bel_)); replace HO1493 := Aside0.mk (Kd.R_elder' (kdU_ HO1493.out) (Kd.R_base ho0) hb); replace HO1496 := Aside0.mk (Kd.R_elder' (kdU_ HO1496.out) (Kd.R_base ho0) hb); replace HB := stepB_ hb; (try clear hb); (try clear ho0)) | ((with_reducible refine gate_callee (f := 21) rfl ?_); refine goL_ (some 45) Try.func21 #[.slice A3 l3.length c3] ?_; (with_reducible refine (laws_toDigestS.calls k _ _ l3 t1501 _ ?side1 ?side2 A13.out).mono ?_); (case side1 => repeat (first | exact (Kd.C_below HR3.out HB.out) | (with_reducible refine Kd.C_alloc ?_ _) | (with_reducible refine Kd.C_drewN ?_ _) | (with_reducible refine Kd.C_drew ?_))); (case side2 => exact HC3.out); rintro e w22 ⟨v1502, rfl, ho0, hb⟩; refine ⟨_, rfl, ?_⟩; have HO1503 := Aside0.mk (Kd.R_lower (Kd.R_new' (Kd.R_new' (Kd.R_new' ho0 (Kd.R_lt (kdU_ HO1493.out))) (Kd.R_lt (kdU_ HO1496.out))) (Kd.R_lt (kdU_ HO1500.out))) (below_size bel_)); replace HO1493 := Aside0.mk (Kd.R_elder' (kdU_ HO1493.out) (Kd.R_base ho0) hb); replace HO1496 := Aside0.mk (Kd.R_elder' (kdU_ HO1496.out) (Kd.R_base ho0) hb); replace HO1500 := Aside0.mk (Kd.R_elder' (kdU_ HO1500.out) (Kd.R_base ho0) hb); replace HB := stepB_ hb; (try clear hb); (try clear ho0)) | ((with_reducible refine gate_callee (f := 21) rfl ?_); refine goL_ (some 47) Try.func21 #[.slice A4 l4.length c4] ?_; (with_reducible refine (laws_toDigestS.calls k _ _ l4 t1504 _ ?side1 ?side2 A14.out).mono ?_); (case side1 => repeat (first | exact (Kd.C_below HR4.out HB.out) | (with_reducible refine Kd.C_alloc ?_ _) | (with_reducible refine Kd.C_drewN ?_ _) | (with_reducible refine Kd.C_drew ?_))); (case side2 => exact HC4.out); rintro e w23 ⟨v1505, rfl, ho0, hb⟩; refine ⟨_, rfl, ?_⟩; have HO1506 := Aside0.mk (Kd.R_lower (Kd.R_new' (Kd.R_new' (Kd.R_new' (Kd.R_new' ho0 (Kd.R_lt (kdU_ HO1493.out))) (Kd.R_lt (kdU_ HO1496.out))) (Kd.R_lt (kdU_ HO1500.out))) (Kd.R_lt (kdU_ HO1503.out))) (below_size bel_)); replace HO1493 := Aside0.mk (Kd.R_elder' (kdU_ HO1493.out) (Kd.R_base ho0) hb); replace HO1496 := Aside0.mk (Kd.R_elder' (kdU_ HO1496.out) (Kd.R_base ho0) hb); replace HO1500 := Aside0.mk (Kd.R_elder' (kdU_ HO1500.out) (Kd.R_base ho0) hb); replace HO1503 := Aside0.mk (Kd.R_elder' (kdU_ HO1503.out) (Kd.R_base ho0) hb); replace HB := stepB_ hb; (try clear hb); (try clear ho0); obtain ⟨Ao24, co24, eo24⟩ := Kd.R_slice HO1503.out; subst eo24; obtain ⟨Ao25, co25, eo25⟩ := Kd.R_slice HO1506.out; subst eo25) | ((with_reducible refine gate_callee (f := 38) rfl ?_); refine goL_ (some 54) Try.func38 #[.int .i64 a0, .int .i64 a1, .int .i64 a2, .slice Ao24 t1501.length co24, .slice Ao25 t1504.length co25] ?_; (with_reducible refine (impl_GrowthLift.calls k a0 a1 a2 _ _ t1501 _ _ t1504 t1507 t1508 _ ?side1 ?side2 ?side3 ?side4 A15.out).mono ?_); (case side1 => repeat (first | exact (Kd.R_reads' HO1503.out).2.2 | (with_reducible refine Kd.C_alloc ?_ _) | (with_reducible refine Kd.C_drewN ?_ _) | (with_reducible refine Kd.C_drew ?_))); (case side2 => exact (Kd.R_reads' HO1503.out).2.1); (case side3 => repeat (first | exact (Kd.R_reads' HO1506.out).2.2 | (with_reducible refine Kd.C_alloc ?_ _) | (with_reducible refine Kd.C_drewN ?_ _) | (with_reducible refine Kd.C_drew ?_))); (case side4 => exact (Kd.R_reads' HO1506.out).2.1); rintro e w26 ⟨v1509, rfl, ho0, hb⟩; refine ⟨_, rfl, ?_⟩; have HO1510 := Aside0.mk (Kd.R_lower (Kd.R_new' (Kd.R_new' (Kd.R_new' (Kd.R_new' (Kd.R_new' ho0 (Kd.R_lt (kdU_ HO1493.out))) (Kd.R_lt (kdU_ HO1496.out))) (Kd.R_lt (kdU_ HO1500.out))) (Kd.R_lt (kdU_ HO1503.out))) (Kd.R_lt (kdU_ HO1506.out))) (below_size bel_)); replace HO1493 := Aside0.mk (Kd.R_elder' (kdU_ HO1493.out) (Kd.R_base ho0) hb); replace HO1496 := Aside0.mk (Kd.R_elder' (kdU_ HO1496.out) (Kd.R_base ho0) hb); replace HO1500 := Aside0.mk (Kd.R_elder' (kdU_ HO1500.out) (Kd.R_base ho0) hb); replace HO1503 := Aside0.mk (Kd.R_elder' (kdU_ HO1503.out) (Kd.R_base ho0) hb); replace HO1506 := Aside0.mk (Kd.R_elder' (kdU_ HO1506.out) (Kd.R_base ho0) hb); replace HB := stepB_ hb; (try clear hb); (try clear ho0)))
      (try simp only [Act.put, List.setIfInBounds_toArray, List.set_cons_zero, List.set_cons_succ])
      go_cut [65] (fun v65 wc => ∃ (kq : Nat) (x65_15 : Bool), v65 = .bool x65_15 ∧ Aside0 (laws_FnExactGrowthLift.j0 kq a0 a1 a2 l3 l4 t1497 t1498 t1501 t1504 t1507 t1508 x65_15 = some r) ∧ Aside0 (kq ≤ k) ∧ Aside0 (Kd.R k29 29 wc w.heap.size (fun k_ => some k_ ≠ ((.slice Ao24 t1501.length co24) : Value).ownBlock ∧ some k_ ≠ ((.slice Ao25 t1504.length co25) : Value).ownBlock ∧ some k_ ≠ (v1509 : Value).ownBlock) v1499 t1497) ∧ Aside0 (Kd.R k29 29 wc w.heap.size (fun k_ => some k_ ≠ (v1499 : Value).ownBlock ∧ some k_ ≠ ((.slice Ao25 t1504.length co25) : Value).ownBlock ∧ some k_ ≠ (v1509 : Value).ownBlock) (.slice Ao24 t1501.length co24) t1501) ∧ Aside0 (Kd.R k29 29 wc w.heap.size (fun k_ => some k_ ≠ (v1499 : Value).ownBlock ∧ some k_ ≠ ((.slice Ao24 t1501.length co24) : Value).ownBlock ∧ some k_ ≠ (v1509 : Value).ownBlock) (.slice Ao25 t1504.length co25) t1504) ∧ Aside0 (Kd.R k29 29 wc w.heap.size (fun k_ => some k_ ≠ (v1499 : Value).ownBlock ∧ some k_ ≠ ((.slice Ao24 t1501.length co24) : Value).ownBlock ∧ some k_ ≠ ((.slice Ao25 t1504.length co25) : Value).ownBlock) v1509 t1507) ∧ Aside0 (Below w.heap.size w wc))
      case first =>
        have H := HC16.out
        clear HC16
        obtain ⟨t1511, A27, H⟩ := bnd_ H
        by_cases c28 : t1511 = true
        · subst c28
          rw [if_pos rfl] at H
          have H' := Aside0.mk H
          clear H
          obtain ⟨Ao29, co29, eo29⟩ := Kd.R_slice HO1510.out
          subst eo29
          obtain ⟨Ao30, co30, eo30⟩ := Kd.R_slice HO1500.out
          subst eo30
          go_wp2_with (first | ((with_reducible refine gate_callee (f := 25) rfl ?_); refine goL_ (some 59) Try.func25 #[.slice Ao29 t1507.length co29, .slice Ao30 t1497.length co30] ?_; (with_reducible refine (laws_eqDigestS.calls k _ _ t1507 _ _ t1497 true _ ?side1 ?side2 ?side3 ?side4 A27.out).mono ?_); (case side1 => repeat (first | exact (Kd.R_reads' HO1510.out).2.2 | (with_reducible refine Kd.C_alloc ?_ _) | (with_reducible refine Kd.C_drewN ?_ _) | (with_reducible refine Kd.C_drew ?_))); (case side2 => exact (Kd.R_reads' HO1510.out).2.1); (case side3 => repeat (first | exact (Kd.R_reads' HO1500.out).2.2 | (with_reducible refine Kd.C_alloc ?_ _) | (with_reducible refine Kd.C_drewN ?_ _) | (with_reducible refine Kd.C_drew ?_))); (case side4 => exact (Kd.R_reads' HO1500.out).2.1); rintro e w31 ⟨rfl, hb⟩; refine ⟨_, rfl, ?_⟩; replace HO1493 := Aside0.mk (Kd.R_below (kdU_ HO1493.out) hb); replace HO1496 := Aside0.mk (Kd.R_below (kdU_ HO1496.out) hb); replace HO1500 := Aside0.mk (Kd.R_below (kdU_ HO1500.out) hb); replace HO1503 := Aside0.mk (Kd.R_below (kdU_ HO1503.out) hb); replace HO1506 := Aside0.mk (Kd.R_below (kdU_ HO1506.out) hb); replace HO1510 := Aside0.mk (Kd.R_below (kdU_ HO1510.out) hb); replace HB := stepB_ hb; (try clear hb)))
          go_meet
          case rel => exact ⟨_, ((t1508 != t1498)), (by first | rfl | (simp; done) | (simp [*]; done)), H', ⟨by first | omega | exact Nat.le_refl _⟩, ⟨by (with_reducible repeat (first | apply Kd.R_alloc | apply Kd.R_drewN | apply Kd.R_drew)); exact Kd.R_mono HO1500.out (fun _ hk => ⟨hk.1.1.2, ⟨hk.1.2, hk.2⟩⟩)⟩, ⟨by (with_reducible repeat (first | apply Kd.R_alloc | apply Kd.R_drewN | apply Kd.R_drew)); exact Kd.R_mono HO1503.out (fun _ hk => ⟨hk.1.1.2, ⟨hk.1.2, hk.2⟩⟩)⟩, ⟨by (with_reducible repeat (first | apply Kd.R_alloc | apply Kd.R_drewN | apply Kd.R_drew)); exact Kd.R_mono HO1506.out (fun _ hk => ⟨hk.1.1.2, ⟨hk.1.2, hk.2⟩⟩)⟩, ⟨by (with_reducible repeat (first | apply Kd.R_alloc | apply Kd.R_drewN | apply Kd.R_drew)); exact Kd.R_mono HO1510.out (fun _ hk => ⟨hk.1.1.2, ⟨hk.1.2, hk.2⟩⟩)⟩, ⟨bel_⟩⟩
        · replace c28 := Bool.eq_false_iff.mpr c28
          subst c28
          rw [if_neg (show ¬ (false = true) by decide)] at H
          have H' := Aside0.mk H
          clear H
          obtain ⟨Ao32, co32, eo32⟩ := Kd.R_slice HO1510.out
          subst eo32
          obtain ⟨Ao33, co33, eo33⟩ := Kd.R_slice HO1500.out
          subst eo33
          go_wp2_with (first | ((with_reducible refine gate_callee (f := 25) rfl ?_); refine goL_ (some 59) Try.func25 #[.slice Ao32 t1507.length co32, .slice Ao33 t1497.length co33] ?_; (with_reducible refine (laws_eqDigestS.calls k _ _ t1507 _ _ t1497 false _ ?side1 ?side2 ?side3 ?side4 A27.out).mono ?_); (case side1 => repeat (first | exact (Kd.R_reads' HO1510.out).2.2 | (with_reducible refine Kd.C_alloc ?_ _) | (with_reducible refine Kd.C_drewN ?_ _) | (with_reducible refine Kd.C_drew ?_))); (case side2 => exact (Kd.R_reads' HO1510.out).2.1); (case side3 => repeat (first | exact (Kd.R_reads' HO1500.out).2.2 | (with_reducible refine Kd.C_alloc ?_ _) | (with_reducible refine Kd.C_drewN ?_ _) | (with_reducible refine Kd.C_drew ?_))); (case side4 => exact (Kd.R_reads' HO1500.out).2.1); rintro e w34 ⟨rfl, hb⟩; refine ⟨_, rfl, ?_⟩; replace HO1493 := Aside0.mk (Kd.R_below (kdU_ HO1493.out) hb); replace HO1496 := Aside0.mk (Kd.R_below (kdU_ HO1496.out) hb); replace HO1500 := Aside0.mk (Kd.R_below (kdU_ HO1500.out) hb); replace HO1503 := Aside0.mk (Kd.R_below (kdU_ HO1503.out) hb); replace HO1506 := Aside0.mk (Kd.R_below (kdU_ HO1506.out) hb); replace HO1510 := Aside0.mk (Kd.R_below (kdU_ HO1510.out) hb); replace HB := stepB_ hb; (try clear hb); (try clear hk)))
          go_meet
          case rel => exact ⟨_, (true), (by first | rfl | (simp; done) | (simp [*]; done)), H', ⟨by first | omega | exact Nat.le_refl _⟩, ⟨by (with_reducible repeat (first | apply Kd.R_alloc | apply Kd.R_drewN | apply Kd.R_drew)); exact Kd.R_mono HO1500.out (fun _ hk => ⟨hk.1.1.2, ⟨hk.1.2, hk.2⟩⟩)⟩, ⟨by (with_reducible repeat (first | apply Kd.R_alloc | apply Kd.R_drewN | apply Kd.R_drew)); exact Kd.R_mono HO1503.out (fun _ hk => ⟨hk.1.1.2, ⟨hk.1.2, hk.2⟩⟩)⟩, ⟨by (with_reducible repeat (first | apply Kd.R_alloc | apply Kd.R_drewN | apply Kd.R_drew)); exact Kd.R_mono HO1506.out (fun _ hk => ⟨hk.1.1.2, ⟨hk.1.2, hk.2⟩⟩)⟩, ⟨by (with_reducible repeat (first | apply Kd.R_alloc | apply Kd.R_drewN | apply Kd.R_drew)); exact Kd.R_mono HO1510.out (fun _ hk => ⟨hk.1.1.2, ⟨hk.1.2, hk.2⟩⟩)⟩, ⟨bel_⟩⟩
      case rest =>
        clear HC16
        (try clear c3); (try clear c4); (try clear c7); (try clear c7b0); (try clear c9); (try clear c9b0); (try clear c28)
        obtain ⟨kq, x65_15, rfl, HA, HJ15, HO_12, HO_14, HO_15, HO_16, HB⟩ := hcut
        cases kq with
        | zero => exact absurd HA.out (by simp [laws_FnExactGrowthLift.j0])
        | succ kj15 =>
          have H := HA.out
          clear HA
          simp only [laws_FnExactGrowthLift.j0] at H
          by_cases c35 : x65_15 = true
          · subst c35
            rw [if_pos rfl] at H
            exact absurd ((Option.some.inj H).trans hr_) (by decide)
          · replace c35 := Bool.eq_false_iff.mpr c35
            subst c35
            rw [if_neg (show ¬ (false = true) by decide)] at H
            obtain ⟨t1512, A36, H⟩ := bnd_ H
            obtain ⟨t1515, A37, H⟩ := bnd_ H
            by_cases c38 : t1515 = true
            · subst c38
              rw [if_pos rfl] at H
              obtain ⟨t1516, A39, H⟩ := bnd_ H
              obtain ⟨t1519, A40, H⟩ := bnd_ H
              by_cases c41 : t1519 = true
              · subst c41
                rw [if_pos rfl] at H
                obtain ⟨⟨t1520, t1521⟩, A42, H⟩ := bnd_ H
                dsimp only at H
                obtain ⟨⟨t1522, t1523⟩, A43, H⟩ := bnd_ H
                dsimp only at H
                have HC44 := Aside0.mk H
                clear H
                go_upto_region 21 with (first | ((with_reducible refine gate_callee (f := 21) rfl ?_); refine goL_ (some 68) Try.func21 #[.slice A3 l3.length c3] ?_; (with_reducible refine (laws_toDigestS.calls kj15 _ _ l3 t1512 _ ?side1 ?side2 A36.out).mono ?_); (case side1 => repeat (first | exact (Kd.C_below HR3.out HB.out) | (with_reducible refine Kd.C_alloc ?_ _) | (with_reducible refine Kd.C_drewN ?_ _) | (with_reducible refine Kd.C_drew ?_))); (case side2 => exact HC3.out); rintro e w45 ⟨v1513, rfl, ho0, hb⟩; refine ⟨_, rfl, ?_⟩; have HO1514 := Aside0.mk (Kd.R_lower (Kd.R_new' (Kd.R_new' (Kd.R_new' (Kd.R_new' ho0 (Kd.R_lt (kdU_ HO_12.out))) (Kd.R_lt (kdU_ HO_14.out))) (Kd.R_lt (kdU_ HO_15.out))) (Kd.R_lt (kdU_ HO_16.out))) (below_size bel_)); replace HO_12 := Aside0.mk (Kd.R_elder' (kdU_ HO_12.out) (Kd.R_base ho0) hb); replace HO_14 := Aside0.mk (Kd.R_elder' (kdU_ HO_14.out) (Kd.R_base ho0) hb); replace HO_15 := Aside0.mk (Kd.R_elder' (kdU_ HO_15.out) (Kd.R_base ho0) hb); replace HO_16 := Aside0.mk (Kd.R_elder' (kdU_ HO_16.out) (Kd.R_base ho0) hb); replace HB := stepB_ hb; (try clear hb); (try clear hk); (try clear ho0); obtain ⟨Ao46, co46, eo46⟩ := Kd.R_slice HO1514.out; subst eo46) | ((with_reducible refine gate_callee (f := 25) rfl ?_); refine goL_ (some 69) Try.func25 #[.slice Ao24 t1501.length co24, .slice Ao46 t1512.length co46] ?_; (with_reducible refine (laws_eqDigestS.calls kj15 _ _ t1501 _ _ t1512 true _ ?side1 ?side2 ?side3 ?side4 A37.out).mono ?_); (case side1 => repeat (first | exact (Kd.R_reads' HO_14.out).2.2 | (with_reducible refine Kd.C_alloc ?_ _) | (with_reducible refine Kd.C_drewN ?_ _) | (with_reducible refine Kd.C_drew ?_))); (case side2 => exact (Kd.R_reads' HO_14.out).2.1); (case side3 => repeat (first | exact (Kd.R_reads' HO1514.out).2.2 | (with_reducible refine Kd.C_alloc ?_ _) | (with_reducible refine Kd.C_drewN ?_ _) | (with_reducible refine Kd.C_drew ?_))); (case side4 => exact (Kd.R_reads' HO1514.out).2.1); rintro e w47 ⟨rfl, hb⟩; refine ⟨_, rfl, ?_⟩; replace HO_12 := Aside0.mk (Kd.R_below (kdU_ HO_12.out) hb); replace HO_14 := Aside0.mk (Kd.R_below (kdU_ HO_14.out) hb); replace HO_15 := Aside0.mk (Kd.R_below (kdU_ HO_15.out) hb); replace HO_16 := Aside0.mk (Kd.R_below (kdU_ HO_16.out) hb); replace HO1514 := Aside0.mk (Kd.R_below (kdU_ HO1514.out) hb); replace HB := stepB_ hb; (try clear hb); (try clear hk)) | ((with_reducible refine gate_callee (f := 21) rfl ?_); refine goL_ (some 73) Try.func21 #[.slice A4 l4.length c4] ?_; (with_reducible refine (laws_toDigestS.calls kj15 _ _ l4 t1516 _ ?side1 ?side2 A39.out).mono ?_); (case side1 => repeat (first | exact (Kd.C_below HR4.out HB.out) | (with_reducible refine Kd.C_alloc ?_ _) | (with_reducible refine Kd.C_drewN ?_ _) | (with_reducible refine Kd.C_drew ?_))); (case side2 => exact HC4.out); rintro e w48 ⟨v1517, rfl, ho0, hb⟩; refine ⟨_, rfl, ?_⟩; have HO1518 := Aside0.mk (Kd.R_lower (Kd.R_new' (Kd.R_new' (Kd.R_new' (Kd.R_new' (Kd.R_new' ho0 (Kd.R_lt (kdU_ HO_12.out))) (Kd.R_lt (kdU_ HO_14.out))) (Kd.R_lt (kdU_ HO_15.out))) (Kd.R_lt (kdU_ HO_16.out))) (Kd.R_lt (kdU_ HO1514.out))) (below_size bel_)); replace HO_12 := Aside0.mk (Kd.R_elder' (kdU_ HO_12.out) (Kd.R_base ho0) hb); replace HO_14 := Aside0.mk (Kd.R_elder' (kdU_ HO_14.out) (Kd.R_base ho0) hb); replace HO_15 := Aside0.mk (Kd.R_elder' (kdU_ HO_15.out) (Kd.R_base ho0) hb); replace HO_16 := Aside0.mk (Kd.R_elder' (kdU_ HO_16.out) (Kd.R_base ho0) hb); replace HO1514 := Aside0.mk (Kd.R_elder' (kdU_ HO1514.out) (Kd.R_base ho0) hb); replace HB := stepB_ hb; (try clear hb); (try clear hk); (try clear ho0); obtain ⟨Ao49, co49, eo49⟩ := Kd.R_slice HO1518.out; subst eo49) | ((with_reducible refine gate_callee (f := 25) rfl ?_); refine goL_ (some 74) Try.func25 #[.slice Ao25 t1504.length co25, .slice Ao49 t1516.length co49] ?_; (with_reducible refine (laws_eqDigestS.calls kj15 _ _ t1504 _ _ t1516 true _ ?side1 ?side2 ?side3 ?side4 A40.out).mono ?_); (case side1 => repeat (first | exact (Kd.R_reads' HO_15.out).2.2 | (with_reducible refine Kd.C_alloc ?_ _) | (with_reducible refine Kd.C_drewN ?_ _) | (with_reducible refine Kd.C_drew ?_))); (case side2 => exact (Kd.R_reads' HO_15.out).2.1); (case side3 => repeat (first | exact (Kd.R_reads' HO1518.out).2.2 | (with_reducible refine Kd.C_alloc ?_ _) | (with_reducible refine Kd.C_drewN ?_ _) | (with_reducible refine Kd.C_drew ?_))); (case side4 => exact (Kd.R_reads' HO1518.out).2.1); rintro e w50 ⟨rfl, hb⟩; refine ⟨_, rfl, ?_⟩; replace HO_12 := Aside0.mk (Kd.R_below (kdU_ HO_12.out) hb); replace HO_14 := Aside0.mk (Kd.R_below (kdU_ HO_14.out) hb); replace HO_15 := Aside0.mk (Kd.R_below (kdU_ HO_15.out) hb); replace HO_16 := Aside0.mk (Kd.R_below (kdU_ HO_16.out) hb); replace HO1514 := Aside0.mk (Kd.R_below (kdU_ HO1514.out) hb); replace HO1518 := Aside0.mk (Kd.R_below (kdU_ HO1518.out) hb); replace HB := stepB_ hb; (try clear hb); (try clear hk)) | ((with_reducible refine gate_callee (f := 42) rfl ?_); refine goL_ (some 78) Try.func42 #[.slice Ao24 t1501.length co24, .int .i64 1] ?_; (with_reducible refine (laws_markDigestS.calls kj15 (fun k_ => some k_ = (.slice Ao24 t1501.length co24 : Value).ownBlock) (.slice Ao24 t1501.length co24) t1501 1 t1520 t1521 w _ ?side1 ?side2 A42.out).mono ?_); (case side1 => exact bel_); (case side2 => exact Kd.R_tight rfl HO_14.out); rintro e w51 ⟨rfl, hy0, hb, hkp⟩; refine ⟨_, rfl, ?_⟩; replace HO_12 := Aside0.mk (Kd.R_mono (ok' := fun k_ => some k_ ≠ (.slice Ao24 t1501.length co24 : Value).ownBlock ∧ some k_ ≠ (.slice Ao25 t1504.length co25 : Value).ownBlock ∧ some k_ ≠ (v1509 : Value).ownBlock ∧ some k_ ≠ (.slice Ao46 t1512.length co46 : Value).ownBlock ∧ some k_ ≠ (.slice Ao49 t1516.length co49 : Value).ownBlock) (Kd.R_keptB (HO_12.out) hkp (fun k_ hk_ hs_ => (hk_.1.1.1) hs_)) (fun k_ hk_ => ⟨hk_.1.1.1.1, hk_.1.1.1.2.1, hk_.1.1.1.2.2, hk_.1.1.2, hk_.1.2⟩)); replace HO_14 := Aside0.mk (Kd.R_reok rfl hy0 (fun k_ e_ => HO_14.out.1 k_ e_)); replace HO_15 := Aside0.mk (Kd.R_mono (ok' := fun k_ => some k_ ≠ (v1499 : Value).ownBlock ∧ some k_ ≠ (.slice Ao24 t1501.length co24 : Value).ownBlock ∧ some k_ ≠ (v1509 : Value).ownBlock ∧ some k_ ≠ (.slice Ao46 t1512.length co46 : Value).ownBlock ∧ some k_ ≠ (.slice Ao49 t1516.length co49 : Value).ownBlock) (Kd.R_keptB (HO_15.out) hkp (fun k_ hk_ hs_ => (hk_.1.1.2.1) hs_)) (fun k_ hk_ => ⟨hk_.1.1.1.1, hk_.1.1.1.2.1, hk_.1.1.1.2.2, hk_.1.1.2, hk_.1.2⟩)); replace HO_16 := Aside0.mk (Kd.R_mono (ok' := fun k_ => some k_ ≠ (v1499 : Value).ownBlock ∧ some k_ ≠ (.slice Ao24 t1501.length co24 : Value).ownBlock ∧ some k_ ≠ (.slice Ao25 t1504.length co25 : Value).ownBlock ∧ some k_ ≠ (.slice Ao46 t1512.length co46 : Value).ownBlock ∧ some k_ ≠ (.slice Ao49 t1516.length co49 : Value).ownBlock) (Kd.R_keptB (HO_16.out) hkp (fun k_ hk_ hs_ => (hk_.1.1.2.1) hs_)) (fun k_ hk_ => ⟨hk_.1.1.1.1, hk_.1.1.1.2.1, hk_.1.1.1.2.2, hk_.1.1.2, hk_.1.2⟩)); replace HO1514 := Aside0.mk (Kd.R_mono (ok' := fun k_ => some k_ ≠ (v1499 : Value).ownBlock ∧ some k_ ≠ (.slice Ao24 t1501.length co24 : Value).ownBlock ∧ some k_ ≠ (.slice Ao25 t1504.length co25 : Value).ownBlock ∧ some k_ ≠ (v1509 : Value).ownBlock ∧ some k_ ≠ (.slice Ao49 t1516.length co49 : Value).ownBlock) (Kd.R_keptB (HO1514.out) hkp (fun k_ hk_ hs_ => (hk_.1.1.1.2) hs_)) (fun k_ hk_ => ⟨hk_.1.1.1.1.1.2, hk_.1.1.1.1.2, hk_.1.1.1.2, hk_.1.1.2, hk_.1.2⟩)); replace HO1518 := Aside0.mk (Kd.R_mono (ok' := fun k_ => some k_ ≠ (v1499 : Value).ownBlock ∧ some k_ ≠ (.slice Ao24 t1501.length co24 : Value).ownBlock ∧ some k_ ≠ (.slice Ao25 t1504.length co25 : Value).ownBlock ∧ some k_ ≠ (v1509 : Value).ownBlock ∧ some k_ ≠ (.slice Ao46 t1512.length co46 : Value).ownBlock) (Kd.R_keptB (HO1518.out) hkp (fun k_ hk_ hs_ => (hk_.1.1.1.2) hs_)) (fun k_ hk_ => ⟨hk_.1.1.1.1.1.2, hk_.1.1.1.1.2, hk_.1.1.1.2, hk_.1.1.2, hk_.1.2⟩)); replace HB := Aside0.mk (hb); (try clear hb); (try clear hkp); (try clear hy0)) | ((with_reducible refine gate_callee (f := 42) rfl ?_); refine goL_ (some 81) Try.func42 #[.slice Ao25 t1504.length co25, .int .i64 t1520] ?_; (with_reducible refine (laws_markDigestS.calls kj15 (fun k_ => some k_ = (.slice Ao25 t1504.length co25 : Value).ownBlock) (.slice Ao25 t1504.length co25) t1504 t1520 t1522 t1523 w _ ?side1 ?side2 A43.out).mono ?_); (case side1 => exact bel_); (case side2 => exact Kd.R_tight rfl HO_15.out); rintro e w52 ⟨rfl, hy0, hb, hkp⟩; refine ⟨_, rfl, ?_⟩; replace HO_12 := Aside0.mk (Kd.R_mono (ok' := fun k_ => some k_ ≠ (.slice Ao24 t1501.length co24 : Value).ownBlock ∧ some k_ ≠ (.slice Ao25 t1504.length co25 : Value).ownBlock ∧ some k_ ≠ (v1509 : Value).ownBlock ∧ some k_ ≠ (.slice Ao46 t1512.length co46 : Value).ownBlock ∧ some k_ ≠ (.slice Ao49 t1516.length co49 : Value).ownBlock) (Kd.R_keptB (HO_12.out) hkp (fun k_ hk_ hs_ => (hk_.2.1) hs_)) (fun k_ hk_ => ⟨hk_.1.1, hk_.1.2.1, hk_.1.2.2.1, hk_.1.2.2.2.1, hk_.1.2.2.2.2⟩)); replace HO_14 := Aside0.mk (Kd.R_mono (ok' := fun k_ => some k_ ≠ (v1499 : Value).ownBlock ∧ some k_ ≠ (.slice Ao25 t1504.length co25 : Value).ownBlock ∧ some k_ ≠ (v1509 : Value).ownBlock ∧ some k_ ≠ (.slice Ao46 t1512.length co46 : Value).ownBlock ∧ some k_ ≠ (.slice Ao49 t1516.length co49 : Value).ownBlock) (Kd.R_keptB (HO_14.out) hkp (fun k_ hk_ hs_ => (hk_.1.1.2.1) hs_)) (fun k_ hk_ => ⟨hk_.1.1.1.1, hk_.1.1.1.2.1, hk_.1.1.1.2.2, hk_.1.1.2, hk_.1.2⟩)); replace HO_15 := Aside0.mk (Kd.R_reok rfl hy0 (fun k_ e_ => HO_15.out.1 k_ e_)); replace HO_16 := Aside0.mk (Kd.R_mono (ok' := fun k_ => some k_ ≠ (v1499 : Value).ownBlock ∧ some k_ ≠ (.slice Ao24 t1501.length co24 : Value).ownBlock ∧ some k_ ≠ (.slice Ao25 t1504.length co25 : Value).ownBlock ∧ some k_ ≠ (.slice Ao46 t1512.length co46 : Value).ownBlock ∧ some k_ ≠ (.slice Ao49 t1516.length co49 : Value).ownBlock) (Kd.R_keptB (HO_16.out) hkp (fun k_ hk_ hs_ => (hk_.2.2.1) hs_)) (fun k_ hk_ => ⟨hk_.1.1, hk_.1.2.1, hk_.1.2.2.1, hk_.1.2.2.2.1, hk_.1.2.2.2.2⟩)); replace HO1514 := Aside0.mk (Kd.R_mono (ok' := fun k_ => some k_ ≠ (v1499 : Value).ownBlock ∧ some k_ ≠ (.slice Ao24 t1501.length co24 : Value).ownBlock ∧ some k_ ≠ (.slice Ao25 t1504.length co25 : Value).ownBlock ∧ some k_ ≠ (v1509 : Value).ownBlock ∧ some k_ ≠ (.slice Ao49 t1516.length co49 : Value).ownBlock) (Kd.R_keptB (HO1514.out) hkp (fun k_ hk_ hs_ => (hk_.2.2.1) hs_)) (fun k_ hk_ => ⟨hk_.1.1, hk_.1.2.1, hk_.1.2.2.1, hk_.1.2.2.2.1, hk_.1.2.2.2.2⟩)); replace HO1518 := Aside0.mk (Kd.R_mono (ok' := fun k_ => some k_ ≠ (v1499 : Value).ownBlock ∧ some k_ ≠ (.slice Ao24 t1501.length co24 : Value).ownBlock ∧ some k_ ≠ (.slice Ao25 t1504.length co25 : Value).ownBlock ∧ some k_ ≠ (v1509 : Value).ownBlock ∧ some k_ ≠ (.slice Ao46 t1512.length co46 : Value).ownBlock) (Kd.R_keptB (HO1518.out) hkp (fun k_ hk_ hs_ => (hk_.2.2.1) hs_)) (fun k_ hk_ => ⟨hk_.1.1, hk_.1.2.1, hk_.1.2.2.1, hk_.1.2.2.2.1, hk_.1.2.2.2.2⟩)); replace HB := Aside0.mk (hb); (try clear hb); (try clear hkp); (try clear hy0)))
                (try simp only [Act.put, List.setIfInBounds_toArray, List.set_cons_zero, List.set_cons_succ])
                go_cut [94] (fun v94 wc => ∃ (kq : Nat) (x94_43 : Bool), v94 = .bool x94_43 ∧ Aside0 (laws_FnExactGrowthLift.j1 kq a0 a1 a2 l3 l4 t1497 t1498 t1507 x94_43 = some r) ∧ Aside0 (kq ≤ kj15) ∧ Aside0 (Kd.R k29 29 wc w.heap.size (fun k_ => some k_ ≠ (v1509 : Value).ownBlock) v1499 t1497) ∧ Aside0 (Kd.R k29 29 wc w.heap.size (fun k_ => some k_ ≠ (v1499 : Value).ownBlock) v1509 t1507) ∧ Aside0 (Below w.heap.size w wc))
                case first =>
                  have H := HC44.out
                  clear HC44
                  by_cases c53 : t1522 < 0
                  · rw [if_pos c53] at H
                    have c53b0 : decide (t1522 < 0) = true := decide_eq_true c53
                    clear c53
                    (first | rw [c53b0] | (simp only [i64_w, i32_w]; rw [c53b0]) | skip)
                    have H' := Aside0.mk H
                    clear H
                    go_wp2
                    go_meet
                    case rel => exact ⟨_, (true), (by first | rfl | (simp; done) | (simp [*]; done)), H', ⟨by have := HJ15.out; first | omega | exact Nat.le_refl _⟩, ⟨by (with_reducible repeat (first | apply Kd.R_alloc | apply Kd.R_drewN | apply Kd.R_drew)); exact Kd.R_mono HO_12.out (fun _ hk => hk.2.2.1)⟩, ⟨by (with_reducible repeat (first | apply Kd.R_alloc | apply Kd.R_drewN | apply Kd.R_drew)); exact Kd.R_mono HO_16.out (fun _ hk => hk.1)⟩, ⟨bel_⟩⟩
                  · rw [if_neg c53] at H
                    have c53b0 : decide (t1522 < 0) = false := decide_eq_false c53
                    clear c53
                    (first | rw [c53b0] | (simp only [i64_w, i32_w]; rw [c53b0]) | skip)
                    obtain ⟨t1524, A54, H⟩ := bnd_ H
                    by_cases c55 : t1524 = true
                    · subst c55
                      rw [if_pos rfl] at H
                      have H' := Aside0.mk H
                      clear H
                      obtain ⟨Ao56, co56, eo56⟩ := Kd.R_slice HO_16.out
                      subst eo56
                      obtain ⟨Ao57, co57, eo57⟩ := Kd.R_slice HO_12.out
                      subst eo57
                      go_wp2_with (first | (go_at_call 25; (with_reducible refine (laws_eqDigestS.calls kj15 _ _ t1507 _ _ t1497 true _ ?side1 ?side2 ?side3 ?side4 A54.out).mono ?_); (case side1 => repeat (first | exact (Kd.R_reads' HO_16.out).2.2 | (with_reducible refine Kd.C_alloc ?_ _) | (with_reducible refine Kd.C_drewN ?_ _) | (with_reducible refine Kd.C_drew ?_))); (case side2 => exact (Kd.R_reads' HO_16.out).2.1); (case side3 => repeat (first | exact (Kd.R_reads' HO_12.out).2.2 | (with_reducible refine Kd.C_alloc ?_ _) | (with_reducible refine Kd.C_drewN ?_ _) | (with_reducible refine Kd.C_drew ?_))); (case side4 => exact (Kd.R_reads' HO_12.out).2.1); rintro e w58 ⟨rfl, hb⟩; replace HO_12 := Aside0.mk (Kd.R_below (kdU_ HO_12.out) hb); replace HO_14 := Aside0.mk (Kd.R_below (kdU_ HO_14.out) hb); replace HO_15 := Aside0.mk (Kd.R_below (kdU_ HO_15.out) hb); replace HO_16 := Aside0.mk (Kd.R_below (kdU_ HO_16.out) hb); replace HO1514 := Aside0.mk (Kd.R_below (kdU_ HO1514.out) hb); replace HO1518 := Aside0.mk (Kd.R_below (kdU_ HO1518.out) hb); replace HB := stepB_ hb; (try clear hb); (try clear hk)))
                      go_meet
                      case rel => exact ⟨_, ((t1508 != t1498)), (by first | rfl | (simp; done) | (simp [*]; done)), H', ⟨by have := HJ15.out; first | omega | exact Nat.le_refl _⟩, ⟨by (with_reducible repeat (first | apply Kd.R_alloc | apply Kd.R_drewN | apply Kd.R_drew)); exact Kd.R_mono HO_12.out (fun _ hk => hk.2.2.1)⟩, ⟨by (with_reducible repeat (first | apply Kd.R_alloc | apply Kd.R_drewN | apply Kd.R_drew)); exact Kd.R_mono HO_16.out (fun _ hk => hk.1)⟩, ⟨bel_⟩⟩
                    · replace c55 := Bool.eq_false_iff.mpr c55
                      subst c55
                      rw [if_neg (show ¬ (false = true) by decide)] at H
                      have H' := Aside0.mk H
                      clear H
                      obtain ⟨Ao59, co59, eo59⟩ := Kd.R_slice HO_16.out
                      subst eo59
                      obtain ⟨Ao60, co60, eo60⟩ := Kd.R_slice HO_12.out
                      subst eo60
                      go_wp2_with (first | (go_at_call 25; (with_reducible refine (laws_eqDigestS.calls kj15 _ _ t1507 _ _ t1497 false _ ?side1 ?side2 ?side3 ?side4 A54.out).mono ?_); (case side1 => repeat (first | exact (Kd.R_reads' HO_16.out).2.2 | (with_reducible refine Kd.C_alloc ?_ _) | (with_reducible refine Kd.C_drewN ?_ _) | (with_reducible refine Kd.C_drew ?_))); (case side2 => exact (Kd.R_reads' HO_16.out).2.1); (case side3 => repeat (first | exact (Kd.R_reads' HO_12.out).2.2 | (with_reducible refine Kd.C_alloc ?_ _) | (with_reducible refine Kd.C_drewN ?_ _) | (with_reducible refine Kd.C_drew ?_))); (case side4 => exact (Kd.R_reads' HO_12.out).2.1); rintro e w61 ⟨rfl, hb⟩; replace HO_12 := Aside0.mk (Kd.R_below (kdU_ HO_12.out) hb); replace HO_14 := Aside0.mk (Kd.R_below (kdU_ HO_14.out) hb); replace HO_15 := Aside0.mk (Kd.R_below (kdU_ HO_15.out) hb); replace HO_16 := Aside0.mk (Kd.R_below (kdU_ HO_16.out) hb); replace HO1514 := Aside0.mk (Kd.R_below (kdU_ HO1514.out) hb); replace HO1518 := Aside0.mk (Kd.R_below (kdU_ HO1518.out) hb); replace HB := stepB_ hb; (try clear hb); (try clear hk)))
                      go_meet
                      case rel => exact ⟨_, (true), (by first | rfl | (simp; done) | (simp [*]; done)), H', ⟨by have := HJ15.out; first | omega | exact Nat.le_refl _⟩, ⟨by (with_reducible repeat (first | apply Kd.R_alloc | apply Kd.R_drewN | apply Kd.R_drew)); exact Kd.R_mono HO_12.out (fun _ hk => hk.2.2.1)⟩, ⟨by (with_reducible repeat (first | apply Kd.R_alloc | apply Kd.R_drewN | apply Kd.R_drew)); exact Kd.R_mono HO_16.out (fun _ hk => hk.1)⟩, ⟨bel_⟩⟩
                case rest =>
                  clear HC44
                  (try clear c3); (try clear c4); (try clear c7); (try clear c7b0); (try clear c9); (try clear c9b0); (try clear c28); (try clear c35); (try clear c38); (try clear c41); (try clear c53); (try clear c53b0); (try clear c55)
                  obtain ⟨kq, x94_43, rfl, HA, HJ43, HO_12, HO_16, HB⟩ := hcut
                  cases kq with
                  | zero => exact absurd HA.out (by simp [laws_FnExactGrowthLift.j1])
                  | succ kj43 =>
                    have H := HA.out
                    clear HA
                    simp only [laws_FnExactGrowthLift.j1] at H
                    by_cases c62 : x94_43 = true
                    · subst c62
                      rw [if_pos rfl] at H
                      exact absurd ((Option.some.inj H).trans hr_) (by decide)
                    · replace c62 := Bool.eq_false_iff.mpr c62
                      subst c62
                      rw [if_neg (show ¬ (false = true) by decide)] at H
                      obtain ⟨⟨t1525, t1526⟩, A63, H⟩ := bnd_ H
                      dsimp only at H
                      obtain ⟨t1527, A64, H⟩ := bnd_ H
                      by_cases c65 : t1527 < 0
                      · rw [if_pos c65] at H
                        have c65b0 : decide (t1527 < 0) = true := decide_eq_true c65
                        clear c65
                        exact absurd ((Option.some.inj H).trans hr_) (by decide)
                      · rw [if_neg c65] at H
                        have c65b0 : decide (t1527 < 0) = false := decide_eq_false c65
                        clear c65
                        by_cases c66 : t1527 = t1525
                        · rw [if_pos c66] at H
                          have c66b0 : (t1527 == t1525) = true := beq_iff_eq.mpr c66
                          have c66b1 : (t1527 != t1525) = false := bne_eq_false_iff_eq.mpr c66
                          clear c66
                          obtain ⟨t1528, A67, H⟩ := bnd_ H
                          obtain ⟨t1531, A68, H⟩ := bnd_ H
                          obtain ⟨⟨t1534, t1535⟩, A69, H⟩ := bnd_ H
                          dsimp only at H
                          have HC70 := Aside0.mk H
                          clear H
                          obtain ⟨Ao71, co71, eo71⟩ := Kd.R_slice HO_16.out
                          subst eo71
                          go_upto_region 32 with (first | ((with_reducible refine gate_callee (f := 42) rfl ?_); refine goL_ (some 97) Try.func42 #[.slice Ao71 t1507.length co71, .int .i64 1] ?_; (with_reducible refine (laws_markDigestS.calls kj43 (fun k_ => some k_ = (.slice Ao71 t1507.length co71 : Value).ownBlock) (.slice Ao71 t1507.length co71) t1507 1 t1525 t1526 w _ ?side1 ?side2 A63.out).mono ?_); (case side1 => exact bel_); (case side2 => exact Kd.R_tight rfl HO_16.out); rintro e w72 ⟨rfl, hy0, hb, hkp⟩; refine ⟨_, rfl, ?_⟩; replace HO_12 := Aside0.mk (Kd.R_mono (ok' := fun k_ => some k_ ≠ (.slice Ao71 t1507.length co71 : Value).ownBlock) (Kd.R_keptB (HO_12.out) hkp (fun k_ hk_ hs_ => (hk_) hs_)) (fun k_ hk_ => hk_.1)); replace HO_16 := Aside0.mk (Kd.R_reok rfl hy0 (fun k_ e_ => HO_16.out.1 k_ e_)); replace HB := Aside0.mk (hb); (try clear hb); (try clear hkp); (try clear hy0)) | ((with_reducible refine gate_callee (f := 43) rfl ?_); refine goesL_ (some 100) rfl rfl Try.func43 (by kernel_rfl) rfl #[.slice Ao71 t1526.length co71, .int .i64 1] rfl (by (try simp only [List.map_toArray, List.map_cons, List.map_nil]); first | done | (rw [show t1526.length = t1507.length from (Kd.R_reads' HO_16.out).1.symm] <;> rfl) | rfl | (simp only [List.length_drop, List.length_take]; rfl)) ?_; (with_reducible refine (laws_heldDigestS.calls kj43 _ _ t1526 1 t1527 _ ?side1 ?side2 A64.out).mono ?_); (case side1 => repeat (first | exact (Kd.R_reads' HO_16.out).2.2 | (with_reducible refine Kd.C_alloc ?_ _) | (with_reducible refine Kd.C_drewN ?_ _) | (with_reducible refine Kd.C_drew ?_))); (case side2 => rw [show t1526.length = t1507.length from (Kd.R_reads' HO_16.out).1.symm]; exact (Kd.R_reads' HO_16.out).2.1); rintro e w' ⟨rfl, ⟨nd, rfl⟩⟩; refine ⟨_, rfl, ?_⟩) | ((with_reducible refine gate_callee (f := 21) rfl ?_); refine goL_ (some 111) Try.func21 #[.slice A3 l3.length c3] ?_; (with_reducible refine (laws_toDigestS.calls kj43 _ _ l3 t1528 _ ?side1 ?side2 A67.out).mono ?_); (case side1 => repeat (first | exact (Kd.C_below HR3.out bel_) | (with_reducible refine Kd.C_alloc ?_ _) | (with_reducible refine Kd.C_drewN ?_ _) | (with_reducible refine Kd.C_drew ?_))); (case side2 => exact HC3.out); rintro e w73 ⟨v1529, rfl, ho0, hb⟩; refine ⟨_, rfl, ?_⟩; have HO1530 := Aside0.mk (Kd.R_lower (Kd.R_new' (Kd.R_new' ho0 (Kd.R_lt (kdU_ HO_12.out))) (Kd.R_lt (kdU_ HO_16.out))) (below_size bel_)); replace HO_12 := Aside0.mk (Kd.R_elder' (kdU_ HO_12.out) (Kd.R_base ho0) hb); replace HO_16 := Aside0.mk (Kd.R_elder' (kdU_ HO_16.out) (Kd.R_base ho0) hb); replace HB := stepB_ hb; (try clear hb); (try clear hk); (try clear ho0)) | ((with_reducible refine gate_callee (f := 21) rfl ?_); refine goL_ (some 113) Try.func21 #[.slice A4 l4.length c4] ?_; (with_reducible refine (laws_toDigestS.calls kj43 _ _ l4 t1531 _ ?side1 ?side2 A68.out).mono ?_); (case side1 => repeat (first | exact (Kd.C_below HR4.out HB.out) | (with_reducible refine Kd.C_alloc ?_ _) | (with_reducible refine Kd.C_drewN ?_ _) | (with_reducible refine Kd.C_drew ?_))); (case side2 => exact HC4.out); rintro e w74 ⟨v1532, rfl, ho0, hb⟩; refine ⟨_, rfl, ?_⟩; have HO1533 := Aside0.mk (Kd.R_lower (Kd.R_new' (Kd.R_new' (Kd.R_new' ho0 (Kd.R_lt (kdU_ HO_12.out))) (Kd.R_lt (kdU_ HO_16.out))) (Kd.R_lt (kdU_ HO1530.out))) (below_size bel_)); replace HO_12 := Aside0.mk (Kd.R_elder' (kdU_ HO_12.out) (Kd.R_base ho0) hb); replace HO_16 := Aside0.mk (Kd.R_elder' (kdU_ HO_16.out) (Kd.R_base ho0) hb); replace HO1530 := Aside0.mk (Kd.R_elder' (kdU_ HO1530.out) (Kd.R_base ho0) hb); replace HB := stepB_ hb; (try clear hb); (try clear hk); (try clear ho0); obtain ⟨Ao75, co75, eo75⟩ := Kd.R_slice HO1530.out; subst eo75; obtain ⟨Ao76, co76, eo76⟩ := Kd.R_slice HO1533.out; subst eo76) | ((with_reducible refine gate_callee (f := 38) rfl ?_); refine goL_ (some 114) Try.func38 #[.int .i64 a0, .int .i64 a1, .int .i64 a2, .slice Ao75 t1528.length co75, .slice Ao76 t1531.length co76] ?_; (with_reducible refine (impl_GrowthLift.calls kj43 a0 a1 a2 _ _ t1528 _ _ t1531 t1534 t1535 _ ?side1 ?side2 ?side3 ?side4 A69.out).mono ?_); (case side1 => repeat (first | exact (Kd.R_reads' HO1530.out).2.2 | (with_reducible refine Kd.C_alloc ?_ _) | (with_reducible refine Kd.C_drewN ?_ _) | (with_reducible refine Kd.C_drew ?_))); (case side2 => exact (Kd.R_reads' HO1530.out).2.1); (case side3 => repeat (first | exact (Kd.R_reads' HO1533.out).2.2 | (with_reducible refine Kd.C_alloc ?_ _) | (with_reducible refine Kd.C_drewN ?_ _) | (with_reducible refine Kd.C_drew ?_))); (case side4 => exact (Kd.R_reads' HO1533.out).2.1); rintro e w77 ⟨v1536, rfl, ho0, hb⟩; refine ⟨_, rfl, ?_⟩; have HO1537 := Aside0.mk (Kd.R_lower (Kd.R_new' (Kd.R_new' (Kd.R_new' (Kd.R_new' ho0 (Kd.R_lt (kdU_ HO_12.out))) (Kd.R_lt (kdU_ HO_16.out))) (Kd.R_lt (kdU_ HO1530.out))) (Kd.R_lt (kdU_ HO1533.out))) (below_size bel_)); replace HO_12 := Aside0.mk (Kd.R_elder' (kdU_ HO_12.out) (Kd.R_base ho0) hb); replace HO_16 := Aside0.mk (Kd.R_elder' (kdU_ HO_16.out) (Kd.R_base ho0) hb); replace HO1530 := Aside0.mk (Kd.R_elder' (kdU_ HO1530.out) (Kd.R_base ho0) hb); replace HO1533 := Aside0.mk (Kd.R_elder' (kdU_ HO1533.out) (Kd.R_base ho0) hb); replace HB := stepB_ hb; (try clear hb); (try clear hk); (try clear ho0)))
                          (try simp only [Act.put, List.setIfInBounds_toArray, List.set_cons_zero, List.set_cons_succ])
                          go_cut [125] (fun v125 wc => ∃ (kq : Nat) (x125_69 : Bool), v125 = .bool x125_69 ∧ Aside0 (laws_FnExactGrowthLift.j2 kq t1526 t1525 x125_69 = some r) ∧ Aside0 (kq ≤ kj43) ∧ Aside0 (Kd.R k29 29 wc w.heap.size (fun _ => True) (.slice Ao71 t1507.length co71) t1526) ∧ Aside0 (Below w.heap.size w wc))
                          case first =>
                            have H := HC70.out
                            clear HC70
                            obtain ⟨t1538, A78, H⟩ := bnd_ H
                            by_cases c79 : t1538 = true
                            · subst c79
                              rw [if_pos rfl] at H
                              have H' := Aside0.mk H
                              clear H
                              obtain ⟨Ao80, co80, eo80⟩ := Kd.R_slice HO1537.out
                              subst eo80
                              obtain ⟨Ao81, co81, eo81⟩ := Kd.R_slice HO_12.out
                              subst eo81
                              go_wp2_with (first | ((with_reducible refine gate_callee (f := 25) rfl ?_); refine goL_ (some 119) Try.func25 #[.slice Ao80 t1534.length co80, .slice Ao81 t1497.length co81] ?_; (with_reducible refine (laws_eqDigestS.calls kj43 _ _ t1534 _ _ t1497 true _ ?side1 ?side2 ?side3 ?side4 A78.out).mono ?_); (case side1 => repeat (first | exact (Kd.R_reads' HO1537.out).2.2 | (with_reducible refine Kd.C_alloc ?_ _) | (with_reducible refine Kd.C_drewN ?_ _) | (with_reducible refine Kd.C_drew ?_))); (case side2 => exact (Kd.R_reads' HO1537.out).2.1); (case side3 => repeat (first | exact (Kd.R_reads' HO_12.out).2.2 | (with_reducible refine Kd.C_alloc ?_ _) | (with_reducible refine Kd.C_drewN ?_ _) | (with_reducible refine Kd.C_drew ?_))); (case side4 => exact (Kd.R_reads' HO_12.out).2.1); rintro e w82 ⟨rfl, hb⟩; refine ⟨_, rfl, ?_⟩; replace HO_12 := Aside0.mk (Kd.R_below (kdU_ HO_12.out) hb); replace HO_16 := Aside0.mk (Kd.R_below (kdU_ HO_16.out) hb); replace HO1530 := Aside0.mk (Kd.R_below (kdU_ HO1530.out) hb); replace HO1533 := Aside0.mk (Kd.R_below (kdU_ HO1533.out) hb); replace HO1537 := Aside0.mk (Kd.R_below (kdU_ HO1537.out) hb); replace HB := stepB_ hb; (try clear hb); (try clear hk)))
                              go_meet
                              case rel => exact ⟨_, ((t1535 != t1498)), (by first | rfl | (simp; done) | (simp [*]; done)), H', ⟨by have := HJ15.out; have := HJ43.out; first | omega | exact Nat.le_refl _⟩, ⟨by (with_reducible repeat (first | apply Kd.R_alloc | apply Kd.R_drewN | apply Kd.R_drew)); exact Kd.R_mono HO_16.out (fun _ hk => trivial)⟩, ⟨bel_⟩⟩
                            · replace c79 := Bool.eq_false_iff.mpr c79
                              subst c79
                              rw [if_neg (show ¬ (false = true) by decide)] at H
                              have H' := Aside0.mk H
                              clear H
                              obtain ⟨Ao83, co83, eo83⟩ := Kd.R_slice HO1537.out
                              subst eo83
                              obtain ⟨Ao84, co84, eo84⟩ := Kd.R_slice HO_12.out
                              subst eo84
                              go_wp2_with (first | ((with_reducible refine gate_callee (f := 25) rfl ?_); refine goL_ (some 119) Try.func25 #[.slice Ao83 t1534.length co83, .slice Ao84 t1497.length co84] ?_; (with_reducible refine (laws_eqDigestS.calls kj43 _ _ t1534 _ _ t1497 false _ ?side1 ?side2 ?side3 ?side4 A78.out).mono ?_); (case side1 => repeat (first | exact (Kd.R_reads' HO1537.out).2.2 | (with_reducible refine Kd.C_alloc ?_ _) | (with_reducible refine Kd.C_drewN ?_ _) | (with_reducible refine Kd.C_drew ?_))); (case side2 => exact (Kd.R_reads' HO1537.out).2.1); (case side3 => repeat (first | exact (Kd.R_reads' HO_12.out).2.2 | (with_reducible refine Kd.C_alloc ?_ _) | (with_reducible refine Kd.C_drewN ?_ _) | (with_reducible refine Kd.C_drew ?_))); (case side4 => exact (Kd.R_reads' HO_12.out).2.1); rintro e w85 ⟨rfl, hb⟩; refine ⟨_, rfl, ?_⟩; replace HO_12 := Aside0.mk (Kd.R_below (kdU_ HO_12.out) hb); replace HO_16 := Aside0.mk (Kd.R_below (kdU_ HO_16.out) hb); replace HO1530 := Aside0.mk (Kd.R_below (kdU_ HO1530.out) hb); replace HO1533 := Aside0.mk (Kd.R_below (kdU_ HO1533.out) hb); replace HO1537 := Aside0.mk (Kd.R_below (kdU_ HO1537.out) hb); replace HB := stepB_ hb; (try clear hb); (try clear hk)))
                              go_meet
                              case rel => exact ⟨_, (true), (by first | rfl | (simp; done) | (simp [*]; done)), H', ⟨by have := HJ15.out; have := HJ43.out; first | omega | exact Nat.le_refl _⟩, ⟨by (with_reducible repeat (first | apply Kd.R_alloc | apply Kd.R_drewN | apply Kd.R_drew)); exact Kd.R_mono HO_16.out (fun _ hk => trivial)⟩, ⟨bel_⟩⟩
                          case rest =>
                            clear HC70
                            (try clear c3); (try clear c4); (try clear c7); (try clear c7b0); (try clear c9); (try clear c9b0); (try clear c28); (try clear c35); (try clear c38); (try clear c41); (try clear c53); (try clear c53b0); (try clear c55); (try clear c62); (try clear c65); (try clear c65b0); (try clear c66); (try clear c66b0); (try clear c66b1); (try clear c79)
                            obtain ⟨kq, x125_69, rfl, HA, HJ69, HO_16, HB⟩ := hcut
                            have hl16_69 := (Kd.R_reads' HO_16.out).1
                            rw [hl16_69] at HO_16
                            (try simp only [hl16_69])
                            cases kq with
                            | zero => exact absurd HA.out (by simp [laws_FnExactGrowthLift.j2])
                            | succ kj69 =>
                              have H := HA.out
                              clear HA
                              simp only [laws_FnExactGrowthLift.j2] at H
                              by_cases c86 : x125_69 = true
                              · subst c86
                                rw [if_pos rfl] at H
                                exact absurd ((Option.some.inj H).trans hr_) (by decide)
                              · replace c86 := Bool.eq_false_iff.mpr c86
                                subst c86
                                rw [if_neg (show ¬ (false = true) by decide)] at H
                                obtain ⟨t1539, A87, H⟩ := bnd_ H
                                by_cases c88 : t1539 < 0
                                · rw [if_pos c88] at H
                                  have c88b0 : decide (t1539 < 0) = true := decide_eq_true c88
                                  clear c88
                                  exact absurd ((Option.some.inj H).trans hr_) (by decide)
                                · rw [if_neg c88] at H
                                  have c88b0 : decide (t1539 < 0) = false := decide_eq_false c88
                                  clear c88
                                  by_cases c89 : t1539 = t1525
                                  · rw [if_pos c89] at H
                                    have c89b0 : (t1539 == t1525) = true := beq_iff_eq.mpr c89
                                    have c89b1 : (t1539 != t1525) = false := bne_eq_false_iff_eq.mpr c89
                                    clear c89
                                    obtain rfl := Option.some.inj H
                                    go_wp2_with (first | ((with_reducible refine gate_callee (f := 43) rfl ?_); refine goL_ (some 128) Try.func43 #[.slice Ao71 t1526.length co71, .int .i64 1] ?_; (with_reducible refine (laws_heldDigestS.calls kj69 _ _ t1526 1 t1539 _ ?side1 ?side2 A87.out).mono ?_); (case side1 => repeat (first | exact (Kd.R_reads' HO_16.out).2.2 | (with_reducible refine Kd.C_alloc ?_ _) | (with_reducible refine Kd.C_drewN ?_ _) | (with_reducible refine Kd.C_drew ?_))); (case side2 => exact (Kd.R_reads' HO_16.out).2.1); rintro e w' ⟨rfl, ⟨nd, rfl⟩⟩; refine ⟨_, rfl, ?_⟩))
                                    go_ret
                                    exact ⟨rfl_, bel_⟩
                                  · rw [if_neg c89] at H
                                    have c89b0 : (t1539 == t1525) = false := beq_eq_false_iff_ne.mpr c89
                                    have c89b1 : (t1539 != t1525) = true := bne_iff_ne.mpr c89
                                    exact absurd ((Option.some.inj H).trans hr_) (by decide)
                        · rw [if_neg c66] at H
                          have c66b0 : (t1527 == t1525) = false := beq_eq_false_iff_ne.mpr c66
                          have c66b1 : (t1527 != t1525) = true := bne_iff_ne.mpr c66
                          exact absurd ((Option.some.inj H).trans hr_) (by decide)
              · replace c41 := Bool.eq_false_iff.mpr c41
                subst c41
                rw [if_neg (show ¬ (false = true) by decide)] at H
                exact absurd ((Option.some.inj H).trans hr_) (by decide)
            · replace c38 := Bool.eq_false_iff.mpr c38
              subst c38
              rw [if_neg (show ¬ (false = true) by decide)] at H
              exact absurd ((Option.some.inj H).trans hr_) (by decide)
end
end Go.Proofs.Ytflckegggopdnaa.B
