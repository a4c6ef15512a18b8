/- What the Go functions loop.example/belfry/laws.FnExactPeaksAdd do is what the Lean functions .f of their names here say; condition: .f gives an answer. (Written by the session's program pp.py over the kit's print; Lean checks it.) -/
import Derived.Test.YtemfciflhbhobaaK
import Derived.Test.YtemfciflhbhobaaM
import Derived.Test.YtemfciflhbhobaaFImplPeaksAdd
import Derived.Test.YtemfciflhbhobaaFSpecPeaksAdd
import Derived.Test.YtemfciflhbhobaaGLawD1
import Derived.Test.YtemfciflhbhobaaGLawMD1
namespace Go.Proofs.Ytemfciflhbhobaa.B
open Go.RowKit Go.Proofs.YtemfciflhbhobaaW.PrintWords Go.Proofs.YtemfciflhbhobaaW.PrintLast Go.Proofs.YtemfciflhbhobaaW.PrintMore
attribute [local go_sem] max2_int min2_int max_two min_two max_three min_three max_four min_four   -- for this text's walks alone
set_option linter.unusedVariables false
set_option linter.unusedSimpArgs false

section
/-! ### laws_FnExactPeaksAdd: function 10 -/
mutual
def laws_FnExactPeaksAdd.j0 : Nat → Int → List (S24) → ByteArray → List (S29) → Bool → List (S29) → List (S29) → Bool → Bool → Option (Bool)
  | 0, _, _, _, _, _, _, _, _, _ => none
  | k + 1, x0, x1, x2, x8, x9, x10, x11, x12, x51 => if x51 = true then (some false) else ((laws_toDigestS.f k x1).bind fun t1326 => ((laws_eqDigestS.f k x10 t1326).bind fun t1329 => (if t1329 = true then ((laws_markDigestS.f k x10 1).bind fun bt1330 => (if bt1330.1 < 0 then (laws_FnExactPeaksAdd.j1 k x0 x1 x2 x8 x9 x11 true) else ((laws_eqDigestS.f k x11 x8).bind fun t1332 => (if t1332 = true then (laws_FnExactPeaksAdd.j1 k x0 x1 x2 x8 x9 x11 (x12 != x9)) else (laws_FnExactPeaksAdd.j1 k x0 x1 x2 x8 x9 x11 true))))) else (some false))))
def laws_FnExactPeaksAdd.j1 : Nat → Int → List (S24) → ByteArray → List (S29) → Bool → List (S29) → Bool → Option (Bool)
  | 0, _, _, _, _, _, _, _ => none
  | k + 1, x0, x1, x2, x8, x9, x11, x72 => if x72 = true then (some false) else ((laws_markDigestS.f k x11 1).bind fun bt1333 => ((laws_heldDigestS.f k bt1333.2 1).bind fun t1335 => (if t1335 < 0 then (some false) else (if t1335 = bt1333.1 then ((laws_toDigestS.f k x1).bind fun t1336 => ((impl_PeaksAdd.f k x0 t1336 x2).bind fun bt1339 => ((laws_eqDigestS.f k bt1339.1 x8).bind fun t1343 => (if t1343 = true then (laws_FnExactPeaksAdd.j2 k bt1333.2 bt1333.1 (bt1339.2 != x9)) else (laws_FnExactPeaksAdd.j2 k bt1333.2 bt1333.1 true))))) else (some false)))))
def laws_FnExactPeaksAdd.j2 : Nat → List (S29) → Int → Bool → Option (Bool)
  | 0, _, _, _ => none
  | k + 1, x11, x14, x100 => if x100 = true then (some false) else ((laws_heldDigestS.f k x11 1).bind fun t1344 => (if t1344 < 0 then (some false) else (if t1344 = x14 then (some true) else (some false))))
end
def laws_FnExactPeaksAdd.f (k : Nat) (a0 : Int) (l1 : List (S24)) (a2 : ByteArray) : Option (Bool) := if (a2.size : Int) > 1048576 then (some true) else ((laws_szDigestS.f l1 1048576).bind fun t1310 => (if t1310 < 0 then (some true) else ((laws_toDigestS.f k l1).bind fun t1311 => ((spec_PeaksAdd.f k a0 t1311 a2).bind fun bt1314 => ((laws_toDigestS.f k l1).bind fun t1318 => ((impl_PeaksAdd.f k a0 t1318 a2).bind fun bt1321 => ((laws_eqDigestS.f k bt1321.1 bt1314.1).bind fun t1325 => (if t1325 = true then (laws_FnExactPeaksAdd.j0 k a0 l1 a2 bt1314.1 bt1314.2 t1318 bt1321.1 bt1321.2 (bt1321.2 != bt1314.2)) else (laws_FnExactPeaksAdd.j0 k a0 l1 a2 bt1314.1 bt1314.2 t1318 bt1321.1 bt1321.2 true)))))))))
theorem laws_FnExactPeaksAdd.mono_l : ∀ k, (∀ y0 y1 y2 y3 y4 y5 y6 y7 y8, LeO (laws_FnExactPeaksAdd.j0 k y0 y1 y2 y3 y4 y5 y6 y7 y8) (laws_FnExactPeaksAdd.j0 (k + 1) y0 y1 y2 y3 y4 y5 y6 y7 y8)) ∧ (∀ y0 y1 y2 y3 y4 y5 y6, LeO (laws_FnExactPeaksAdd.j1 k y0 y1 y2 y3 y4 y5 y6) (laws_FnExactPeaksAdd.j1 (k + 1) y0 y1 y2 y3 y4 y5 y6)) ∧ (∀ y0 y1 y2, LeO (laws_FnExactPeaksAdd.j2 k y0 y1 y2) (laws_FnExactPeaksAdd.j2 (k + 1) y0 y1 y2))
  | 0 => ⟨fun _ _ _ _ _ _ _ _ _ r h => by simp [laws_FnExactPeaksAdd.j0] at h, fun _ _ _ _ _ _ _ r h => by simp [laws_FnExactPeaksAdd.j1] at h, fun _ _ _ r h => by simp [laws_FnExactPeaksAdd.j2] at h⟩
  | k + 1 => by
    obtain ⟨ih0, ih1, ih2⟩ := laws_FnExactPeaksAdd.mono_l k
    refine ⟨?_, ?_, ?_⟩
    · intro y0 y1 y2 y3 y4 y5 y6 y7 y8
      unfold laws_FnExactPeaksAdd.j0
      repeat' first | (with_reducible first | exact ih0 _ _ _ _ _ _ _ _ _ | exact ih1 _ _ _ _ _ _ _ | exact ih2 _ _ _ | exact impl_PeaksAdd.mono _ _ _ _ | exact laws_eqDigestS.mono _ _ _ | exact laws_heldDigestS.mono _ _ _ | exact laws_markDigestS.mono _ _ _ | exact laws_toDigestS.mono _ _ | exact spec_PeaksAdd.mono _ _ _ _ | exact LeO.refl _ | exact LeO.none _ | refine LeO.ite ?_ ?_ | refine LeO.bind ?_ (fun _ => ?_)) | exact ih0 _ _ _ _ _ _ _ _ _ | exact ih1 _ _ _ _ _ _ _ | exact ih2 _ _ _ | exact LeO.none _ | refine LeO.ite ?_ ?_ | refine LeO.bind ?_ (fun _ => ?_)
    · intro y0 y1 y2 y3 y4 y5 y6
      unfold laws_FnExactPeaksAdd.j1
      repeat' first | (with_reducible first | exact ih0 _ _ _ _ _ _ _ _ _ | exact ih1 _ _ _ _ _ _ _ | exact ih2 _ _ _ | exact impl_PeaksAdd.mono _ _ _ _ | exact laws_eqDigestS.mono _ _ _ | exact laws_heldDigestS.mono _ _ _ | exact laws_markDigestS.mono _ _ _ | exact laws_toDigestS.mono _ _ | exact spec_PeaksAdd.mono _ _ _ _ | exact LeO.refl _ | exact LeO.none _ | refine LeO.ite ?_ ?_ | refine LeO.bind ?_ (fun _ => ?_)) | exact ih0 _ _ _ _ _ _ _ _ _ | exact ih1 _ _ _ _ _ _ _ | exact ih2 _ _ _ | exact LeO.none _ | refine LeO.ite ?_ ?_ | refine LeO.bind ?_ (fun _ => ?_)
    · intro y0 y1 y2
      unfold laws_FnExactPeaksAdd.j2
      repeat' first | (with_reducible first | exact ih0 _ _ _ _ _ _ _ _ _ | exact ih1 _ _ _ _ _ _ _ | exact ih2 _ _ _ | exact impl_PeaksAdd.mono _ _ _ _ | exact laws_eqDigestS.mono _ _ _ | exact laws_heldDigestS.mono _ _ _ | exact laws_markDigestS.mono _ _ _ | exact laws_toDigestS.mono _ _ | exact spec_PeaksAdd.mono _ _ _ _ | exact LeO.refl _ | exact LeO.none _ | refine LeO.ite ?_ ?_ | refine LeO.bind ?_ (fun _ => ?_)) | exact ih0 _ _ _ _ _ _ _ _ _ | exact ih1 _ _ _ _ _ _ _ | exact ih2 _ _ _ | exact LeO.none _ | refine LeO.ite ?_ ?_ | refine LeO.bind ?_ (fun _ => ?_)
theorem laws_FnExactPeaksAdd.mono : ∀ a0 a1 a2 k, LeO (laws_FnExactPeaksAdd.f k a0 a1 a2) (laws_FnExactPeaksAdd.f (k + 1) a0 a1 a2) := by
  intro a0 a1 a2 k
  obtain ⟨ih0, ih1, ih2⟩ := laws_FnExactPeaksAdd.mono_l k
  unfold laws_FnExactPeaksAdd.f
  repeat' first | (with_reducible first | exact ih0 _ _ _ _ _ _ _ _ _ | exact ih1 _ _ _ _ _ _ _ | exact ih2 _ _ _ | exact impl_PeaksAdd.mono _ _ _ _ | exact laws_eqDigestS.mono _ _ _ | exact laws_heldDigestS.mono _ _ _ | exact laws_markDigestS.mono _ _ _ | exact laws_toDigestS.mono _ _ | exact spec_PeaksAdd.mono _ _ _ _ | exact LeO.refl _ | exact LeO.none _ | refine LeO.ite ?_ ?_ | refine LeO.bind ?_ (fun _ => ?_)) | exact ih0 _ _ _ _ _ _ _ _ _ | exact ih1 _ _ _ _ _ _ _ | exact ih2 _ _ _ | exact LeO.none _ | refine LeO.ite ?_ ?_ | refine LeO.bind ?_ (fun _ => ?_)
set_option maxHeartbeats 8000000 in
set_option maxRecDepth 100000 in
theorem laws_FnExactPeaksAdd.calls (k : Nat) (a0 : Int) (A1 : Option Addr) (c1 : Nat) (l1 : List (S24)) (a2 : ByteArray) (r : Bool) (hr_ : r = true) (w : World) (hr1 : Kd.C k24 w A1 l1.length l1) (hc1 : l1.length ≤ c1) (h : laws_FnExactPeaksAdd.f k a0 l1 a2 = some r) :
    Calls Try.prog 10 #[.int .i64 a0, .slice A1 l1.length c1, .string a2] w fun e w' => e = .returned (.bool r) ∧ Below w.heap.size w w' := by
  have HR1 := Aside0.mk hr1
  have HC1 := Aside0.mk hc1
  clear hr1 hc1
  have HB := Aside0.mk (Below.refl w.heap.size w)
  have H : (if (a2.size : Int) > 1048576 then (some true) else ((laws_szDigestS.f l1 1048576).bind fun t1310 => (if t1310 < 0 then (some true) else ((laws_toDigestS.f k l1).bind fun t1311 => ((spec_PeaksAdd.f k a0 t1311 a2).bind fun bt1314 => ((laws_toDigestS.f k l1).bind fun t1318 => ((impl_PeaksAdd.f k a0 t1318 a2).bind fun bt1321 => ((laws_eqDigestS.f k bt1321.1 bt1314.1).bind fun t1325 => (if t1325 = true then (laws_FnExactPeaksAdd.j0 k a0 l1 a2 bt1314.1 bt1314.2 t1318 bt1321.1 bt1321.2 (bt1321.2 != bt1314.2)) else (laws_FnExactPeaksAdd.j0 k a0 l1 a2 bt1314.1 bt1314.2 t1318 bt1321.1 bt1321.2 true)))))))))) = some r := h
  clear h
  by_cases c4 : (a2.size : Int) > 1048576
  · rw [if_pos c4] at H
    have c4b0 : decide (1048576 < (a2.size : Int)) = true := decide_eq_true c4
    have c4b1 : decide (1048576 < a2.size) = true := decide_eq_true (by omega)
    clear c4
    obtain rfl := Option.some.inj H
    go_enter Try.func10, Try.ntmps10
    go_wp2
    go_ret
    exact ⟨rfl_, bel_⟩
  · rw [if_neg c4] at H
    have c4b0 : decide (1048576 < (a2.size : Int)) = false := decide_eq_false c4
    have c4b1 : decide (1048576 < a2.size) = false := decide_eq_false (by omega)
    clear c4
    obtain ⟨t1310, A5, H⟩ := bnd_ H
    by_cases c6 : t1310 < 0
    · rw [if_pos c6] at H
      have c6b0 : decide (t1310 < 0) = true := decide_eq_true c6
      clear c6
      obtain rfl := Option.some.inj H
      go_enter Try.func10, Try.ntmps10
      go_wp2_with (first | ((with_reducible refine gate_callee (f := 32) rfl ?_); refine goL_ (some 23) Try.func32 #[.slice A1 l1.length c1, .int .i64 1048576] ?_; (with_reducible refine (laws_szDigestS.calls _ _ l1 1048576 t1310 _ ?side1 ?side2 A5.out).mono ?_); (case side1 => repeat (first | exact HR1.out | (with_reducible refine Kd.C_alloc ?_ _) | (with_reducible refine Kd.C_drewN ?_ _) | (with_reducible refine Kd.C_drew ?_))); (case side2 => exact HC1.out); rintro e w' ⟨rfl, ⟨nd, rfl⟩⟩; refine ⟨_, rfl, ?_⟩))
      go_ret
      exact ⟨rfl_, bel_⟩
    · rw [if_neg c6] at H
      have c6b0 : decide (t1310 < 0) = false := decide_eq_false c6
      clear c6
      obtain ⟨t1311, A7, H⟩ := bnd_ H
      obtain ⟨⟨t1314, t1315⟩, A8, H⟩ := bnd_ H
      dsimp only at H
      obtain ⟨t1318, A9, H⟩ := bnd_ H
      obtain ⟨⟨t1321, t1322⟩, A10, H⟩ := bnd_ H
      dsimp only at H
      have HC11 := Aside0.mk H
      clear H
      go_enter Try.func10, Try.ntmps10
      go_upto_region 10 with (first | ((with_reducible refine gate_callee (f := 32) rfl ?_); refine goL_ (some 23) Try.func32 #[.slice A1 l1.length c1, .int .i64 1048576] ?_; (with_reducible refine (laws_szDigestS.calls _ _ l1 1048576 t1310 _ ?side1 ?side2 A5.out).mono ?_); (case side1 => repeat (first | exact HR1.out | (with_reducible refine Kd.C_alloc ?_ _) | (with_reducible refine Kd.C_drewN ?_ _) | (with_reducible refine Kd.C_drew ?_))); (case side2 => exact HC1.out); rintro e w' ⟨rfl, ⟨nd, rfl⟩⟩; refine ⟨_, rfl, ?_⟩) | ((with_reducible refine gate_callee (f := 35) rfl ?_); refine goL_ (some 29) Try.func35 #[.slice A1 l1.length c1] ?_; (with_reducible refine (laws_toDigestS.calls k _ _ l1 t1311 _ ?side1 ?side2 A7.out).mono ?_); (case side1 => repeat (first | exact HR1.out | (with_reducible refine Kd.C_alloc ?_ _) | (with_reducible refine Kd.C_drewN ?_ _) | (with_reducible refine Kd.C_drew ?_))); (case side2 => exact HC1.out); rintro e w12 ⟨v1312, rfl, ho0, hb⟩; refine ⟨_, rfl, ?_⟩; have HO1313 := Aside0.mk (Kd.R_lower ho0 (below_size bel_)); replace HB := stepB_ hb; (try clear hb); (try clear ho0); obtain ⟨Ao13, co13, eo13⟩ := Kd.R_slice HO1313.out; subst eo13) | ((with_reducible refine gate_callee (f := 57) rfl ?_); refine goL_ (some 31) Try.func57 #[.int .i64 a0, .slice Ao13 t1311.length co13, .string a2] ?_; (with_reducible refine (spec_PeaksAdd.calls k a0 _ _ t1311 a2 t1314 t1315 _ ?side1 ?side2 A8.out).mono ?_); (case side1 => repeat (first | exact (Kd.R_reads' HO1313.out).2.2 | (with_reducible refine Kd.C_alloc ?_ _) | (with_reducible refine Kd.C_drewN ?_ _) | (with_reducible refine Kd.C_drew ?_))); (case side2 => exact (Kd.R_reads' HO1313.out).2.1); rintro e w14 ⟨v1316, rfl, ho0, hb⟩; refine ⟨_, rfl, ?_⟩; have HO1317 := Aside0.mk (Kd.R_lower (Kd.R_new' ho0 (Kd.R_lt (kdU_ HO1313.out))) (below_size bel_)); replace HO1313 := Aside0.mk (Kd.R_elder' (kdU_ HO1313.out) (Kd.R_base ho0) hb); replace HB := stepB_ hb; (try clear hb); (try clear ho0)) | ((with_reducible refine gate_callee (f := 35) rfl ?_); refine goL_ (some 35) Try.func35 #[.slice A1 l1.length c1] ?_; (with_reducible refine (laws_toDigestS.calls k _ _ l1 t1318 _ ?side1 ?side2 A9.out).mono ?_); (case side1 => repeat (first | exact (Kd.C_below HR1.out HB.out) | (with_reducible refine Kd.C_alloc ?_ _) | (with_reducible refine Kd.C_drewN ?_ _) | (with_reducible refine Kd.C_drew ?_))); (case side2 => exact HC1.out); rintro e w15 ⟨v1319, rfl, ho0, hb⟩; refine ⟨_, rfl, ?_⟩; have HO1320 := Aside0.mk (Kd.R_lower (Kd.R_new' (Kd.R_new' ho0 (Kd.R_lt (kdU_ HO1313.out))) (Kd.R_lt (kdU_ HO1317.out))) (below_size bel_)); replace HO1313 := Aside0.mk (Kd.R_elder' (kdU_ HO1313.out) (Kd.R_base ho0) hb); replace HO1317 := Aside0.mk (Kd.R_elder' (kdU_ HO1317.out) (Kd.R_base ho0) hb); replace HB := stepB_ hb; (try clear hb); (try clear ho0); obtain ⟨Ao16, co16, eo16⟩ := Kd.R_slice HO1320.out; subst eo16) | ((with_reducible refine gate_callee (f := 58) rfl ?_); refine goL_ (some 40) Try.func58 #[.int .i64 a0, .slice Ao16 t1318.length co16, .string a2] ?_; (with_reducible refine (impl_PeaksAdd.calls k a0 _ _ t1318 a2 t1321 t1322 _ ?side1 ?side2 A10.out).mono ?_); (case side1 => repeat (first | exact (Kd.R_reads' HO1320.out).2.2 | (with_reducible refine Kd.C_alloc ?_ _) | (with_reducible refine Kd.C_drewN ?_ _) | (with_reducible refine Kd.C_drew ?_))); (case side2 => exact (Kd.R_reads' HO1320.out).2.1); rintro e w17 ⟨v1323, rfl, ho0, hb⟩; refine ⟨_, rfl, ?_⟩; have HO1324 := Aside0.mk (Kd.R_lower (Kd.R_new' (Kd.R_new' (Kd.R_new' ho0 (Kd.R_lt (kdU_ HO1313.out))) (Kd.R_lt (kdU_ HO1317.out))) (Kd.R_lt (kdU_ HO1320.out))) (below_size bel_)); replace HO1313 := Aside0.mk (Kd.R_elder' (kdU_ HO1313.out) (Kd.R_base ho0) hb); replace HO1317 := Aside0.mk (Kd.R_elder' (kdU_ HO1317.out) (Kd.R_base ho0) hb); replace HO1320 := Aside0.mk (Kd.R_elder' (kdU_ HO1320.out) (Kd.R_base ho0) hb); replace HB := stepB_ hb; (try clear hb); (try clear ho0)))
      (try simp only [Act.put, List.setIfInBounds_toArray, List.set_cons_zero, List.set_cons_succ])
      go_cut [51] (fun v51 wc => ∃ (kq : Nat) (x51_10 : Bool), v51 = .bool x51_10 ∧ Aside0 (laws_FnExactPeaksAdd.j0 kq a0 l1 a2 t1314 t1315 t1318 t1321 t1322 x51_10 = some r) ∧ Aside0 (kq ≤ k) ∧ Aside0 (Kd.R k29 29 wc w.heap.size (fun k_ => some k_ ≠ ((.slice Ao16 t1318.length co16) : Value).ownBlock ∧ some k_ ≠ (v1323 : Value).ownBlock) v1316 t1314) ∧ Aside0 (Kd.R k29 29 wc w.heap.size (fun k_ => some k_ ≠ (v1316 : Value).ownBlock ∧ some k_ ≠ (v1323 : Value).ownBlock) (.slice Ao16 t1318.length co16) t1318) ∧ Aside0 (Kd.R k29 29 wc w.heap.size (fun k_ => some k_ ≠ (v1316 : Value).ownBlock ∧ some k_ ≠ ((.slice Ao16 t1318.length co16) : Value).ownBlock) v1323 t1321) ∧ Aside0 (Below w.heap.size w wc))
      case first =>
        have H := HC11.out
        clear HC11
        obtain ⟨t1325, A18, H⟩ := bnd_ H
        by_cases c19 : t1325 = true
        · subst c19
          rw [if_pos rfl] at H
          have H' := Aside0.mk H
          clear H
          obtain ⟨Ao20, co20, eo20⟩ := Kd.R_slice HO1324.out
          subst eo20
          obtain ⟨Ao21, co21, eo21⟩ := Kd.R_slice HO1317.out
          subst eo21
          go_wp2_with (first | ((with_reducible refine gate_callee (f := 39) rfl ?_); refine goL_ (some 45) Try.func39 #[.slice Ao20 t1321.length co20, .slice Ao21 t1314.length co21] ?_; (with_reducible refine (laws_eqDigestS.calls k _ _ t1321 _ _ t1314 true _ ?side1 ?side2 ?side3 ?side4 A18.out).mono ?_); (case side1 => repeat (first | exact (Kd.R_reads' HO1324.out).2.2 | (with_reducible refine Kd.C_alloc ?_ _) | (with_reducible refine Kd.C_drewN ?_ _) | (with_reducible refine Kd.C_drew ?_))); (case side2 => exact (Kd.R_reads' HO1324.out).2.1); (case side3 => repeat (first | exact (Kd.R_reads' HO1317.out).2.2 | (with_reducible refine Kd.C_alloc ?_ _) | (with_reducible refine Kd.C_drewN ?_ _) | (with_reducible refine Kd.C_drew ?_))); (case side4 => exact (Kd.R_reads' HO1317.out).2.1); rintro e w22 ⟨rfl, hb⟩; refine ⟨_, rfl, ?_⟩; replace HO1313 := Aside0.mk (Kd.R_below (kdU_ HO1313.out) hb); replace HO1317 := Aside0.mk (Kd.R_below (kdU_ HO1317.out) hb); replace HO1320 := Aside0.mk (Kd.R_below (kdU_ HO1320.out) hb); replace HO1324 := Aside0.mk (Kd.R_below (kdU_ HO1324.out) hb); replace HB := stepB_ hb; (try clear hb)))
          go_meet
          case rel => exact ⟨_, ((t1322 != t1315)), (by first | rfl | (simp; done) | (simp [*]; done)), H', ⟨by first | omega | exact Nat.le_refl _⟩, ⟨by (with_reducible repeat (first | apply Kd.R_alloc | apply Kd.R_drewN | apply Kd.R_drew)); exact Kd.R_mono HO1317.out (fun _ hk => ⟨hk.1.2, hk.2⟩)⟩, ⟨by (with_reducible repeat (first | apply Kd.R_alloc | apply Kd.R_drewN | apply Kd.R_drew)); exact Kd.R_mono HO1320.out (fun _ hk => ⟨hk.1.2, hk.2⟩)⟩, ⟨by (with_reducible repeat (first | apply Kd.R_alloc | apply Kd.R_drewN | apply Kd.R_drew)); exact Kd.R_mono HO1324.out (fun _ hk => ⟨hk.1.2, hk.2⟩)⟩, ⟨bel_⟩⟩
        · replace c19 := Bool.eq_false_iff.mpr c19
          subst c19
          rw [if_neg (show ¬ (false = true) by decide)] at H
          have H' := Aside0.mk H
          clear H
          obtain ⟨Ao23, co23, eo23⟩ := Kd.R_slice HO1324.out
          subst eo23
          obtain ⟨Ao24, co24, eo24⟩ := Kd.R_slice HO1317.out
          subst eo24
          go_wp2_with (first | ((with_reducible refine gate_callee (f := 39) rfl ?_); refine goL_ (some 45) Try.func39 #[.slice Ao23 t1321.length co23, .slice Ao24 t1314.length co24] ?_; (with_reducible refine (laws_eqDigestS.calls k _ _ t1321 _ _ t1314 false _ ?side1 ?side2 ?side3 ?side4 A18.out).mono ?_); (case side1 => repeat (first | exact (Kd.R_reads' HO1324.out).2.2 | (with_reducible refine Kd.C_alloc ?_ _) | (with_reducible refine Kd.C_drewN ?_ _) | (with_reducible refine Kd.C_drew ?_))); (case side2 => exact (Kd.R_reads' HO1324.out).2.1); (case side3 => repeat (first | exact (Kd.R_reads' HO1317.out).2.2 | (with_reducible refine Kd.C_alloc ?_ _) | (with_reducible refine Kd.C_drewN ?_ _) | (with_reducible refine Kd.C_drew ?_))); (case side4 => exact (Kd.R_reads' HO1317.out).2.1); rintro e w25 ⟨rfl, hb⟩; refine ⟨_, rfl, ?_⟩; replace HO1313 := Aside0.mk (Kd.R_below (kdU_ HO1313.out) hb); replace HO1317 := Aside0.mk (Kd.R_below (kdU_ HO1317.out) hb); replace HO1320 := Aside0.mk (Kd.R_below (kdU_ HO1320.out) hb); replace HO1324 := Aside0.mk (Kd.R_below (kdU_ HO1324.out) hb); replace HB := stepB_ hb; (try clear hb); (try clear hk)))
          go_meet
          case rel => exact ⟨_, (true), (by first | rfl | (simp; done) | (simp [*]; done)), H', ⟨by first | omega | exact Nat.le_refl _⟩, ⟨by (with_reducible repeat (first | apply Kd.R_alloc | apply Kd.R_drewN | apply Kd.R_drew)); exact Kd.R_mono HO1317.out (fun _ hk => ⟨hk.1.2, hk.2⟩)⟩, ⟨by (with_reducible repeat (first | apply Kd.R_alloc | apply Kd.R_drewN | apply Kd.R_drew)); exact Kd.R_mono HO1320.out (fun _ hk => ⟨hk.1.2, hk.2⟩)⟩, ⟨by (with_reducible repeat (first | apply Kd.R_alloc | apply Kd.R_drewN | apply Kd.R_drew)); exact Kd.R_mono HO1324.out (fun _ hk => ⟨hk.1.2, hk.2⟩)⟩, ⟨bel_⟩⟩
      case rest =>
        clear HC11
        (try clear c1); (try clear c4); (try clear c4b0); (try clear c4b1); (try clear c6); (try clear c6b0); (try clear c19)
        obtain ⟨kq, x51_10, rfl, HA, HJ10, HO_8, HO_10, HO_11, HB⟩ := hcut
        cases kq with
        | zero => exact absurd HA.out (by simp [laws_FnExactPeaksAdd.j0])
        | succ kj10 =>
          have H := HA.out
          clear HA
          simp only [laws_FnExactPeaksAdd.j0] at H
          by_cases c26 : x51_10 = true
          · subst c26
            rw [if_pos rfl] at H
            exact absurd ((Option.some.inj H).trans hr_) (by decide)
          · replace c26 := Bool.eq_false_iff.mpr c26
            subst c26
            rw [if_neg (show ¬ (false = true) by decide)] at H
            obtain ⟨t1326, A27, H⟩ := bnd_ H
            obtain ⟨t1329, A28, H⟩ := bnd_ H
            by_cases c29 : t1329 = true
            · subst c29
              rw [if_pos rfl] at H
              obtain ⟨⟨t1330, t1331⟩, A30, H⟩ := bnd_ H
              dsimp only at H
              have HC31 := Aside0.mk H
              clear H
              go_upto_region 16 with (first | ((with_reducible refine gate_callee (f := 35) rfl ?_); refine goL_ (some 54) Try.func35 #[.slice A1 l1.length c1] ?_; (with_reducible refine (laws_toDigestS.calls kj10 _ _ l1 t1326 _ ?side1 ?side2 A27.out).mono ?_); (case side1 => repeat (first | exact (Kd.C_below HR1.out HB.out) | (with_reducible refine Kd.C_alloc ?_ _) | (with_reducible refine Kd.C_drewN ?_ _) | (with_reducible refine Kd.C_drew ?_))); (case side2 => exact HC1.out); rintro e w32 ⟨v1327, rfl, ho0, hb⟩; refine ⟨_, rfl, ?_⟩; have HO1328 := Aside0.mk (Kd.R_lower (Kd.R_new' (Kd.R_new' (Kd.R_new' ho0 (Kd.R_lt (kdU_ HO_8.out))) (Kd.R_lt (kdU_ HO_10.out))) (Kd.R_lt (kdU_ HO_11.out))) (below_size bel_)); replace HO_8 := Aside0.mk (Kd.R_elder' (kdU_ HO_8.out) (Kd.R_base ho0) hb); replace HO_10 := Aside0.mk (Kd.R_elder' (kdU_ HO_10.out) (Kd.R_base ho0) hb); replace HO_11 := Aside0.mk (Kd.R_elder' (kdU_ HO_11.out) (Kd.R_base ho0) hb); replace HB := stepB_ hb; (try clear hb); (try clear hk); (try clear ho0); obtain ⟨Ao33, co33, eo33⟩ := Kd.R_slice HO1328.out; subst eo33) | ((with_reducible refine gate_callee (f := 39) rfl ?_); refine goL_ (some 55) Try.func39 #[.slice Ao16 t1318.length co16, .slice Ao33 t1326.length co33] ?_; (with_reducible refine (laws_eqDigestS.calls kj10 _ _ t1318 _ _ t1326 true _ ?side1 ?side2 ?side3 ?side4 A28.out).mono ?_); (case side1 => repeat (first | exact (Kd.R_reads' HO_10.out).2.2 | (with_reducible refine Kd.C_alloc ?_ _) | (with_reducible refine Kd.C_drewN ?_ _) | (with_reducible refine Kd.C_drew ?_))); (case side2 => exact (Kd.R_reads' HO_10.out).2.1); (case side3 => repeat (first | exact (Kd.R_reads' HO1328.out).2.2 | (with_reducible refine Kd.C_alloc ?_ _) | (with_reducible refine Kd.C_drewN ?_ _) | (with_reducible refine Kd.C_drew ?_))); (case side4 => exact (Kd.R_reads' HO1328.out).2.1); rintro e w34 ⟨rfl, hb⟩; refine ⟨_, rfl, ?_⟩; replace HO_8 := Aside0.mk (Kd.R_below (kdU_ HO_8.out) hb); replace HO_10 := Aside0.mk (Kd.R_below (kdU_ HO_10.out) hb); replace HO_11 := Aside0.mk (Kd.R_below (kdU_ HO_11.out) hb); replace HO1328 := Aside0.mk (Kd.R_below (kdU_ HO1328.out) hb); replace HB := stepB_ hb; (try clear hb); (try clear hk)) | ((with_reducible refine gate_callee (f := 59) rfl ?_); refine goL_ (some 59) Try.func59 #[.slice Ao16 t1318.length co16, .int .i64 1] ?_; (with_reducible refine (laws_markDigestS.calls kj10 (fun k_ => some k_ = (.slice Ao16 t1318.length co16 : Value).ownBlock) (.slice Ao16 t1318.length co16) t1318 1 t1330 t1331 w _ ?side1 ?side2 A30.out).mono ?_); (case side1 => exact bel_); (case side2 => exact Kd.R_tight rfl HO_10.out); rintro e w35 ⟨rfl, hy0, hb, hkp⟩; refine ⟨_, rfl, ?_⟩; replace HO_8 := Aside0.mk (Kd.R_mono (ok' := fun k_ => some k_ ≠ (.slice Ao16 t1318.length co16 : Value).ownBlock ∧ some k_ ≠ (v1323 : Value).ownBlock ∧ some k_ ≠ (.slice Ao33 t1326.length co33 : Value).ownBlock) (Kd.R_keptB (HO_8.out) hkp (fun k_ hk_ hs_ => (hk_.1.1) hs_)) (fun k_ hk_ => ⟨hk_.1.1.1, hk_.1.1.2, hk_.1.2⟩)); replace HO_10 := Aside0.mk (Kd.R_reok rfl hy0 (fun k_ e_ => HO_10.out.1 k_ e_)); replace HO_11 := Aside0.mk (Kd.R_mono (ok' := fun k_ => some k_ ≠ (v1316 : Value).ownBlock ∧ some k_ ≠ (.slice Ao16 t1318.length co16 : Value).ownBlock ∧ some k_ ≠ (.slice Ao33 t1326.length co33 : Value).ownBlock) (Kd.R_keptB (HO_11.out) hkp (fun k_ hk_ hs_ => (hk_.1.2) hs_)) (fun k_ hk_ => ⟨hk_.1.1.1, hk_.1.1.2, hk_.1.2⟩)); replace HO1328 := Aside0.mk (Kd.R_mono (ok' := fun k_ => some k_ ≠ (v1316 : Value).ownBlock ∧ some k_ ≠ (.slice Ao16 t1318.length co16 : Value).ownBlock ∧ some k_ ≠ (v1323 : Value).ownBlock) (Kd.R_keptB (HO1328.out) hkp (fun k_ hk_ hs_ => (hk_.1.2) hs_)) (fun k_ hk_ => ⟨hk_.1.1.1.2, hk_.1.1.2, hk_.1.2⟩)); replace HB := Aside0.mk (hb); (try clear hb); (try clear hkp); (try clear hy0)))
              (try simp only [Act.put, List.setIfInBounds_toArray, List.set_cons_zero, List.set_cons_succ])
              go_cut [72] (fun v72 wc => ∃ (kq : Nat) (x72_30 : Bool), v72 = .bool x72_30 ∧ Aside0 (laws_FnExactPeaksAdd.j1 kq a0 l1 a2 t1314 t1315 t1321 x72_30 = some r) ∧ Aside0 (kq ≤ kj10) ∧ Aside0 (Kd.R k29 29 wc w.heap.size (fun k_ => some k_ ≠ (v1323 : Value).ownBlock) v1316 t1314) ∧ Aside0 (Kd.R k29 29 wc w.heap.size (fun k_ => some k_ ≠ (v1316 : Value).ownBlock) v1323 t1321) ∧ Aside0 (Below w.heap.size w wc))
              case first =>
                have H := HC31.out
                clear HC31
                by_cases c36 : t1330 < 0
                · rw [if_pos c36] at H
                  have c36b0 : decide (t1330 < 0) = true := decide_eq_true c36
                  clear c36
                  (first | rw [c36b0] | (simp only [i64_w, i32_w]; rw [c36b0]) | skip)
                  have H' := Aside0.mk H
                  clear H
                  go_wp2
                  go_meet
                  case rel => exact ⟨_, (true), (by first | rfl | (simp; done) | (simp [*]; done)), H', ⟨by have := HJ10.out; first | omega | exact Nat.le_refl _⟩, ⟨by (with_reducible repeat (first | apply Kd.R_alloc | apply Kd.R_drewN | apply Kd.R_drew)); exact Kd.R_mono HO_8.out (fun _ hk => hk.2.1)⟩, ⟨by (with_reducible repeat (first | apply Kd.R_alloc | apply Kd.R_drewN | apply Kd.R_drew)); exact Kd.R_mono HO_11.out (fun _ hk => hk.1)⟩, ⟨bel_⟩⟩
                · rw [if_neg c36] at H
                  have c36b0 : decide (t1330 < 0) = false := decide_eq_false c36
                  clear c36
                  (first | rw [c36b0] | (simp only [i64_w, i32_w]; rw [c36b0]) | skip)
                  obtain ⟨t1332, A37, H⟩ := bnd_ H
                  by_cases c38 : t1332 = true
                  · subst c38
                    rw [if_pos rfl] at H
                    have H' := Aside0.mk H
                    clear H
                    obtain ⟨Ao39, co39, eo39⟩ := Kd.R_slice HO_11.out
                    subst eo39
                    obtain ⟨Ao40, co40, eo40⟩ := Kd.R_slice HO_8.out
                    subst eo40
                    go_wp2_with (first | (go_at_call 39; (with_reducible refine (laws_eqDigestS.calls kj10 _ _ t1321 _ _ t1314 true _ ?side1 ?side2 ?side3 ?side4 A37.out).mono ?_); (case side1 => repeat (first | exact (Kd.R_reads' HO_11.out).2.2 | (with_reducible refine Kd.C_alloc ?_ _) | (with_reducible refine Kd.C_drewN ?_ _) | (with_reducible refine Kd.C_drew ?_))); (case side2 => exact (Kd.R_reads' HO_11.out).2.1); (case side3 => repeat (first | exact (Kd.R_reads' HO_8.out).2.2 | (with_reducible refine Kd.C_alloc ?_ _) | (with_reducible refine Kd.C_drewN ?_ _) | (with_reducible refine Kd.C_drew ?_))); (case side4 => exact (Kd.R_reads' HO_8.out).2.1); rintro e w41 ⟨rfl, hb⟩; replace HO_8 := Aside0.mk (Kd.R_below (kdU_ HO_8.out) hb); replace HO_10 := Aside0.mk (Kd.R_below (kdU_ HO_10.out) hb); replace HO_11 := Aside0.mk (Kd.R_below (kdU_ HO_11.out) hb); replace HO1328 := Aside0.mk (Kd.R_below (kdU_ HO1328.out) hb); replace HB := stepB_ hb; (try clear hb); (try clear hk)))
                    go_meet
                    case rel => exact ⟨_, ((t1322 != t1315)), (by first | rfl | (simp; done) | (simp [*]; done)), H', ⟨by have := HJ10.out; first | omega | exact Nat.le_refl _⟩, ⟨by (with_reducible repeat (first | apply Kd.R_alloc | apply Kd.R_drewN | apply Kd.R_drew)); exact Kd.R_mono HO_8.out (fun _ hk => hk.2.1)⟩, ⟨by (with_reducible repeat (first | apply Kd.R_alloc | apply Kd.R_drewN | apply Kd.R_drew)); exact Kd.R_mono HO_11.out (fun _ hk => hk.1)⟩, ⟨bel_⟩⟩
                  · replace c38 := Bool.eq_false_iff.mpr c38
                    subst c38
                    rw [if_neg (show ¬ (false = true) by decide)] at H
                    have H' := Aside0.mk H
                    clear H
                    obtain ⟨Ao42, co42, eo42⟩ := Kd.R_slice HO_11.out
                    subst eo42
                    obtain ⟨Ao43, co43, eo43⟩ := Kd.R_slice HO_8.out
                    subst eo43
                    go_wp2_with (first | (go_at_call 39; (with_reducible refine (laws_eqDigestS.calls kj10 _ _ t1321 _ _ t1314 false _ ?side1 ?side2 ?side3 ?side4 A37.out).mono ?_); (case side1 => repeat (first | exact (Kd.R_reads' HO_11.out).2.2 | (with_reducible refine Kd.C_alloc ?_ _) | (with_reducible refine Kd.C_drewN ?_ _) | (with_reducible refine Kd.C_drew ?_))); (case side2 => exact (Kd.R_reads' HO_11.out).2.1); (case side3 => repeat (first | exact (Kd.R_reads' HO_8.out).2.2 | (with_reducible refine Kd.C_alloc ?_ _) | (with_reducible refine Kd.C_drewN ?_ _) | (with_reducible refine Kd.C_drew ?_))); (case side4 => exact (Kd.R_reads' HO_8.out).2.1); rintro e w44 ⟨rfl, hb⟩; replace HO_8 := Aside0.mk (Kd.R_below (kdU_ HO_8.out) hb); replace HO_10 := Aside0.mk (Kd.R_below (kdU_ HO_10.out) hb); replace HO_11 := Aside0.mk (Kd.R_below (kdU_ HO_11.out) hb); replace HO1328 := Aside0.mk (Kd.R_below (kdU_ HO1328.out) hb); replace HB := stepB_ hb; (try clear hb); (try clear hk)))
                    go_meet
                    case rel => exact ⟨_, (true), (by first | rfl | (simp; done) | (simp [*]; done)), H', ⟨by have := HJ10.out; first | omega | exact Nat.le_refl _⟩, ⟨by (with_reducible repeat (first | apply Kd.R_alloc | apply Kd.R_drewN | apply Kd.R_drew)); exact Kd.R_mono HO_8.out (fun _ hk => hk.2.1)⟩, ⟨by (with_reducible repeat (first | apply Kd.R_alloc | apply Kd.R_drewN | apply Kd.R_drew)); exact Kd.R_mono HO_11.out (fun _ hk => hk.1)⟩, ⟨bel_⟩⟩
              case rest =>
                clear HC31
                (try clear c1); (try clear c4); (try clear c4b0); (try clear c4b1); (try clear c6); (try clear c6b0); (try clear c19); (try clear c26); (try clear c29); (try clear c36); (try clear c36b0); (try clear c38)
                obtain ⟨kq, x72_30, rfl, HA, HJ30, HO_8, HO_11, HB⟩ := hcut
                cases kq with
                | zero => exact absurd HA.out (by simp [laws_FnExactPeaksAdd.j1])
                | succ kj30 =>
                  have H := HA.out
                  clear HA
                  simp only [laws_FnExactPeaksAdd.j1] at H
                  by_cases c45 : x72_30 = true
                  · subst c45
                    rw [if_pos rfl] at H
                    exact absurd ((Option.some.inj H).trans hr_) (by decide)
                  · replace c45 := Bool.eq_false_iff.mpr c45
                    subst c45
                    rw [if_neg (show ¬ (false = true) by decide)] at H
                    obtain ⟨⟨t1333, t1334⟩, A46, H⟩ := bnd_ H
                    dsimp only at H
                    obtain ⟨t1335, A47, H⟩ := bnd_ H
                    by_cases c48 : t1335 < 0
                    · rw [if_pos c48] at H
                      have c48b0 : decide (t1335 < 0) = true := decide_eq_true c48
                      clear c48
                      exact absurd ((Option.some.inj H).trans hr_) (by decide)
                    · rw [if_neg c48] at H
                      have c48b0 : decide (t1335 < 0) = false := decide_eq_false c48
                      clear c48
                      by_cases c49 : t1335 = t1333
                      · rw [if_pos c49] at H
                        have c49b0 : (t1335 == t1333) = true := beq_iff_eq.mpr c49
                        have c49b1 : (t1335 != t1333) = false := bne_eq_false_iff_eq.mpr c49
                        clear c49
                        obtain ⟨t1336, A50, H⟩ := bnd_ H
                        obtain ⟨⟨t1339, t1340⟩, A51, H⟩ := bnd_ H
                        dsimp only at H
                        have HC52 := Aside0.mk H
                        clear H
                        obtain ⟨Ao53, co53, eo53⟩ := Kd.R_slice HO_11.out
                        subst eo53
                        go_upto_region 27 with (first | ((with_reducible refine gate_callee (f := 59) rfl ?_); refine goL_ (some 75) Try.func59 #[.slice Ao53 t1321.length co53, .int .i64 1] ?_; (with_reducible refine (laws_markDigestS.calls kj30 (fun k_ => some k_ = (.slice Ao53 t1321.length co53 : Value).ownBlock) (.slice Ao53 t1321.length co53) t1321 1 t1333 t1334 w _ ?side1 ?side2 A46.out).mono ?_); (case side1 => exact bel_); (case side2 => exact Kd.R_tight rfl HO_11.out); rintro e w54 ⟨rfl, hy0, hb, hkp⟩; refine ⟨_, rfl, ?_⟩; replace HO_8 := Aside0.mk (Kd.R_mono (ok' := fun k_ => some k_ ≠ (.slice Ao53 t1321.length co53 : Value).ownBlock) (Kd.R_keptB (HO_8.out) hkp (fun k_ hk_ hs_ => (hk_) hs_)) (fun k_ hk_ => hk_.1)); replace HO_11 := Aside0.mk (Kd.R_reok rfl hy0 (fun k_ e_ => HO_11.out.1 k_ e_)); replace HB := Aside0.mk (hb); (try clear hb); (try clear hkp); (try clear hy0)) | ((with_reducible refine gate_callee (f := 60) rfl ?_); refine goesL_ (some 78) rfl rfl Try.func60 (by kernel_rfl) rfl #[.slice Ao53 t1334.length co53, .int .i64 1] rfl (by (try simp only [List.map_toArray, List.map_cons, List.map_nil]); first | done | (rw [show t1334.length = t1321.length from (Kd.R_reads' HO_11.out).1.symm] <;> rfl) | rfl | (simp only [List.length_drop, List.length_take]; rfl)) ?_; (with_reducible refine (laws_heldDigestS.calls kj30 _ _ t1334 1 t1335 _ ?side1 ?side2 A47.out).mono ?_); (case side1 => repeat (first | exact (Kd.R_reads' HO_11.out).2.2 | (with_reducible refine Kd.C_alloc ?_ _) | (with_reducible refine Kd.C_drewN ?_ _) | (with_reducible refine Kd.C_drew ?_))); (case side2 => rw [show t1334.length = t1321.length from (Kd.R_reads' HO_11.out).1.symm]; exact (Kd.R_reads' HO_11.out).2.1); rintro e w' ⟨rfl, ⟨nd, rfl⟩⟩; refine ⟨_, rfl, ?_⟩) | ((with_reducible refine gate_callee (f := 35) rfl ?_); refine goL_ (some 87) Try.func35 #[.slice A1 l1.length c1] ?_; (with_reducible refine (laws_toDigestS.calls kj30 _ _ l1 t1336 _ ?side1 ?side2 A50.out).mono ?_); (case side1 => repeat (first | exact (Kd.C_below HR1.out bel_) | (with_reducible refine Kd.C_alloc ?_ _) | (with_reducible refine Kd.C_drewN ?_ _) | (with_reducible refine Kd.C_drew ?_))); (case side2 => exact HC1.out); rintro e w55 ⟨v1337, rfl, ho0, hb⟩; refine ⟨_, rfl, ?_⟩; have HO1338 := Aside0.mk (Kd.R_lower (Kd.R_new' (Kd.R_new' ho0 (Kd.R_lt (kdU_ HO_8.out))) (Kd.R_lt (kdU_ HO_11.out))) (below_size bel_)); replace HO_8 := Aside0.mk (Kd.R_elder' (kdU_ HO_8.out) (Kd.R_base ho0) hb); replace HO_11 := Aside0.mk (Kd.R_elder' (kdU_ HO_11.out) (Kd.R_base ho0) hb); replace HB := stepB_ hb; (try clear hb); (try clear hk); (try clear ho0); obtain ⟨Ao56, co56, eo56⟩ := Kd.R_slice HO1338.out; subst eo56) | ((with_reducible refine gate_callee (f := 58) rfl ?_); refine goL_ (some 89) Try.func58 #[.int .i64 a0, .slice Ao56 t1336.length co56, .string a2] ?_; (with_reducible refine (impl_PeaksAdd.calls kj30 a0 _ _ t1336 a2 t1339 t1340 _ ?side1 ?side2 A51.out).mono ?_); (case side1 => repeat (first | exact (Kd.R_reads' HO1338.out).2.2 | (with_reducible refine Kd.C_alloc ?_ _) | (with_reducible refine Kd.C_drewN ?_ _) | (with_reducible refine Kd.C_drew ?_))); (case side2 => exact (Kd.R_reads' HO1338.out).2.1); rintro e w57 ⟨v1341, rfl, ho0, hb⟩; refine ⟨_, rfl, ?_⟩; have HO1342 := Aside0.mk (Kd.R_lower (Kd.R_new' (Kd.R_new' (Kd.R_new' ho0 (Kd.R_lt (kdU_ HO_8.out))) (Kd.R_lt (kdU_ HO_11.out))) (Kd.R_lt (kdU_ HO1338.out))) (below_size bel_)); replace HO_8 := Aside0.mk (Kd.R_elder' (kdU_ HO_8.out) (Kd.R_base ho0) hb); replace HO_11 := Aside0.mk (Kd.R_elder' (kdU_ HO_11.out) (Kd.R_base ho0) hb); replace HO1338 := Aside0.mk (Kd.R_elder' (kdU_ HO1338.out) (Kd.R_base ho0) hb); replace HB := stepB_ hb; (try clear hb); (try clear hk); (try clear ho0)))
                        (try simp only [Act.put, List.setIfInBounds_toArray, List.set_cons_zero, List.set_cons_succ])
                        go_cut [100] (fun v100 wc => ∃ (kq : Nat) (x100_51 : Bool), v100 = .bool x100_51 ∧ Aside0 (laws_FnExactPeaksAdd.j2 kq t1334 t1333 x100_51 = some r) ∧ Aside0 (kq ≤ kj30) ∧ Aside0 (Kd.R k29 29 wc w.heap.size (fun _ => True) (.slice Ao53 t1321.length co53) t1334) ∧ Aside0 (Below w.heap.size w wc))
                        case first =>
                          have H := HC52.out
                          clear HC52
                          obtain ⟨t1343, A58, H⟩ := bnd_ H
                          by_cases c59 : t1343 = true
                          · subst c59
                            rw [if_pos rfl] at H
                            have H' := Aside0.mk H
                            clear H
                            obtain ⟨Ao60, co60, eo60⟩ := Kd.R_slice HO1342.out
                            subst eo60
                            obtain ⟨Ao61, co61, eo61⟩ := Kd.R_slice HO_8.out
                            subst eo61
                            go_wp2_with (first | ((with_reducible refine gate_callee (f := 39) rfl ?_); refine goL_ (some 94) Try.func39 #[.slice Ao60 t1339.length co60, .slice Ao61 t1314.length co61] ?_; (with_reducible refine (laws_eqDigestS.calls kj30 _ _ t1339 _ _ t1314 true _ ?side1 ?side2 ?side3 ?side4 A58.out).mono ?_); (case side1 => repeat (first | exact (Kd.R_reads' HO1342.out).2.2 | (with_reducible refine Kd.C_alloc ?_ _) | (with_reducible refine Kd.C_drewN ?_ _) | (with_reducible refine Kd.C_drew ?_))); (case side2 => exact (Kd.R_reads' HO1342.out).2.1); (case side3 => repeat (first | exact (Kd.R_reads' HO_8.out).2.2 | (with_reducible refine Kd.C_alloc ?_ _) | (with_reducible refine Kd.C_drewN ?_ _) | (with_reducible refine Kd.C_drew ?_))); (case side4 => exact (Kd.R_reads' HO_8.out).2.1); rintro e w62 ⟨rfl, hb⟩; refine ⟨_, rfl, ?_⟩; replace HO_8 := Aside0.mk (Kd.R_below (kdU_ HO_8.out) hb); replace HO_11 := Aside0.mk (Kd.R_below (kdU_ HO_11.out) hb); replace HO1338 := Aside0.mk (Kd.R_below (kdU_ HO1338.out) hb); replace HO1342 := Aside0.mk (Kd.R_below (kdU_ HO1342.out) hb); replace HB := stepB_ hb; (try clear hb); (try clear hk)))
                            go_meet
                            case rel => exact ⟨_, ((t1340 != t1315)), (by first | rfl | (simp; done) | (simp [*]; done)), H', ⟨by have := HJ10.out; have := HJ30.out; first | omega | exact Nat.le_refl _⟩, ⟨by (with_reducible repeat (first | apply Kd.R_alloc | apply Kd.R_drewN | apply Kd.R_drew)); exact Kd.R_mono HO_11.out (fun _ hk => trivial)⟩, ⟨bel_⟩⟩
                          · replace c59 := Bool.eq_false_iff.mpr c59
                            subst c59
                            rw [if_neg (show ¬ (false = true) by decide)] at H
                            have H' := Aside0.mk H
                            clear H
                            obtain ⟨Ao63, co63, eo63⟩ := Kd.R_slice HO1342.out
                            subst eo63
                            obtain ⟨Ao64, co64, eo64⟩ := Kd.R_slice HO_8.out
                            subst eo64
                            go_wp2_with (first | ((with_reducible refine gate_callee (f := 39) rfl ?_); refine goL_ (some 94) Try.func39 #[.slice Ao63 t1339.length co63, .slice Ao64 t1314.length co64] ?_; (with_reducible refine (laws_eqDigestS.calls kj30 _ _ t1339 _ _ t1314 false _ ?side1 ?side2 ?side3 ?side4 A58.out).mono ?_); (case side1 => repeat (first | exact (Kd.R_reads' HO1342.out).2.2 | (with_reducible refine Kd.C_alloc ?_ _) | (with_reducible refine Kd.C_drewN ?_ _) | (with_reducible refine Kd.C_drew ?_))); (case side2 => exact (Kd.R_reads' HO1342.out).2.1); (case side3 => repeat (first | exact (Kd.R_reads' HO_8.out).2.2 | (with_reducible refine Kd.C_alloc ?_ _) | (with_reducible refine Kd.C_drewN ?_ _) | (with_reducible refine Kd.C_drew ?_))); (case side4 => exact (Kd.R_reads' HO_8.out).2.1); rintro e w65 ⟨rfl, hb⟩; refine ⟨_, rfl, ?_⟩; replace HO_8 := Aside0.mk (Kd.R_below (kdU_ HO_8.out) hb); replace HO_11 := Aside0.mk (Kd.R_below (kdU_ HO_11.out) hb); replace HO1338 := Aside0.mk (Kd.R_below (kdU_ HO1338.out) hb); replace HO1342 := Aside0.mk (Kd.R_below (kdU_ HO1342.out) hb); replace HB := stepB_ hb; (try clear hb); (try clear hk)))
                            go_meet
                            case rel => exact ⟨_, (true), (by first | rfl | (simp; done) | (simp [*]; done)), H', ⟨by have := HJ10.out; have := HJ30.out; first | omega | exact Nat.le_refl _⟩, ⟨by (with_reducible repeat (first | apply Kd.R_alloc | apply Kd.R_drewN | apply Kd.R_drew)); exact Kd.R_mono HO_11.out (fun _ hk => trivial)⟩, ⟨bel_⟩⟩
                        case rest =>
                          clear HC52
                          (try clear c1); (try clear c4); (try clear c4b0); (try clear c4b1); (try clear c6); (try clear c6b0); (try clear c19); (try clear c26); (try clear c29); (try clear c36); (try clear c36b0); (try clear c38); (try clear c45); (try clear c48); (try clear c48b0); (try clear c49); (try clear c49b0); (try clear c49b1); (try clear c59)
                          obtain ⟨kq, x100_51, rfl, HA, HJ51, HO_11, HB⟩ := hcut
                          have hl11_51 := (Kd.R_reads' HO_11.out).1
                          rw [hl11_51] at HO_11
                          (try simp only [hl11_51])
                          cases kq with
                          | zero => exact absurd HA.out (by simp [laws_FnExactPeaksAdd.j2])
                          | succ kj51 =>
                            have H := HA.out
                            clear HA
                            simp only [laws_FnExactPeaksAdd.j2] at H
                            by_cases c66 : x100_51 = true
                            · subst c66
                              rw [if_pos rfl] at H
                              exact absurd ((Option.some.inj H).trans hr_) (by decide)
                            · replace c66 := Bool.eq_false_iff.mpr c66
                              subst c66
                              rw [if_neg (show ¬ (false = true) by decide)] at H
                              obtain ⟨t1344, A67, H⟩ := bnd_ H
                              by_cases c68 : t1344 < 0
                              · rw [if_pos c68] at H
                                have c68b0 : decide (t1344 < 0) = true := decide_eq_true c68
                                clear c68
                                exact absurd ((Option.some.inj H).trans hr_) (by decide)
                              · rw [if_neg c68] at H
                                have c68b0 : decide (t1344 < 0) = false := decide_eq_false c68
                                clear c68
                                by_cases c69 : t1344 = t1333
                                · rw [if_pos c69] at H
                                  have c69b0 : (t1344 == t1333) = true := beq_iff_eq.mpr c69
                                  have c69b1 : (t1344 != t1333) = false := bne_eq_false_iff_eq.mpr c69
                                  clear c69
                                  obtain rfl := Option.some.inj H
                                  go_wp2_with (first | ((with_reducible refine gate_callee (f := 60) rfl ?_); refine goL_ (some 103) Try.func60 #[.slice Ao53 t1334.length co53, .int .i64 1] ?_; (with_reducible refine (laws_heldDigestS.calls kj51 _ _ t1334 1 t1344 _ ?side1 ?side2 A67.out).mono ?_); (case side1 => repeat (first | exact (Kd.R_reads' HO_11.out).2.2 | (with_reducible refine Kd.C_alloc ?_ _) | (with_reducible refine Kd.C_drewN ?_ _) | (with_reducible refine Kd.C_drew ?_))); (case side2 => exact (Kd.R_reads' HO_11.out).2.1); rintro e w' ⟨rfl, ⟨nd, rfl⟩⟩; refine ⟨_, rfl, ?_⟩))
                                  go_ret
                                  exact ⟨rfl_, bel_⟩
                                · rw [if_neg c69] at H
                                  have c69b0 : (t1344 == t1333) = false := beq_eq_false_iff_ne.mpr c69
                                  have c69b1 : (t1344 != t1333) = true := bne_iff_ne.mpr c69
                                  exact absurd ((Option.some.inj H).trans hr_) (by decide)
                      · rw [if_neg c49] at H
                        have c49b0 : (t1335 == t1333) = false := beq_eq_false_iff_ne.mpr c49
                        have c49b1 : (t1335 != t1333) = true := bne_iff_ne.mpr c49
                        exact absurd ((Option.some.inj H).trans hr_) (by decide)
            · replace c29 := Bool.eq_false_iff.mpr c29
              subst c29
              rw [if_neg (show ¬ (false = true) by decide)] at H
              exact absurd ((Option.some.inj H).trans hr_) (by decide)

end
end Go.Proofs.Ytemfciflhbhobaa.B
