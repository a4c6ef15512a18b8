/- What the Go functions loop.example/belfry/laws.FnExactTreePeaks do is what the Lean functions .f of their names here say; condition: .f gives an answer. (Written by the session's program pp.py over the kit's print; Lean checks it.) -/
import Derived.Test.YtemfciflhbhobaaK
import Derived.Test.YtemfciflhbhobaaM
import Derived.Test.YtemfciflhbhobaaGLawD1
import Derived.Test.YtemfciflhbhobaaGLawMD1
import Derived.Test.YtemfciflhbhobaaGLawMS1
import Derived.Test.YtemfciflhbhobaaGLawS1
import Derived.Test.YtemfciflhbhobaaGRuns1
namespace Go.Proofs.Ytemfciflhbhobaa.B
open Go.RowKit Go.Proofs.YtemfciflhbhobaaW.PrintWords Go.Proofs.YtemfciflhbhobaaW.PrintLast Go.Proofs.YtemfciflhbhobaaW.PrintMore
attribute [local go_sem] max2_int min2_int max_two min_two max_three min_three max_four min_four   -- for this text's walks alone
set_option linter.unusedVariables false
set_option linter.unusedSimpArgs false

section
/-! ### laws_FnExactTreePeaks: function 12 -/
def laws_FnExactTreePeaks.j0 : Nat → List ByteArray → List (S29) → List (S29) → Bool → Option (Bool)
  | 0, _, _, _, _ => none
  | k + 1, x0, x4, x6, x42 => if x42 = true then (some false) else ((laws_markDigestS.f k x6 1).bind fun bt1300 => ((laws_heldDigestS.f k bt1300.2 1).bind fun t1302 => (if t1302 < 0 then (some false) else (if t1302 = bt1300.1 then ((laws_toStringS.f k x0).bind fun t1303 => ((impl_TreePeaks.f k t1303).bind fun t1306 => ((laws_eqDigestS.f k t1306 x4).bind fun t1309 => (if t1309 = true then ((laws_heldDigestS.f k bt1300.2 1).bind fun t1310 => (if t1310 < 0 then (some false) else (if t1310 = bt1300.1 then (some true) else (some false)))) else (some false))))) else (some false)))))
def laws_FnExactTreePeaks.f (k : Nat) (l0 : List ByteArray) : Option (Bool) := (laws_szStringS.f k l0 1048576).bind fun t1279 => (if t1279 < 0 then (some true) else ((laws_toStringS.f k l0).bind fun t1280 => ((spec_TreePeaks.f k t1280).bind fun t1283 => ((laws_toStringS.f k l0).bind fun t1286 => ((impl_TreePeaks.f k t1286).bind fun t1289 => ((laws_eqDigestS.f k t1289 t1283).bind fun t1292 => (if t1292 = true then ((laws_toStringS.f k l0).bind fun t1293 => ((laws_eqStringS.f k t1286 t1293).bind fun t1296 => (if t1296 = true then ((laws_markStringS.f k t1286 1).bind fun bt1297 => (if bt1297.1 < 0 then (laws_FnExactTreePeaks.j0 k l0 t1283 t1289 true) else ((laws_eqDigestS.f k t1289 t1283).bind fun t1299 => (laws_FnExactTreePeaks.j0 k l0 t1283 t1289 (!t1299))))) else (some false)))) else (some false))))))))
theorem laws_FnExactTreePeaks.mono_l : ∀ k, (∀ y0 y1 y2 y3, LeO (laws_FnExactTreePeaks.j0 k y0 y1 y2 y3) (laws_FnExactTreePeaks.j0 (k + 1) y0 y1 y2 y3))
  | 0 => fun _ _ _ _ r h => by simp [laws_FnExactTreePeaks.j0] at h
  | k + 1 => by
    have ih0 := laws_FnExactTreePeaks.mono_l k
    · intro y0 y1 y2 y3
      unfold laws_FnExactTreePeaks.j0
      repeat' first | (with_reducible first | exact ih0 _ _ _ _ | exact impl_TreePeaks.mono _ _ | exact laws_eqDigestS.mono _ _ _ | exact laws_eqStringS.mono _ _ _ | exact laws_heldDigestS.mono _ _ _ | exact laws_markDigestS.mono _ _ _ | exact laws_markStringS.mono _ _ _ | exact laws_szStringS.mono _ _ _ | exact laws_toStringS.mono _ _ | exact spec_TreePeaks.mono _ _ | exact LeO.refl _ | exact LeO.none _ | refine LeO.ite ?_ ?_ | refine LeO.bind ?_ (fun _ => ?_)) | exact ih0 _ _ _ _ | exact LeO.none _ | refine LeO.ite ?_ ?_ | refine LeO.bind ?_ (fun _ => ?_)
theorem laws_FnExactTreePeaks.mono : ∀ a0 k, LeO (laws_FnExactTreePeaks.f k a0) (laws_FnExactTreePeaks.f (k + 1) a0) := by
  intro a0 k
  have ih0 := laws_FnExactTreePeaks.mono_l k
  unfold laws_FnExactTreePeaks.f
  repeat' first | (with_reducible first | exact ih0 _ _ _ _ | exact impl_TreePeaks.mono _ _ | exact laws_eqDigestS.mono _ _ _ | exact laws_eqStringS.mono _ _ _ | exact laws_heldDigestS.mono _ _ _ | exact laws_markDigestS.mono _ _ _ | exact laws_markStringS.mono _ _ _ | exact laws_szStringS.mono _ _ _ | exact laws_toStringS.mono _ _ | exact spec_TreePeaks.mono _ _ | exact LeO.refl _ | exact LeO.none _ | refine LeO.ite ?_ ?_ | refine LeO.bind ?_ (fun _ => ?_)) | exact ih0 _ _ _ _ | exact LeO.none _ | refine LeO.ite ?_ ?_ | refine LeO.bind ?_ (fun _ => ?_)
set_option maxHeartbeats 8000000 in
set_option maxRecDepth 100000 in
theorem laws_FnExactTreePeaks.calls (k : Nat) (A0 : Option Addr) (c0 : Nat) (l0 : List ByteArray) (r : Bool) (hr_ : r = true) (w : World) (hr0 : Kd.C Kd.string w A0 l0.length l0) (hc0 : l0.length ≤ c0) (h : laws_FnExactTreePeaks.f k l0 = some r) :
    Calls Try.prog 12 #[.slice A0 l0.length c0] w fun e w' => e = .returned (.bool r) ∧ Below w.heap.size w w' := by
  have HR0 := Aside0.mk hr0
  have HC0 := Aside0.mk hc0
  clear hr0 hc0
  have HB := Aside0.mk (Below.refl w.heap.size w)
  have H : ((laws_szStringS.f k l0 1048576).bind fun t1279 => (if t1279 < 0 then (some true) else ((laws_toStringS.f k l0).bind fun t1280 => ((spec_TreePeaks.f k t1280).bind fun t1283 => ((laws_toStringS.f k l0).bind fun t1286 => ((impl_TreePeaks.f k t1286).bind fun t1289 => ((laws_eqDigestS.f k t1289 t1283).bind fun t1292 => (if t1292 = true then ((laws_toStringS.f k l0).bind fun t1293 => ((laws_eqStringS.f k t1286 t1293).bind fun t1296 => (if t1296 = true then ((laws_markStringS.f k t1286 1).bind fun bt1297 => (if bt1297.1 < 0 then (laws_FnExactTreePeaks.j0 k l0 t1283 t1289 true) else ((laws_eqDigestS.f k t1289 t1283).bind fun t1299 => (laws_FnExactTreePeaks.j0 k l0 t1283 t1289 (!t1299))))) else (some false)))) else (some false))))))))) = some r := h
  clear h
  obtain ⟨t1279, A2, H⟩ := bnd_ H
  by_cases c3 : t1279 < 0
  · rw [if_pos c3] at H
    have c3b0 : decide (t1279 < 0) = true := decide_eq_true c3
    clear c3
    obtain rfl := Option.some.inj H
    go_enter Try.func12, Try.ntmps12
    go_wp2_with (first | ((with_reducible refine gate_callee (f := 42) rfl ?_); refine goL_ (some 13) Try.func42 #[.slice A0 l0.length c0, .int .i64 1048576] ?_; (with_reducible refine (laws_szStringS.calls k _ _ l0 1048576 t1279 _ ?side1 ?side2 A2.out).mono ?_); (case side1 => repeat (first | exact HR0.out | (with_reducible refine Kd.C_alloc ?_ _) | (with_reducible refine Kd.C_drewN ?_ _) | (with_reducible refine Kd.C_drew ?_))); (case side2 => exact HC0.out); rintro e w' ⟨rfl, ⟨nd, rfl⟩⟩; refine ⟨_, rfl, ?_⟩))
    go_ret
    exact ⟨rfl_, bel_⟩
  · rw [if_neg c3] at H
    have c3b0 : decide (t1279 < 0) = false := decide_eq_false c3
    clear c3
    obtain ⟨t1280, A4, H⟩ := bnd_ H
    obtain ⟨t1283, A5, H⟩ := bnd_ H
    obtain ⟨t1286, A6, H⟩ := bnd_ H
    obtain ⟨t1289, A7, H⟩ := bnd_ H
    obtain ⟨t1292, A8, H⟩ := bnd_ H
    by_cases c9 : t1292 = true
    · subst c9
      rw [if_pos rfl] at H
      obtain ⟨t1293, A10, H⟩ := bnd_ H
      obtain ⟨t1296, A11, H⟩ := bnd_ H
      by_cases c12 : t1296 = true
      · subst c12
        rw [if_pos rfl] at H
        obtain ⟨⟨t1297, t1298⟩, A13, H⟩ := bnd_ H
        dsimp only at H
        have HC14 := Aside0.mk H
        clear H
        go_enter Try.func12, Try.ntmps12
        go_upto_region 14 with (first | ((with_reducible refine gate_callee (f := 42) rfl ?_); refine goL_ (some 13) Try.func42 #[.slice A0 l0.length c0, .int .i64 1048576] ?_; (with_reducible refine (laws_szStringS.calls k _ _ l0 1048576 t1279 _ ?side1 ?side2 A2.out).mono ?_); (case side1 => repeat (first | exact HR0.out | (with_reducible refine Kd.C_alloc ?_ _) | (with_reducible refine Kd.C_drewN ?_ _) | (with_reducible refine Kd.C_drew ?_))); (case side2 => exact HC0.out); rintro e w' ⟨rfl, ⟨nd, rfl⟩⟩; refine ⟨_, rfl, ?_⟩) | ((with_reducible refine gate_callee (f := 44) rfl ?_); refine goL_ (some 17) Try.func44 #[.slice A0 l0.length c0] ?_; (with_reducible refine (laws_toStringS.calls k _ _ l0 t1280 _ ?side1 ?side2 A4.out).mono ?_); (case side1 => repeat (first | exact HR0.out | (with_reducible refine Kd.C_alloc ?_ _) | (with_reducible refine Kd.C_drewN ?_ _) | (with_reducible refine Kd.C_drew ?_))); (case side2 => exact HC0.out); rintro e w15 ⟨v1281, rfl, ho0, hb⟩; refine ⟨_, rfl, ?_⟩; have HO1282 := Aside0.mk (Kd.R_lower ho0 (below_size bel_)); replace HB := stepB_ hb; (try clear hb); (try clear ho0); obtain ⟨Ao16, co16, eo16⟩ := Kd.R_slice HO1282.out; subst eo16) | ((with_reducible refine gate_callee (f := 63) rfl ?_); refine goL_ (some 18) Try.func63 #[.slice Ao16 t1280.length co16] ?_; (with_reducible refine (spec_TreePeaks.calls k _ _ t1280 t1283 _ ?side1 ?side2 A5.out).mono ?_); (case side1 => repeat (first | exact (Kd.R_reads' HO1282.out).2.2 | (with_reducible refine Kd.C_alloc ?_ _) | (with_reducible refine Kd.C_drewN ?_ _) | (with_reducible refine Kd.C_drew ?_))); (case side2 => exact (Kd.R_reads' HO1282.out).2.1); rintro e w17 ⟨v1284, rfl, ho0, hb⟩; refine ⟨_, rfl, ?_⟩; replace HO1282 := Aside0.mk (Kd.R_below (kdU_ HO1282.out) hb); have HO1285 := Aside0.mk (Kd.R_lower ho0 (below_size bel_)); replace HB := stepB_ hb; (try clear hb); (try clear ho0)) | ((with_reducible refine gate_callee (f := 44) rfl ?_); refine goL_ (some 20) Try.func44 #[.slice A0 l0.length c0] ?_; (with_reducible refine (laws_toStringS.calls k _ _ l0 t1286 _ ?side1 ?side2 A6.out).mono ?_); (case side1 => repeat (first | exact (Kd.C_below HR0.out HB.out) | (with_reducible refine Kd.C_alloc ?_ _) | (with_reducible refine Kd.C_drewN ?_ _) | (with_reducible refine Kd.C_drew ?_))); (case side2 => exact HC0.out); rintro e w18 ⟨v1287, rfl, ho0, hb⟩; refine ⟨_, rfl, ?_⟩; replace HO1285 := Aside0.mk (Kd.R_below (kdU_ HO1285.out) hb); have HO1288 := Aside0.mk (Kd.R_lower (Kd.R_new' ho0 (Kd.R_lt (kdU_ HO1282.out))) (below_size bel_)); replace HO1282 := Aside0.mk (Kd.R_elder' (kdU_ HO1282.out) (Kd.R_base ho0) hb); replace HB := stepB_ hb; (try clear hb); (try clear ho0); obtain ⟨Ao19, co19, eo19⟩ := Kd.R_slice HO1288.out; subst eo19) | ((with_reducible refine gate_callee (f := 64) rfl ?_); refine goL_ (some 22) Try.func64 #[.slice Ao19 t1286.length co19] ?_; (with_reducible refine (impl_TreePeaks.calls k (fun k_ => some k_ = (.slice Ao19 t1286.length co19 : Value).ownBlock) _ _ t1286 t1289 _ ?side1 A7.out).mono ?_); (case side1 => exact Kd.R_V (Kd.R_tight rfl (Kd.R_apart' (HO1288.out) (Kd.R_typed HO1285.out) (by decide)))); rintro e w20 ⟨v1290, rfl, ho0, hb⟩; refine ⟨_, rfl, ?_⟩; replace HO1282 := Aside0.mk (Kd.R_below (kdU_ HO1282.out) hb); replace HO1288 := Aside0.mk (Kd.R_below (kdU_ HO1288.out) hb); have HO1291 := Aside0.mk (Kd.R_lower (Kd.R_new' (Kd.R_mono (ok' := fun k_ => True) ho0 (fun _ hk_ => trivial)) (Kd.R_lt (kdU_ HO1285.out))) (below_size bel_)); replace HO1285 := Aside0.mk (Kd.R_elder' (kdU_ HO1285.out) (Kd.R_base ho0) hb); replace HB := stepB_ hb; (try clear hb); (try clear ho0); obtain ⟨Ao21, co21, eo21⟩ := Kd.R_slice HO1291.out; subst eo21; obtain ⟨Ao22, co22, eo22⟩ := Kd.R_slice HO1285.out; subst eo22) | ((with_reducible refine gate_callee (f := 39) rfl ?_); refine goL_ (some 25) Try.func39 #[.slice Ao21 t1289.length co21, .slice Ao22 t1283.length co22] ?_; (with_reducible refine (laws_eqDigestS.calls k _ _ t1289 _ _ t1283 true _ ?side1 ?side2 ?side3 ?side4 A8.out).mono ?_); (case side1 => repeat (first | exact (Kd.R_reads' HO1291.out).2.2 | (with_reducible refine Kd.C_alloc ?_ _) | (with_reducible refine Kd.C_drewN ?_ _) | (with_reducible refine Kd.C_drew ?_))); (case side2 => exact (Kd.R_reads' HO1291.out).2.1); (case side3 => repeat (first | exact (Kd.R_reads' HO1285.out).2.2 | (with_reducible refine Kd.C_alloc ?_ _) | (with_reducible refine Kd.C_drewN ?_ _) | (with_reducible refine Kd.C_drew ?_))); (case side4 => exact (Kd.R_reads' HO1285.out).2.1); rintro e w23 ⟨rfl, hb⟩; refine ⟨_, rfl, ?_⟩; replace HO1282 := Aside0.mk (Kd.R_below (kdU_ HO1282.out) hb); replace HO1285 := Aside0.mk (Kd.R_below (kdU_ HO1285.out) hb); replace HO1288 := Aside0.mk (Kd.R_below (kdU_ HO1288.out) hb); replace HO1291 := Aside0.mk (Kd.R_below (kdU_ HO1291.out) hb); replace HB := stepB_ hb; (try clear hb)) | ((with_reducible refine gate_callee (f := 44) rfl ?_); refine goL_ (some 29) Try.func44 #[.slice A0 l0.length c0] ?_; (with_reducible refine (laws_toStringS.calls k _ _ l0 t1293 _ ?side1 ?side2 A10.out).mono ?_); (case side1 => repeat (first | exact (Kd.C_below HR0.out HB.out) | (with_reducible refine Kd.C_alloc ?_ _) | (with_reducible refine Kd.C_drewN ?_ _) | (with_reducible refine Kd.C_drew ?_))); (case side2 => exact HC0.out); rintro e w24 ⟨v1294, rfl, ho0, hb⟩; refine ⟨_, rfl, ?_⟩; replace HO1285 := Aside0.mk (Kd.R_below (kdU_ HO1285.out) hb); replace HO1291 := Aside0.mk (Kd.R_below (kdU_ HO1291.out) hb); have HO1295 := Aside0.mk (Kd.R_lower (Kd.R_new' (Kd.R_new' ho0 (Kd.R_lt (kdU_ HO1282.out))) (Kd.R_lt (kdU_ HO1288.out))) (below_size bel_)); replace HO1282 := Aside0.mk (Kd.R_elder' (kdU_ HO1282.out) (Kd.R_base ho0) hb); replace HO1288 := Aside0.mk (Kd.R_elder' (kdU_ HO1288.out) (Kd.R_base ho0) hb); replace HB := stepB_ hb; (try clear hb); (try clear ho0); obtain ⟨Ao25, co25, eo25⟩ := Kd.R_slice HO1295.out; subst eo25) | ((with_reducible refine gate_callee (f := 47) rfl ?_); refine goL_ (some 30) Try.func47 #[.slice Ao19 t1286.length co19, .slice Ao25 t1293.length co25] ?_; (with_reducible refine (laws_eqStringS.calls k _ _ t1286 _ _ t1293 true _ ?side1 ?side2 ?side3 ?side4 A11.out).mono ?_); (case side1 => repeat (first | exact (Kd.R_reads' HO1288.out).2.2 | (with_reducible refine Kd.C_alloc ?_ _) | (with_reducible refine Kd.C_drewN ?_ _) | (with_reducible refine Kd.C_drew ?_))); (case side2 => exact (Kd.R_reads' HO1288.out).2.1); (case side3 => repeat (first | exact (Kd.R_reads' HO1295.out).2.2 | (with_reducible refine Kd.C_alloc ?_ _) | (with_reducible refine Kd.C_drewN ?_ _) | (with_reducible refine Kd.C_drew ?_))); (case side4 => exact (Kd.R_reads' HO1295.out).2.1); rintro e w' ⟨rfl, ⟨nd, rfl⟩⟩; refine ⟨_, rfl, ?_⟩) | ((with_reducible refine gate_callee (f := 65) rfl ?_); refine goL_ (some 34) Try.func65 #[.slice Ao19 t1286.length co19, .int .i64 1] ?_; (with_reducible refine (laws_markStringS.calls k (fun k_ => some k_ = (.slice Ao19 t1286.length co19 : Value).ownBlock) (.slice Ao19 t1286.length co19) t1286 1 t1297 t1298 w _ ?side1 ?side2 A13.out).mono ?_); (case side1 => exact bel_); (case side2 => exact Kd.R_tight rfl HO1288.out); rintro e w26 ⟨rfl, hy0, hb, hkp⟩; refine ⟨_, rfl, ?_⟩; replace HO1282 := Aside0.mk (Kd.R_mono (ok' := fun k_ => some k_ ≠ (.slice Ao19 t1286.length co19 : Value).ownBlock ∧ some k_ ≠ (.slice Ao25 t1293.length co25 : Value).ownBlock) (Kd.R_keptB (HO1282.out) hkp (fun k_ hk_ hs_ => (hk_.1.2) hs_)) (fun k_ hk_ => ⟨hk_.1.1.2, hk_.1.2⟩)); replace HO1285 := Aside0.mk (Kd.R_mono (ok' := fun k_ => some k_ ≠ (.slice Ao21 t1289.length co21 : Value).ownBlock) (Kd.R_keptB ((Kd.R_apart' HO1285.out (Kd.R_typed HO1288.out) (by decide))) hkp (fun k_ hk_ hs_ => (hk_.2) hs_)) (fun k_ hk_ => hk_.1.1.2)); replace HO1291 := Aside0.mk (Kd.R_mono (ok' := fun k_ => some k_ ≠ (.slice Ao22 t1283.length co22 : Value).ownBlock) (Kd.R_keptB ((Kd.R_apart' HO1291.out (Kd.R_typed HO1288.out) (by decide))) hkp (fun k_ hk_ hs_ => (hk_.2) hs_)) (fun k_ hk_ => hk_.1.1.2)); replace HO1288 := Aside0.mk (Kd.R_reok rfl hy0 (fun k_ e_ => HO1288.out.1 k_ e_)); replace HO1295 := Aside0.mk (Kd.R_mono (ok' := fun k_ => some k_ ≠ (.slice Ao16 t1280.length co16 : Value).ownBlock ∧ some k_ ≠ (.slice Ao19 t1286.length co19 : Value).ownBlock) (Kd.R_keptB (HO1295.out) hkp (fun k_ hk_ hs_ => (hk_.2) hs_)) (fun k_ hk_ => ⟨hk_.1.1.2, hk_.1.2⟩)); replace HB := Aside0.mk (hb); (try clear hb); (try clear hkp); (try clear hy0)))
        (try simp only [Act.put, List.setIfInBounds_toArray, List.set_cons_zero, List.set_cons_succ])
        go_cut [42] (fun v42 wc => ∃ (kq : Nat) (x42_13 : Bool), v42 = .bool x42_13 ∧ Aside0 (laws_FnExactTreePeaks.j0 kq l0 t1283 t1289 x42_13 = some r) ∧ Aside0 (kq ≤ k) ∧ Aside0 (Kd.R k29 29 wc w.heap.size (fun k_ => some k_ ≠ ((.slice Ao21 t1289.length co21) : Value).ownBlock) (.slice Ao22 t1283.length co22) t1283) ∧ Aside0 (Kd.R k29 29 wc w.heap.size (fun k_ => some k_ ≠ ((.slice Ao22 t1283.length co22) : Value).ownBlock) (.slice Ao21 t1289.length co21) t1289) ∧ Aside0 (Below w.heap.size w wc))
        case first =>
          have H := HC14.out
          clear HC14
          by_cases c27 : t1297 < 0
          · rw [if_pos c27] at H
            have c27b0 : decide (t1297 < 0) = true := decide_eq_true c27
            clear c27
            (first | rw [c27b0] | (simp only [i64_w, i32_w]; rw [c27b0]) | skip)
            have H' := Aside0.mk H
            clear H
            go_wp2
            go_meet
            case rel => exact ⟨_, (true), (by first | rfl | (simp; done) | (simp [*]; done)), H', ⟨by first | omega | exact Nat.le_refl _⟩, ⟨kdU_ HO1285.out⟩, ⟨kdU_ HO1291.out⟩, ⟨bel_⟩⟩
          · rw [if_neg c27] at H
            have c27b0 : decide (t1297 < 0) = false := decide_eq_false c27
            clear c27
            (first | rw [c27b0] | (simp only [i64_w, i32_w]; rw [c27b0]) | skip)
            obtain ⟨t1299, A28, H⟩ := bnd_ H
            have H' := Aside0.mk H
            clear H
            go_wp2_with (first | (go_at_call 39; (with_reducible refine (laws_eqDigestS.calls k _ _ t1289 _ _ t1283 t1299 _ ?side1 ?side2 ?side3 ?side4 A28.out).mono ?_); (case side1 => repeat (first | exact (Kd.R_reads' HO1291.out).2.2 | (with_reducible refine Kd.C_alloc ?_ _) | (with_reducible refine Kd.C_drewN ?_ _) | (with_reducible refine Kd.C_drew ?_))); (case side2 => exact (Kd.R_reads' HO1291.out).2.1); (case side3 => repeat (first | exact (Kd.R_reads' HO1285.out).2.2 | (with_reducible refine Kd.C_alloc ?_ _) | (with_reducible refine Kd.C_drewN ?_ _) | (with_reducible refine Kd.C_drew ?_))); (case side4 => exact (Kd.R_reads' HO1285.out).2.1); rintro e w29 ⟨rfl, hb⟩; replace HO1282 := Aside0.mk (Kd.R_below (kdU_ HO1282.out) hb); replace HO1285 := Aside0.mk (Kd.R_below (kdU_ HO1285.out) hb); replace HO1288 := Aside0.mk (Kd.R_below (kdU_ HO1288.out) hb); replace HO1291 := Aside0.mk (Kd.R_below (kdU_ HO1291.out) hb); replace HO1295 := Aside0.mk (Kd.R_below (kdU_ HO1295.out) hb); replace HB := stepB_ hb; (try clear hb)))
            go_meet
            case rel => exact ⟨_, (!t1299), (by first | rfl | (simp; done) | (simp [*]; done)), H', ⟨by first | omega | exact Nat.le_refl _⟩, ⟨kdU_ HO1285.out⟩, ⟨kdU_ HO1291.out⟩, ⟨bel_⟩⟩
        case rest =>
          clear HC14
          (try clear c3); (try clear c3b0); (try clear c9); (try clear c12); (try clear c27); (try clear c27b0)
          obtain ⟨kq, x42_13, rfl, HA, HJ13, HO_4, HO_6, HB⟩ := hcut
          cases kq with
          | zero => exact absurd HA.out (by simp [laws_FnExactTreePeaks.j0])
          | succ kj13 =>
            have H := HA.out
            clear HA
            simp only [laws_FnExactTreePeaks.j0] at H
            by_cases c30 : x42_13 = true
            · subst c30
              rw [if_pos rfl] at H
              exact absurd ((Option.some.inj H).trans hr_) (by decide)
            · replace c30 := Bool.eq_false_iff.mpr c30
              subst c30
              rw [if_neg (show ¬ (false = true) by decide)] at H
              obtain ⟨⟨t1300, t1301⟩, A31, H⟩ := bnd_ H
              dsimp only at H
              obtain ⟨t1302, A32, H⟩ := bnd_ H
              by_cases c33 : t1302 < 0
              · rw [if_pos c33] at H
                have c33b0 : decide (t1302 < 0) = true := decide_eq_true c33
                clear c33
                exact absurd ((Option.some.inj H).trans hr_) (by decide)
              · rw [if_neg c33] at H
                have c33b0 : decide (t1302 < 0) = false := decide_eq_false c33
                clear c33
                by_cases c34 : t1302 = t1300
                · rw [if_pos c34] at H
                  have c34b0 : (t1302 == t1300) = true := beq_iff_eq.mpr c34
                  have c34b1 : (t1302 != t1300) = false := bne_eq_false_iff_eq.mpr c34
                  clear c34
                  obtain ⟨t1303, A35, H⟩ := bnd_ H
                  obtain ⟨t1306, A36, H⟩ := bnd_ H
                  obtain ⟨t1309, A37, H⟩ := bnd_ H
                  by_cases c38 : t1309 = true
                  · subst c38
                    rw [if_pos rfl] at H
                    obtain ⟨t1310, A39, H⟩ := bnd_ H
                    by_cases c40 : t1310 < 0
                    · rw [if_pos c40] at H
                      have c40b0 : decide (t1310 < 0) = true := decide_eq_true c40
                      clear c40
                      exact absurd ((Option.some.inj H).trans hr_) (by decide)
                    · rw [if_neg c40] at H
                      have c40b0 : decide (t1310 < 0) = false := decide_eq_false c40
                      clear c40
                      by_cases c41 : t1310 = t1300
                      · rw [if_pos c41] at H
                        have c41b0 : (t1310 == t1300) = true := beq_iff_eq.mpr c41
                        have c41b1 : (t1310 != t1300) = false := bne_eq_false_iff_eq.mpr c41
                        clear c41
                        obtain rfl := Option.some.inj H
                        go_wp2_with (first | ((with_reducible refine gate_callee (f := 59) rfl ?_); refine goL_ (some 45) Try.func59 #[.slice Ao21 t1289.length co21, .int .i64 1] ?_; (with_reducible refine (laws_markDigestS.calls kj13 (fun k_ => some k_ = (.slice Ao21 t1289.length co21 : Value).ownBlock) (.slice Ao21 t1289.length co21) t1289 1 t1300 t1301 w _ ?side1 ?side2 A31.out).mono ?_); (case side1 => exact bel_); (case side2 => exact Kd.R_tight rfl HO_6.out); rintro e w42 ⟨rfl, hy0, hb, hkp⟩; refine ⟨_, rfl, ?_⟩; replace HO_4 := Aside0.mk (Kd.R_mono (ok' := fun k_ => some k_ ≠ (.slice Ao21 t1289.length co21 : Value).ownBlock) (Kd.R_keptB (HO_4.out) hkp (fun k_ hk_ hs_ => (hk_) hs_)) (fun k_ hk_ => hk_.1)); replace HO_6 := Aside0.mk (Kd.R_reok rfl hy0 (fun k_ e_ => HO_6.out.1 k_ e_)); replace HB := Aside0.mk (hb); (try clear hb); (try clear hkp); (try clear hy0)) | ((with_reducible refine gate_callee (f := 60) rfl ?_); refine goesL_ (some 48) rfl rfl Try.func60 (by kernel_rfl) rfl #[.slice Ao21 t1301.length co21, .int .i64 1] rfl (by (try simp only [List.map_toArray, List.map_cons, List.map_nil]); first | done | (rw [show t1301.length = t1289.length from (Kd.R_reads' HO_6.out).1.symm] <;> rfl) | rfl | (simp only [List.length_drop, List.length_take]; rfl)) ?_; (with_reducible refine (laws_heldDigestS.calls kj13 _ _ t1301 1 t1302 _ ?side1 ?side2 A32.out).mono ?_); (case side1 => repeat (first | exact (Kd.R_reads' HO_6.out).2.2 | (with_reducible refine Kd.C_alloc ?_ _) | (with_reducible refine Kd.C_drewN ?_ _) | (with_reducible refine Kd.C_drew ?_))); (case side2 => rw [show t1301.length = t1289.length from (Kd.R_reads' HO_6.out).1.symm]; exact (Kd.R_reads' HO_6.out).2.1); rintro e w' ⟨rfl, ⟨nd, rfl⟩⟩; refine ⟨_, rfl, ?_⟩) | ((with_reducible refine gate_callee (f := 44) rfl ?_); refine goL_ (some 55) Try.func44 #[.slice A0 l0.length c0] ?_; (with_reducible refine (laws_toStringS.calls kj13 _ _ l0 t1303 _ ?side1 ?side2 A35.out).mono ?_); (case side1 => repeat (first | exact (Kd.C_below HR0.out bel_) | (with_reducible refine Kd.C_alloc ?_ _) | (with_reducible refine Kd.C_drewN ?_ _) | (with_reducible refine Kd.C_drew ?_))); (case side2 => exact HC0.out); rintro e w43 ⟨v1304, rfl, ho0, hb⟩; refine ⟨_, rfl, ?_⟩; replace HO_4 := Aside0.mk (Kd.R_below (kdU_ HO_4.out) hb); replace HO_6 := Aside0.mk (Kd.R_below (kdU_ HO_6.out) hb); have HO1305 := Aside0.mk (Kd.R_lower ho0 (below_size bel_)); replace HB := stepB_ hb; (try clear hb); (try clear ho0); obtain ⟨Ao44, co44, eo44⟩ := Kd.R_slice HO1305.out; subst eo44) | ((with_reducible refine gate_callee (f := 64) rfl ?_); refine goL_ (some 56) Try.func64 #[.slice Ao44 t1303.length co44] ?_; (with_reducible refine (impl_TreePeaks.calls kj13 (fun k_ => some k_ = (.slice Ao44 t1303.length co44 : Value).ownBlock) _ _ t1303 t1306 _ ?side1 A36.out).mono ?_); (case side1 => exact Kd.R_V (Kd.R_tight rfl (Kd.R_apart' (Kd.R_apart' (HO1305.out) (Kd.R_typed HO_4.out) (by decide)) (Kd.R_typed HO_6.out) (by decide)))); rintro e w45 ⟨v1307, rfl, ho0, hb⟩; refine ⟨_, rfl, ?_⟩; replace HO1305 := Aside0.mk (Kd.R_below (kdU_ HO1305.out) hb); have HO1308 := Aside0.mk (Kd.R_lower (Kd.R_new' (Kd.R_new' (Kd.R_mono (ok' := fun k_ => True) ho0 (fun _ hk_ => trivial)) (Kd.R_lt (kdU_ HO_4.out))) (Kd.R_lt (kdU_ HO_6.out))) (below_size bel_)); replace HO_4 := Aside0.mk (Kd.R_elder' (kdU_ HO_4.out) (Kd.R_base ho0) hb); replace HO_6 := Aside0.mk (Kd.R_elder' (kdU_ HO_6.out) (Kd.R_base ho0) hb); replace HB := stepB_ hb; (try clear hb); (try clear ho0); obtain ⟨Ao46, co46, eo46⟩ := Kd.R_slice HO1308.out; subst eo46) | ((with_reducible refine gate_callee (f := 39) rfl ?_); refine goL_ (some 59) Try.func39 #[.slice Ao46 t1306.length co46, .slice Ao22 t1283.length co22] ?_; (with_reducible refine (laws_eqDigestS.calls kj13 _ _ t1306 _ _ t1283 true _ ?side1 ?side2 ?side3 ?side4 A37.out).mono ?_); (case side1 => repeat (first | exact (Kd.R_reads' HO1308.out).2.2 | (with_reducible refine Kd.C_alloc ?_ _) | (with_reducible refine Kd.C_drewN ?_ _) | (with_reducible refine Kd.C_drew ?_))); (case side2 => exact (Kd.R_reads' HO1308.out).2.1); (case side3 => repeat (first | exact (Kd.R_reads' HO_4.out).2.2 | (with_reducible refine Kd.C_alloc ?_ _) | (with_reducible refine Kd.C_drewN ?_ _) | (with_reducible refine Kd.C_drew ?_))); (case side4 => exact (Kd.R_reads' HO_4.out).2.1); rintro e w47 ⟨rfl, hb⟩; refine ⟨_, rfl, ?_⟩; replace HO_4 := Aside0.mk (Kd.R_below (kdU_ HO_4.out) hb); replace HO_6 := Aside0.mk (Kd.R_below (kdU_ HO_6.out) hb); replace HO1305 := Aside0.mk (Kd.R_below (kdU_ HO1305.out) hb); replace HO1308 := Aside0.mk (Kd.R_below (kdU_ HO1308.out) hb); replace HB := stepB_ hb; (try clear hb)) | ((with_reducible refine gate_callee (f := 60) rfl ?_); refine goesL_ (some 63) rfl rfl Try.func60 (by kernel_rfl) rfl #[.slice Ao21 t1301.length co21, .int .i64 1] rfl (by (try simp only [List.map_toArray, List.map_cons, List.map_nil]); first | done | (rw [show t1301.length = t1289.length from (Kd.R_reads' HO_6.out).1.symm] <;> rfl) | rfl | (simp only [List.length_drop, List.length_take]; rfl)) ?_; (with_reducible refine (laws_heldDigestS.calls kj13 _ _ t1301 1 t1310 _ ?side1 ?side2 A39.out).mono ?_); (case side1 => repeat (first | exact (Kd.R_reads' HO_6.out).2.2 | (with_reducible refine Kd.C_alloc ?_ _) | (with_reducible refine Kd.C_drewN ?_ _) | (with_reducible refine Kd.C_drew ?_))); (case side2 => rw [show t1301.length = t1289.length from (Kd.R_reads' HO_6.out).1.symm]; exact (Kd.R_reads' HO_6.out).2.1); rintro e w' ⟨rfl, ⟨nd, rfl⟩⟩; refine ⟨_, rfl, ?_⟩))
                        go_ret
                        exact ⟨rfl_, bel_⟩
                      · rw [if_neg c41] at H
                        have c41b0 : (t1310 == t1300) = false := beq_eq_false_iff_ne.mpr c41
                        have c41b1 : (t1310 != t1300) = true := bne_iff_ne.mpr c41
                        exact absurd ((Option.some.inj H).trans hr_) (by decide)
                  · replace c38 := Bool.eq_false_iff.mpr c38
                    subst c38
                    rw [if_neg (show ¬ (false = true) by decide)] at H
                    exact absurd ((Option.some.inj H).trans hr_) (by decide)
                · rw [if_neg c34] at H
                  have c34b0 : (t1302 == t1300) = false := beq_eq_false_iff_ne.mpr c34
                  have c34b1 : (t1302 != t1300) = true := bne_iff_ne.mpr c34
                  exact absurd ((Option.some.inj H).trans hr_) (by decide)
      · replace c12 := Bool.eq_false_iff.mpr c12
        subst c12
        rw [if_neg (show ¬ (false = true) by decide)] at H
        exact absurd ((Option.some.inj H).trans hr_) (by decide)
    · replace c9 := Bool.eq_false_iff.mpr c9
      subst c9
      rw [if_neg (show ¬ (false = true) by decide)] at H
      exact absurd ((Option.some.inj H).trans hr_) (by decide)

end
end Go.Proofs.Ytemfciflhbhobaa.B
