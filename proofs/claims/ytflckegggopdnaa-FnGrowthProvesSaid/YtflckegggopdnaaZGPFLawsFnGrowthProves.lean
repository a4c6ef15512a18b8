/- What the Go functions loop.example/belfry/laws.FnGrowthProves do is what the Lean functions .f of their names here say; condition: .f gives an answer. (Written by the session's program pp.py over the kit's print; Lean checks it.) -/
import Derived.Test.YtflckegggopdnaaZGPK
import Derived.Test.YtflckegggopdnaaZGPM
import Derived.Test.YtflckegggopdnaaZGPFImplGrowthCheck
import Derived.Test.YtflckegggopdnaaZGPFImplGrowthOf
import Derived.Test.YtflckegggopdnaaZGPFSpecDrawGrowthOf
import Derived.Test.YtflckegggopdnaaZGPGFall1
import Derived.Test.YtflckegggopdnaaZGPGPoint1
import Derived.Test.YtflckegggopdnaaZGPGTree1
namespace Go.Proofs.Ytflckegggopdnaa.B
open Go.RowKit Go.Proofs.YtflckegggopdnaaW.PrintWords Go.Proofs.YtflckegggopdnaaW.PrintLast Go.Proofs.YtflckegggopdnaaW.PrintMore
attribute [local go_sem] max2_int min2_int max_two min_two max_three min_three max_four min_four
set_option linter.unusedVariables false
set_option linter.unusedSimpArgs false
section
mutual
def laws_FnGrowthProves.j0 : Nat → List ByteArray → Int → List (S29) → Bool → Bool → Option (Bool)
  | 0, _, _, _, _, _ => none
  | k + 1, x3, x4, x5, x6, x33 => if x33 = true then (if x6 = true then (some false) else (some ((x5.length : Int) == 0))) else (if x6 = true then ((impl_GrowthLen.f k x4 (x3.length : Int)).bind fun t1302 => (if (x5.length : Int) = t1302 then ((spec_GrowthLen.f k x4 (x3.length : Int)).bind fun t1303 => (laws_FnGrowthProves.j1 k x3 x4 x5 ((x5.length : Int) != t1303))) else (laws_FnGrowthProves.j1 k x3 x4 x5 true))) else (laws_FnGrowthProves.j1 k x3 x4 x5 true))
def laws_FnGrowthProves.j1 : Nat → List ByteArray → Int → List (S29) → Bool → Option (Bool)
  | 0, _, _, _, _ => none
  | k + 1, x3, x4, x5, x60 => if x60 = true then (some false) else (if 0 ≤ x4 then (if x4 ≤ (x3.length : Int) then ((impl_TreePoint.f k (x3.take (x4 : Int).toNat)).bind fun bt1308 => ((impl_TreePoint.f k x3).bind fun bt1313 => ((impl_GrowthCheck.f k bt1308.1 bt1308.2.1 bt1308.2.2.1 bt1308.2.2.2.1 bt1308.2.2.2.2 bt1313.1 bt1313.2.1 bt1313.2.2.1 bt1313.2.2.2.1 bt1313.2.2.2.2 x5).bind fun t1318 => (some (t1318 == 0))))) else (none)) else (none))
end
def laws_FnGrowthProves.f (k : Nat) (l0 : List Int) : Option (Bool) := if (l0.length : Int) > 1048576 then (some true) else ((spec_DrawGrowthOf.f k l0).bind fun bt1293 => ((impl_GrowthOf.f k bt1293.1 bt1293.2).bind fun bt1297 => ((spec_LeavesOk.f k bt1293.1).bind fun t1301 => (if t1301 = true then (if bt1293.2 < 0 then (laws_FnGrowthProves.j0 k bt1293.1 bt1293.2 bt1297.1 bt1297.2 true) else (laws_FnGrowthProves.j0 k bt1293.1 bt1293.2 bt1297.1 bt1297.2 (decide (bt1293.2 > (bt1293.1.length : Int))))) else (laws_FnGrowthProves.j0 k bt1293.1 bt1293.2 bt1297.1 bt1297.2 true)))))
set_option maxHeartbeats 8000000 in
set_option maxRecDepth 100000 in
theorem laws_FnGrowthProves.calls (k : Nat) (A0 : Option Addr) (c0 : Nat) (l0 : List Int) (r : Bool) (hr_ : r = true) (w : World) (hr0 : Kd.C (Kd.int .u8) w A0 l0.length l0) (hc0 : l0.length ≤ c0) (h : laws_FnGrowthProves.f k l0 = some r) :
    Calls Try.prog 6 #[.slice A0 l0.length c0] w fun e w' => e = .returned (.bool r) ∧ Below w.heap.size w w' := by
  have HR0 := Aside0.mk hr0
  have HC0 := Aside0.mk hc0
  clear hr0 hc0
  have HB := Aside0.mk (Below.refl w.heap.size w)
  have H : (if (l0.length : Int) > 1048576 then (some true) else ((spec_DrawGrowthOf.f k l0).bind fun bt1293 => ((impl_GrowthOf.f k bt1293.1 bt1293.2).bind fun bt1297 => ((spec_LeavesOk.f k bt1293.1).bind fun t1301 => (if t1301 = true then (if bt1293.2 < 0 then (laws_FnGrowthProves.j0 k bt1293.1 bt1293.2 bt1297.1 bt1297.2 true) else (laws_FnGrowthProves.j0 k bt1293.1 bt1293.2 bt1297.1 bt1297.2 (decide (bt1293.2 > (bt1293.1.length : Int))))) else (laws_FnGrowthProves.j0 k bt1293.1 bt1293.2 bt1297.1 bt1297.2 true)))))) = some r := h
  clear h
  by_cases c2 : (l0.length : Int) > 1048576
  · rw [if_pos c2] at H
    have c2b0 : decide (1048576 < (l0.length : Int)) = true := decide_eq_true c2
    have c2b1 : decide (1048576 < l0.length) = true := decide_eq_true (by omega)
    clear c2
    obtain rfl := Option.some.inj H
    go_enter Try.func6, Try.ntmps6
    go_wp2
    go_ret
    exact ⟨rfl_, bel_⟩
  · rw [if_neg c2] at H
    have c2b0 : decide (1048576 < (l0.length : Int)) = false := decide_eq_false c2
    have c2b1 : decide (1048576 < l0.length) = false := decide_eq_false (by omega)
    clear c2
    obtain ⟨⟨t1293, t1294⟩, A3, H⟩ := bnd_ H
    dsimp only at H
    obtain ⟨⟨t1297, t1298⟩, A4, H⟩ := bnd_ H
    dsimp only at H
    have HC5 := Aside0.mk H
    clear H
    go_enter Try.func6, Try.ntmps6
    go_upto_region 5 with (first | ((with_reducible refine gate_callee (f := 28) rfl ?_); refine goL_ (some 12) Try.func28 #[.slice A0 l0.length c0] ?_; (with_reducible refine (spec_DrawGrowthOf.calls k _ _ l0 t1293 t1294 _ ?side1 ?side2 A3.out).mono ?_); (case side1 => repeat (first | exact HR0.out | (with_reducible refine Kd.C_alloc ?_ _) | (with_reducible refine Kd.C_drewN ?_ _) | (with_reducible refine Kd.C_drew ?_))); (case side2 => exact HC0.out); rintro e w6 ⟨v1295, rfl, ho0, hb⟩; refine ⟨_, rfl, ?_⟩; have HO1296 := Aside0.mk (Kd.R_lower ho0 (below_size bel_)); replace HB := stepB_ hb; (try clear hb); (try clear ho0); obtain ⟨Ao7, co7, eo7⟩ := Kd.R_slice HO1296.out; subst eo7) | ((with_reducible refine gate_callee (f := 29) rfl ?_); refine goL_ (some 18) Try.func29 #[.slice Ao7 t1293.length co7, .int .i64 t1294] ?_; (with_reducible refine (impl_GrowthOf.calls k _ _ t1293 t1294 t1297 t1298 _ ?side1 ?side2 A4.out).mono ?_); (case side1 => repeat (first | exact (Kd.R_reads' HO1296.out).2.2 | (with_reducible refine Kd.C_alloc ?_ _) | (with_reducible refine Kd.C_drewN ?_ _) | (with_reducible refine Kd.C_drew ?_))); (case side2 => exact (Kd.R_reads' HO1296.out).2.1); rintro e w8 ⟨v1299, rfl, ho0, hb⟩; refine ⟨_, rfl, ?_⟩; replace HO1296 := Aside0.mk (Kd.R_below (kdU_ HO1296.out) hb); have HO1300 := Aside0.mk (Kd.R_lower ho0 (below_size bel_)); replace HB := stepB_ hb; (try clear hb); (try clear ho0)))
    (try simp only [Act.put, List.setIfInBounds_toArray, List.set_cons_zero, List.set_cons_succ])
    go_cut [33] (fun v33 wc => ∃ (kq : Nat) (x33_4 : Bool), v33 = .bool x33_4 ∧ Aside0 (laws_FnGrowthProves.j0 kq t1293 t1294 t1297 t1298 x33_4 = some r) ∧ Aside0 (kq ≤ k) ∧ Aside0 (Kd.R Kd.string 9 wc w.heap.size (fun _ => True) (.slice Ao7 t1293.length co7) t1293) ∧ Aside0 (Kd.R k29 29 wc w.heap.size (fun _ => True) v1299 t1297) ∧ Aside0 (Below w.heap.size w wc))
    case first =>
      have H := HC5.out
      clear HC5
      obtain ⟨t1301, A9, H⟩ := bnd_ H
      by_cases c10 : t1301 = true
      · subst c10
        rw [if_pos rfl] at H
        by_cases c11 : t1294 < 0
        · rw [if_pos c11] at H
          have c11b0 : decide (t1294 < 0) = true := decide_eq_true c11
          clear c11
          (first | rw [c11b0] | (simp only [i64_w, i32_w]; rw [c11b0]) | skip)
          have H' := Aside0.mk H
          clear H
          go_wp2_with (first | ((with_reducible refine gate_callee (f := 30) rfl ?_); refine goL_ (some 22) Try.func30 #[.slice Ao7 t1293.length co7] ?_; (with_reducible refine (spec_LeavesOk.calls k _ _ t1293 true _ ?side1 ?side2 A9.out).mono ?_); (case side1 => repeat (first | exact (Kd.R_reads' HO1296.out).2.2 | (with_reducible refine Kd.C_alloc ?_ _) | (with_reducible refine Kd.C_drewN ?_ _) | (with_reducible refine Kd.C_drew ?_))); (case side2 => exact (Kd.R_reads' HO1296.out).2.1); rintro e w' ⟨rfl, ⟨nd, rfl⟩⟩; refine ⟨_, rfl, ?_⟩))
          go_meet
          case rel => exact ⟨_, (true), (by first | rfl | (simp; done) | (simp [*]; done)), H', ⟨by first | omega | exact Nat.le_refl _⟩, ⟨kdU_ HO1296.out⟩, ⟨kdU_ HO1300.out⟩, ⟨bel_⟩⟩
        · rw [if_neg c11] at H
          have c11b0 : decide (t1294 < 0) = false := decide_eq_false c11
          clear c11
          (first | rw [c11b0] | (simp only [i64_w, i32_w]; rw [c11b0]) | skip)
          have H' := Aside0.mk H
          clear H
          go_wp2_with (first | ((with_reducible refine gate_callee (f := 30) rfl ?_); refine goL_ (some 22) Try.func30 #[.slice Ao7 t1293.length co7] ?_; (with_reducible refine (spec_LeavesOk.calls k _ _ t1293 true _ ?side1 ?side2 A9.out).mono ?_); (case side1 => repeat (first | exact (Kd.R_reads' HO1296.out).2.2 | (with_reducible refine Kd.C_alloc ?_ _) | (with_reducible refine Kd.C_drewN ?_ _) | (with_reducible refine Kd.C_drew ?_))); (case side2 => exact (Kd.R_reads' HO1296.out).2.1); rintro e w' ⟨rfl, ⟨nd, rfl⟩⟩; refine ⟨_, rfl, ?_⟩))
          go_meet
          case rel => exact ⟨_, (decide (t1294 > (t1293.length : Int))), (by first | rfl | (simp; done) | (simp [*]; done)), H', ⟨by first | omega | exact Nat.le_refl _⟩, ⟨kdU_ HO1296.out⟩, ⟨kdU_ HO1300.out⟩, ⟨bel_⟩⟩
      · replace c10 := Bool.eq_false_iff.mpr c10
        subst c10
        rw [if_neg (show ¬ (false = true) by decide)] at H
        have H' := Aside0.mk H
        clear H
        go_wp2_with (first | ((with_reducible refine gate_callee (f := 30) rfl ?_); refine goL_ (some 22) Try.func30 #[.slice Ao7 t1293.length co7] ?_; (with_reducible refine (spec_LeavesOk.calls k _ _ t1293 false _ ?side1 ?side2 A9.out).mono ?_); (case side1 => repeat (first | exact (Kd.R_reads' HO1296.out).2.2 | (with_reducible refine Kd.C_alloc ?_ _) | (with_reducible refine Kd.C_drewN ?_ _) | (with_reducible refine Kd.C_drew ?_))); (case side2 => exact (Kd.R_reads' HO1296.out).2.1); rintro e w' ⟨rfl, ⟨nd, rfl⟩⟩; refine ⟨_, rfl, ?_⟩))
        go_meet
        case rel => exact ⟨_, (true), (by first | rfl | (simp; done) | (simp [*]; done)), H', ⟨by first | omega | exact Nat.le_refl _⟩, ⟨kdU_ HO1296.out⟩, ⟨kdU_ HO1300.out⟩, ⟨bel_⟩⟩
    case rest =>
      clear HC5
      (try clear c2); (try clear c2b0); (try clear c2b1); (try clear c10); (try clear c11); (try clear c11b0)
      obtain ⟨kq, x33_4, rfl, HA, HJ4, HO_3, HO_5, HB⟩ := hcut
      cases kq with
      | zero => exact absurd HA.out (by simp [laws_FnGrowthProves.j0])
      | succ kj4 =>
        have H := HA.out
        clear HA
        simp only [laws_FnGrowthProves.j0] at H
        by_cases c12 : x33_4 = true
        · subst c12
          rw [if_pos rfl] at H
          by_cases c13 : t1298 = true
          · subst c13
            rw [if_pos rfl] at H
            exact absurd ((Option.some.inj H).trans hr_) (by decide)
          · replace c13 := Bool.eq_false_iff.mpr c13
            subst c13
            rw [if_neg (show ¬ (false = true) by decide)] at H
            obtain rfl := Option.some.inj H
            obtain ⟨Ao14, co14, eo14⟩ := Kd.R_slice HO_5.out
            subst eo14
            go_wp2
            go_ret
            exact ⟨rfl_, bel_⟩
        · replace c12 := Bool.eq_false_iff.mpr c12
          subst c12
          rw [if_neg (show ¬ (false = true) by decide)] at H
          have HC15 := Aside0.mk H
          clear H
          go_upto_region 7 with (fail)
          go_cut [60] (fun v60 wc => ∃ (kq : Nat) (x60_14 : Bool), v60 = .bool x60_14 ∧ Aside0 (laws_FnGrowthProves.j1 kq t1293 t1294 t1297 x60_14 = some r) ∧ Aside0 (kq ≤ kj4) ∧ Aside0 (Kd.R Kd.string 9 wc w.heap.size (fun _ => True) (.slice Ao7 t1293.length co7) t1293) ∧ Aside0 (Kd.R k29 29 wc w.heap.size (fun _ => True) v1299 t1297) ∧ Aside0 (Below w.heap.size w wc))
          case first =>
            have H := HC15.out
            clear HC15
            by_cases c16 : t1298 = true
            · subst c16
              rw [if_pos rfl] at H
              obtain ⟨t1302, A17, H⟩ := bnd_ H
              by_cases c18 : (t1297.length : Int) = t1302
              · rw [if_pos c18] at H
                have c18b0 : ((t1297.length : Int) == t1302) = true := beq_iff_eq.mpr c18
                have c18b1 : ((t1297.length : Int) != t1302) = false := bne_eq_false_iff_eq.mpr c18
                clear c18
                (first | rw [c18b0] | (simp only [i64_w, i32_w]; rw [c18b0]) | skip)
                obtain ⟨t1303, A19, H⟩ := bnd_ H
                have H' := Aside0.mk H
                clear H
                obtain ⟨Ao20, co20, eo20⟩ := Kd.R_slice HO_5.out
                subst eo20
                go_wp2_with (first | (go_at_call 31; (with_reducible refine (impl_GrowthLen.calls kj4 t1294 (t1293.length : Int) t1302 _ A17.out).mono ?_); rintro e w21 ⟨rfl, hb⟩; replace HO_3 := Aside0.mk (Kd.R_below (kdU_ HO_3.out) hb); replace HO_5 := Aside0.mk (Kd.R_below (kdU_ HO_5.out) hb); replace HB := stepB_ hb; (try clear hb)) | (go_at_call 32; (with_reducible refine (spec_GrowthLen.calls kj4 t1294 (t1293.length : Int) t1303 _ A19.out).mono ?_); rintro e w' ⟨rfl, ⟨nd, rfl⟩⟩))
                go_meet
                case rel => exact ⟨_, (((t1297.length : Int) != t1303)), (by first | rfl | (simp; done) | (simp [*]; done)), H', ⟨by have := HJ4.out; first | omega | exact Nat.le_refl _⟩, ⟨kdU_ HO_3.out⟩, ⟨kdU_ HO_5.out⟩, ⟨bel_⟩⟩
              · rw [if_neg c18] at H
                have c18b0 : ((t1297.length : Int) == t1302) = false := beq_eq_false_iff_ne.mpr c18
                have c18b1 : ((t1297.length : Int) != t1302) = true := bne_iff_ne.mpr c18
                (first | rw [c18b0] | (simp only [i64_w, i32_w]; rw [c18b0]) | skip)
                have H' := Aside0.mk H
                clear H
                obtain ⟨Ao22, co22, eo22⟩ := Kd.R_slice HO_5.out
                subst eo22
                go_wp2_with (first | (go_at_call 31; (with_reducible refine (impl_GrowthLen.calls kj4 t1294 (t1293.length : Int) t1302 _ A17.out).mono ?_); rintro e w23 ⟨rfl, hb⟩; replace HO_3 := Aside0.mk (Kd.R_below (kdU_ HO_3.out) hb); replace HO_5 := Aside0.mk (Kd.R_below (kdU_ HO_5.out) hb); replace HB := stepB_ hb; (try clear hb)))
                go_meet
                case rel => exact ⟨_, (true), (by first | rfl | (simp; done) | (simp [*]; done)), H', ⟨by have := HJ4.out; first | omega | exact Nat.le_refl _⟩, ⟨kdU_ HO_3.out⟩, ⟨kdU_ HO_5.out⟩, ⟨bel_⟩⟩
            · replace c16 := Bool.eq_false_iff.mpr c16
              subst c16
              rw [if_neg (show ¬ (false = true) by decide)] at H
              have H' := Aside0.mk H
              clear H
              go_wp2
              go_meet
              case rel => exact ⟨_, (true), (by first | rfl | (simp; done) | (simp [*]; done)), H', ⟨by have := HJ4.out; first | omega | exact Nat.le_refl _⟩, ⟨kdU_ HO_3.out⟩, ⟨kdU_ HO_5.out⟩, ⟨bel_⟩⟩
          case rest =>
            clear HC15
            (try clear c2); (try clear c2b0); (try clear c2b1); (try clear c10); (try clear c11); (try clear c11b0); (try clear c12); (try clear c13); (try clear c16); (try clear c18); (try clear c18b0); (try clear c18b1)
            obtain ⟨kq, x60_14, rfl, HA, HJ14, HO_3, HO_5, HB⟩ := hcut
            cases kq with
            | zero => exact absurd HA.out (by simp [laws_FnGrowthProves.j1])
            | succ kj14 =>
              have H := HA.out
              clear HA
              simp only [laws_FnGrowthProves.j1] at H
              by_cases c24 : x60_14 = true
              · subst c24
                rw [if_pos rfl] at H
                exact absurd ((Option.some.inj H).trans hr_) (by decide)
              · replace c24 := Bool.eq_false_iff.mpr c24
                subst c24
                rw [if_neg (show ¬ (false = true) by decide)] at H
                by_cases c25 : 0 ≤ t1294
                · rw [if_pos c25] at H
                  have c25b0 := eq_true c25
                  have c25b1 : decide (0 ≤ t1294) = true := decide_eq_true c25
                  clear c25
                  by_cases c26 : t1294 ≤ (t1293.length : Int)
                  · rw [if_pos c26] at H
                    have c26b0 := eq_true c26
                    have c26b1 : decide (t1294 ≤ (t1293.length : Int)) = true := decide_eq_true c26
                    clear c26
                    obtain ⟨y1304, hy1304⟩ : ∃ y_ : List ByteArray, y_ = (t1293.take (t1294 : Int).toNat) := ⟨_, rfl⟩
                    replace H : ((impl_TreePoint.f kj14 y1304).bind fun bt1308 => ((impl_TreePoint.f kj14 t1293).bind fun bt1313 => ((impl_GrowthCheck.f kj14 bt1308.1 bt1308.2.1 bt1308.2.2.1 bt1308.2.2.2.1 bt1308.2.2.2.2 bt1313.1 bt1313.2.1 bt1313.2.2.1 bt1313.2.2.2.1 bt1313.2.2.2.2 t1297).bind fun t1318 => (some (t1318 == 0))))) = some r := by first | (rw [hy1304]; with_reducible exact H) | (have H2_ := (Option.bind_some _ _).symm.trans H; rw [hy1304]; with_reducible exact H2_) | (have H2_ := (Option.bind_some _ _).symm.trans H; with_reducible exact H2_) | with_reducible exact H | (rw [hy1304]; exact H) | exact H
                    have Ny1304 := Aside0.mk hy1304
                    clear hy1304
                    obtain ⟨⟨t1308, t1309, t1310, t1311, t1312⟩, A27, H⟩ := bnd_ H
                    dsimp only at H
                    obtain ⟨⟨t1313, t1314, t1315, t1316, t1317⟩, A28, H⟩ := bnd_ H
                    dsimp only at H
                    obtain ⟨t1318, A29, H⟩ := bnd_ H
                    obtain rfl := Option.some.inj H
                    have q30 : (t1294 : Int) ≤ ((t1293.length : Int) : Int) := ofd_
                    obtain ⟨i030, hi030, _, hsz30, _⟩ := info_parts info9
                    have hroom30 : t1293.length ≤ co7 := (Kd.R_reads' HO_3.out).2.1
                    have hC30 : Kd.C Kd.string _ Ao7 t1293.length t1293 := (Kd.R_reads' HO_3.out).2.2
                    have hcut30 := cut_to (P := Try.prog) 61 9 .i64 Try.underlying61 hi030 Ao7 t1293.length co7 t1294 (ofd_) q30 hroom30
                    have hr30 := Kd.C_take (m := (t1294 : Int).toNat) hC30 (by omega)
                    have hy30 : y1304.length = (t1294 : Int).toNat := (by rw [Ny1304.out, List.length_take]; omega)
                    rw [← Ny1304.out] at hr30
                    rw [← hy30] at hcut30
                    have HR1307 := Aside0.mk hr30
                    have HC1307 := Aside0.mk (show y1304.length ≤ co7 from by omega)
                    clear hr30 hC30 hroom30 hi030 hsz30
                    have KY30 := Aside0.mk hy30
                    clear hy30
                    have KL30 := Aside0.mk (show (t1294 : Int).toNat ≤ t1293.length from by omega)
                    replace q30 := eq_true q30
                    go_wp2_with (first | ((with_reducible refine gate_callee (f := 34) rfl ?_); refine goL_ (some 64) Try.func34 #[.slice Ao7 y1304.length co7] ?_; (with_reducible refine (impl_TreePoint.calls kj14 _ _ y1304 t1308 t1309 t1310 t1311 t1312 _ ?side1 ?side2 A27.out).mono ?_); (case side1 => repeat (first | exact (by repeat (first | (with_reducible exact HR1307.out) | (with_reducible refine Kd.C_alloc ?_ _) | (with_reducible refine Kd.C_drewN ?_ _) | (with_reducible refine Kd.C_drew ?_) | exact HR1307.out)) | (with_reducible refine Kd.C_alloc ?_ _) | (with_reducible refine Kd.C_drewN ?_ _) | (with_reducible refine Kd.C_drew ?_))); (case side2 => exact HC1307.out); rintro e w31 ⟨rfl, hb⟩; refine ⟨_, rfl, ?_⟩; replace HO_3 := Aside0.mk (Kd.R_below (kdU_ HO_3.out) hb); replace HO_5 := Aside0.mk (Kd.R_below (kdU_ HO_5.out) hb); replace HR1307 := Aside0.mk (Kd.C_below (by repeat (first | (with_reducible exact HR1307.out) | (with_reducible refine Kd.C_alloc ?_ _) | (with_reducible refine Kd.C_drewN ?_ _) | (with_reducible refine Kd.C_drew ?_) | exact HR1307.out)) hb); replace HB := stepB_ hb; (try clear hb)) | ((with_reducible refine gate_callee (f := 34) rfl ?_); refine goL_ (some 66) Try.func34 #[.slice Ao7 t1293.length co7] ?_; (with_reducible refine (impl_TreePoint.calls kj14 _ _ t1293 t1313 t1314 t1315 t1316 t1317 _ ?side1 ?side2 A28.out).mono ?_); (case side1 => repeat (first | exact (Kd.R_reads' HO_3.out).2.2 | (with_reducible refine Kd.C_alloc ?_ _) | (with_reducible refine Kd.C_drewN ?_ _) | (with_reducible refine Kd.C_drew ?_))); (case side2 => exact (Kd.R_reads' HO_3.out).2.1); rintro e w32 ⟨rfl, hb⟩; refine ⟨_, rfl, ?_⟩; replace HO_3 := Aside0.mk (Kd.R_below (kdU_ HO_3.out) hb); replace HO_5 := Aside0.mk (Kd.R_below (kdU_ HO_5.out) hb); replace HR1307 := Aside0.mk (Kd.C_below (by repeat (first | (with_reducible exact HR1307.out) | (with_reducible refine Kd.C_alloc ?_ _) | (with_reducible refine Kd.C_drewN ?_ _) | (with_reducible refine Kd.C_drew ?_) | exact HR1307.out)) hb); replace HB := stepB_ hb; (try clear hb); obtain ⟨Ao33, co33, eo33⟩ := Kd.R_slice HO_5.out; subst eo33) | ((with_reducible refine gate_callee (f := 33) rfl ?_); refine goL_ (some 68) Try.func33 #[.agg #[.int .i64 t1308, .int .u64 t1309, .int .u64 t1310, .int .u64 t1311, .int .u64 t1312], .agg #[.int .i64 t1313, .int .u64 t1314, .int .u64 t1315, .int .u64 t1316, .int .u64 t1317], .slice Ao33 t1297.length co33] ?_; (with_reducible refine (impl_GrowthCheck.calls kj14 t1308 t1309 t1310 t1311 t1312 t1313 t1314 t1315 t1316 t1317 _ _ t1297 t1318 _ ?side1 ?side2 A29.out).mono ?_); (case side1 => repeat (first | exact (Kd.R_reads' HO_5.out).2.2 | (with_reducible refine Kd.C_alloc ?_ _) | (with_reducible refine Kd.C_drewN ?_ _) | (with_reducible refine Kd.C_drew ?_))); (case side2 => exact (Kd.R_reads' HO_5.out).2.1); rintro e w34 ⟨rfl, hb⟩; refine ⟨_, rfl, ?_⟩; replace HO_3 := Aside0.mk (Kd.R_below (kdU_ HO_3.out) hb); replace HO_5 := Aside0.mk (Kd.R_below (kdU_ HO_5.out) hb); replace HR1307 := Aside0.mk (Kd.C_below (by repeat (first | (with_reducible exact HR1307.out) | (with_reducible refine Kd.C_alloc ?_ _) | (with_reducible refine Kd.C_drewN ?_ _) | (with_reducible refine Kd.C_drew ?_) | exact HR1307.out)) hb); replace HB := stepB_ hb; (try clear hb)))
                    go_ret
                    exact ⟨rfl_, bel_⟩
                  · rw [if_neg c26] at H
                    exact absurd H (by simp)
                · rw [if_neg c25] at H
                  exact absurd H (by simp)
end
end Go.Proofs.Ytflckegggopdnaa.B
