/- What the Go functions loop.example/belfry/impl.GrowthOf do is what the Lean functions .f of their names here say; condition: .f gives an answer. (Written by the session's program pp.py over the kit's print; Lean checks it.) -/
import Derived.Test.YtflckegggopdnaaZGPK
import Derived.Test.YtflckegggopdnaaZGPM
import Derived.Test.YtflckegggopdnaaZGPGFall1
import Derived.Test.YtflckegggopdnaaZGPGTree1
import Derived.Test.YtflckegggopdnaaZGPHCopiedD
namespace Go.Proofs.Ytflckegggopdnaa.B
open Go.RowKit Go.Proofs.YtflckegggopdnaaW.PrintWords Go.Proofs.YtflckegggopdnaaW.PrintLast Go.Proofs.YtflckegggopdnaaW.PrintMore
attribute [local go_sem] max2_int min2_int max_two min_two max_three min_three max_four min_four
set_option linter.unusedVariables false
set_option linter.unusedSimpArgs false
section
mutual
def impl_GrowthOf.j0 : Nat → List ByteArray → Int → Bool → Option ((List (S29)) × Bool)
  | 0, _, _, _ => none
  | k + 1, x0, x1, x20 => if x20 = true then (some (([] : List (S29)), false)) else (if x1 = 0 then (impl_GrowthOf.j1 k x0 x1 true) else (impl_GrowthOf.j1 k x0 x1 (x1 == (x0.length : Int))))
def impl_GrowthOf.j1 : Nat → List ByteArray → Int → Bool → Option ((List (S29)) × Bool)
  | 0, _, _, _ => none
  | k + 1, x0, x1, x28 => if x28 = true then (some (([] : List (S29)), true)) else ((impl_growthNodes.f k x1 (x0.length : Int)).bind fun bt1264 => (if bt1264.1.length + bt1264.2.length < 8796093022208 then ((some (bt1264.1 ++ bt1264.2 : List (S100))).bind fun y1270 => (impl_GrowthOf.l0 k x0 ([] : List (S29)) y1270 (y1270.length : Int) 0)) else (none)))
def impl_GrowthOf.l0 : Nat → List ByteArray → List (S29) → List (S100) → Int → Int → Option ((List (S29)) × Bool)
  | 0, _, _, _, _, _ => none
  | k + 1, x0, x8, x38, x39, x40 => if x40 < x39 then (if 0 ≤ x40 then (if x40 < (x38.length : Int) then (if 0 ≤ ((rd_T100 x38 x40).f0) then (if ((rd_T100 x38 x40).f0) ≤ ((rd_T100 x38 x40).f1) then (if ((rd_T100 x38 x40).f1) ≤ (x0.length : Int) then ((impl_rootOf.f k ((x0.take (((rd_T100 x38 x40).f1) : Int).toNat).drop (((rd_T100 x38 x40).f0) : Int).toNat)).bind fun bt1276 => (if x8.length < 4398046511104 then (impl_GrowthOf.l0 k x0 (x8 ++ [(⟨bt1276.1, bt1276.2.1, bt1276.2.2.1, bt1276.2.2.2⟩ : S29)]) x38 x39 (wrap64 (x40 + 1))) else (none))) else (none)) else (none)) else (none)) else (none)) else (none)) else ((impl_Digest.f x8).bind fun t1283 => (some (t1283, true)))
end
def impl_GrowthOf.f (k : Nat) (l0 : List ByteArray) (a1 : Int) : Option ((List (S29)) × Bool) := (impl_LeavesOk.f k l0).bind fun t1262 => (if t1262 = true then ((impl_mayGrow.f a1 (l0.length : Int)).bind fun t1263 => (impl_GrowthOf.j0 k l0 a1 (!t1263))) else (impl_GrowthOf.j0 k l0 a1 true))
set_option maxHeartbeats 8000000 in
set_option maxRecDepth 100000 in
theorem impl_GrowthOf.calls (k : Nat) (A0 : Option Addr) (c0 : Nat) (l0 : List ByteArray) (a1 : Int) (r1 : List (S29)) (r2 : Bool) (w : World) (hr0 : Kd.C Kd.string w A0 l0.length l0) (hc0 : l0.length ≤ c0) (h : impl_GrowthOf.f k l0 a1 = some (r1, r2)) :
    Calls Try.prog 29 #[.slice A0 l0.length c0, .int .i64 a1] w fun e w' => ∃ v0_ : Value, e = .returned (.tuple #[v0_, .bool r2]) ∧ Kd.R k29 29 w' w.heap.size (fun _ => True) v0_ r1 ∧ Below w.heap.size w w' := by
  have hu100 := Try.underlying100
  have HR0 := Aside0.mk hr0
  have HC0 := Aside0.mk hc0
  clear hr0 hc0
  have HB := Aside0.mk (Below.refl w.heap.size w)
  have H : ((impl_LeavesOk.f k l0).bind fun t1262 => (if t1262 = true then ((impl_mayGrow.f a1 (l0.length : Int)).bind fun t1263 => (impl_GrowthOf.j0 k l0 a1 (!t1263))) else (impl_GrowthOf.j0 k l0 a1 true))) = some (r1, r2) := h
  clear h
  have HC3 := Aside0.mk H
  clear H
  go_enter Try.func29, Try.ntmps29
  go_upto_region 1 with (fail)
  go_cut [20] (fun v20 wc => ∃ (kq : Nat) (x20_2 : Bool), v20 = .bool x20_2 ∧ Aside0 (impl_GrowthOf.j0 kq l0 a1 x20_2 = some (r1, r2)) ∧ Aside0 (kq ≤ k) ∧ Aside0 (Below w.heap.size w wc))
  case first =>
    have H := HC3.out
    clear HC3
    obtain ⟨t1262, A4, H⟩ := bnd_ H
    by_cases c5 : t1262 = true
    · subst c5
      rw [if_pos rfl] at H
      obtain ⟨t1263, A6, H⟩ := bnd_ H
      have H' := Aside0.mk H
      clear H
      go_wp2_with (first | ((with_reducible refine gate_callee (f := 61) rfl ?_); refine goL_ (some 12) Try.func61 #[.slice A0 l0.length c0] ?_; (with_reducible refine (impl_LeavesOk.calls k _ _ l0 true _ ?side1 ?side2 A4.out).mono ?_); (case side1 => repeat (first | exact (Kd.C_below HR0.out HB.out) | (with_reducible refine Kd.C_alloc ?_ _) | (with_reducible refine Kd.C_drewN ?_ _) | (with_reducible refine Kd.C_drew ?_))); (case side2 => exact HC0.out); rintro e w' ⟨rfl, ⟨nd, rfl⟩⟩; refine ⟨_, rfl, ?_⟩) | (go_at_call 62; (with_reducible refine (impl_mayGrow.calls a1 (l0.length : Int) t1263 _ A6.out).mono ?_); rintro e w' ⟨rfl, ⟨nd, rfl⟩⟩))
      go_meet
      case rel => exact ⟨_, (!t1263), (by first | rfl | (simp; done) | (simp [*]; done)), H', ⟨by first | omega | exact Nat.le_refl _⟩, ⟨bel_⟩⟩
    · replace c5 := Bool.eq_false_iff.mpr c5
      subst c5
      rw [if_neg (show ¬ (false = true) by decide)] at H
      have H' := Aside0.mk H
      clear H
      go_wp2_with (first | ((with_reducible refine gate_callee (f := 61) rfl ?_); refine goL_ (some 12) Try.func61 #[.slice A0 l0.length c0] ?_; (with_reducible refine (impl_LeavesOk.calls k _ _ l0 false _ ?side1 ?side2 A4.out).mono ?_); (case side1 => repeat (first | exact (Kd.C_below HR0.out HB.out) | (with_reducible refine Kd.C_alloc ?_ _) | (with_reducible refine Kd.C_drewN ?_ _) | (with_reducible refine Kd.C_drew ?_))); (case side2 => exact HC0.out); rintro e w' ⟨rfl, ⟨nd, rfl⟩⟩; refine ⟨_, rfl, ?_⟩))
      go_meet
      case rel => exact ⟨_, (true), (by first | rfl | (simp; done) | (simp [*]; done)), H', ⟨by first | omega | exact Nat.le_refl _⟩, ⟨bel_⟩⟩
  case rest =>
    clear HC3
    (try clear c5)
    obtain ⟨kq, x20_2, rfl, HA, HJ2, HB⟩ := hcut
    cases kq with
    | zero => exact absurd HA.out (by simp [impl_GrowthOf.j0])
    | succ kj2 =>
      have H := HA.out
      clear HA
      simp only [impl_GrowthOf.j0] at H
      by_cases c7 : x20_2 = true
      · subst c7
        rw [if_pos rfl] at H
        simp only [Option.some.injEq, Prod.mk.injEq] at H
        obtain ⟨rfl, rfl⟩ := H
        go_wp2
        go_ret2
        exact ⟨_, rfl_, by first | exact Kd.R_nil _ _ _ _ _ | exact Kd.N_nil _ _ _ _ _ | exact Kd.V_nil _ _ _ _ _ | exact Kd.Q_nil _ _ _ _ _ | exact Kd.S_nil _ _ _ _ _, bel_⟩
      · replace c7 := Bool.eq_false_iff.mpr c7
        subst c7
        rw [if_neg (show ¬ (false = true) by decide)] at H
        have HC8 := Aside0.mk H
        clear H
        go_upto_region 3 with (fail)
        go_cut [28] (fun v28 wc => ∃ (kq : Nat) (x28_7 : Bool), v28 = .bool x28_7 ∧ Aside0 (impl_GrowthOf.j1 kq l0 a1 x28_7 = some (r1, r2)) ∧ Aside0 (kq ≤ kj2) ∧ Aside0 (Below w.heap.size w wc))
        case first =>
          have H := HC8.out
          clear HC8
          by_cases c9 : a1 = 0
          · rw [if_pos c9] at H
            have c9b0 : (a1 == 0) = true := beq_iff_eq.mpr c9
            have c9b1 : (a1 != 0) = false := bne_eq_false_iff_eq.mpr c9
            clear c9
            (first | rw [c9b0] | (simp only [i64_w, i32_w]; rw [c9b0]) | skip)
            have H' := Aside0.mk H
            clear H
            go_wp2
            go_meet
            case rel => exact ⟨_, (true), (by first | rfl | (simp; done) | (simp [*]; done)), H', ⟨by have := HJ2.out; first | omega | exact Nat.le_refl _⟩, ⟨bel_⟩⟩
          · rw [if_neg c9] at H
            have c9b0 : (a1 == 0) = false := beq_eq_false_iff_ne.mpr c9
            have c9b1 : (a1 != 0) = true := bne_iff_ne.mpr c9
            (first | rw [c9b0] | (simp only [i64_w, i32_w]; rw [c9b0]) | skip)
            have H' := Aside0.mk H
            clear H
            go_wp2
            go_meet
            case rel => exact ⟨_, ((a1 == (l0.length : Int))), (by first | rfl | (simp; done) | (simp [*]; done)), H', ⟨by have := HJ2.out; first | omega | exact Nat.le_refl _⟩, ⟨bel_⟩⟩
        case rest =>
          clear HC8
          (try clear c5); (try clear c7); (try clear c9); (try clear c9b0); (try clear c9b1)
          obtain ⟨kq, x28_7, rfl, HA, HJ7, HB⟩ := hcut
          cases kq with
          | zero => exact absurd HA.out (by simp [impl_GrowthOf.j1])
          | succ kj7 =>
            have H := HA.out
            clear HA
            simp only [impl_GrowthOf.j1] at H
            by_cases c10 : x28_7 = true
            · subst c10
              rw [if_pos rfl] at H
              simp only [Option.some.injEq, Prod.mk.injEq] at H
              obtain ⟨rfl, rfl⟩ := H
              go_wp2
              go_ret2
              exact ⟨_, rfl_, by first | exact Kd.R_nil _ _ _ _ _ | exact Kd.N_nil _ _ _ _ _ | exact Kd.V_nil _ _ _ _ _ | exact Kd.Q_nil _ _ _ _ _ | exact Kd.S_nil _ _ _ _ _, bel_⟩
            · replace c10 := Bool.eq_false_iff.mpr c10
              subst c10
              rw [if_neg (show ¬ (false = true) by decide)] at H
              obtain ⟨⟨t1264, t1265⟩, A11, H⟩ := bnd_ H
              dsimp only at H
              by_cases c12 : t1264.length + t1265.length < 8796093022208
              · rw [if_pos c12] at H
                have LMc12 := Aside0.mk c12
                clear c12
                obtain ⟨y1270, hy1270⟩ : ∃ y_ : List (S100), y_ = (t1264 ++ t1265) := ⟨_, rfl⟩
                replace H : (impl_GrowthOf.l0 kj7 l0 ([] : List (S29)) y1270 (y1270.length : Int) 0) = some (r1, r2) := by first | (rw [hy1270]; with_reducible exact H) | (have H2_ := (Option.bind_some _ _).symm.trans H; rw [hy1270]; with_reducible exact H2_) | (have H2_ := (Option.bind_some _ _).symm.trans H; with_reducible exact H2_) | with_reducible exact H | (rw [hy1270]; exact H) | exact H
                have Ny1270 := Aside0.mk hy1270
                clear hy1270
                have H' := Aside0.mk H
                clear H
                go_wp2_with (first | ((with_reducible refine gate_callee (f := 63) rfl ?_); refine goL_ (some 33) Try.func63 #[.int .i64 a1, .int .i64 (l0.length : Int)] ?_; (with_reducible refine (impl_growthNodes.calls kj7 a1 (l0.length : Int) t1264 t1265 _ A11.out).mono ?_); rintro e w13 ⟨v1266, v1268, rfl, ho0, ho1, hb⟩; refine ⟨_, rfl, ?_⟩; have HO1267 := Aside0.mk (Kd.R_lower ho0 (below_size bel_)); have HO1269 := Aside0.mk (Kd.R_lower ho1 (below_size bel_)); replace HB := stepB_ hb; (try clear hb); (try clear hk); (try clear ho0); (try clear ho1); obtain ⟨Ao15, co15, eo15⟩ := Kd.R_slice HO1269.out; subst eo15) | ((with_reducible refine gate_builtin (b := .append) (xs := #[.tmp 36, .tmp 37]) rfl ?_); (try (refine gate_guard (by rfl) ?_; dsimp only)); at_builtin; refine Kd.R_append_rows k100 (w0 := w) w.heap.size rfl (.tmp 36) (.tmp 37) 96 100 (.agg #[(.int .i64 0), (.int .i64 0)]) 16 rfl Try.underlying96 info100 rfl (by decide) (by omega) v1266 t1264 t1265 _ _ _ (fun k_ => some k_ ≠ (.slice Ao15 t1265.length co15 : Value).ownBlock) (fun _ => False) rfl rfl ?aO ?aR (fun _ _ h => h) (fun _ h => h.elim) ?aF ?aB ?aS ?aL ?_; (case aR => repeat (first | exact (Kd.R_reads' HO1269.out).2.2 | (with_reducible refine Kd.C_alloc ?_ _) | (with_reducible refine Kd.C_drewN ?_ _) | (with_reducible refine Kd.C_drew ?_))); (case aB => exact bel_); (case aF => exact (fun k_ hk => Kd.fresh' (Kd.R_lt (kdU_ HO1269.out)) k_ hk)); (case aO => exact (kdU_ HO1267.out)); (case aS => exact (below_size bel_)); (case aL => have := LMc12.out; omega); intro v1271 w14 ho hb hg hat; rw [← Ny1270.out] at ho; replace HO1269 := Aside0.mk (Kd.R_after (ok := (fun _ => True)) (by (with_reducible repeat (first | apply Kd.R_alloc | apply Kd.R_drewN | apply Kd.R_drew)); exact Kd.R_mono HO1269.out (fun _ hk => ⟨trivial, hk⟩)) hg hat); replace HB := Aside0.mk (hb); have HO1272 := Aside0.mk (ho); clear HO1267; clear ho hb hg hat; obtain ⟨Ao16, co16, eo16⟩ := Kd.R_slice HO1272.out; subst eo16))
                go_loopg [8, 40] kj7 (fun kq v8 v40 w' => ∃ (x8_3 : List (S29)) (x40_3 : Int), v40 = .int .i64 x40_3 ∧ Aside0 (impl_GrowthOf.l0 kq l0 x8_3 y1270 (y1270.length : Int) x40_3 = some (r1, r2)) ∧ Aside0 (kq ≤ kj7) ∧ Aside0 (Kd.R k29 29 w' w.heap.size (fun _ => True) v8 x8_3) ∧ Aside0 (Kd.R k100 100 w' w.heap.size (fun _ => True) (.slice Ao16 y1270.length co16) y1270) ∧ Aside0 (Below w.heap.size w w'))
                case atStart => exact ⟨(([] : List (S29))), (0), (by first | rfl | (simp; done) | (simp [*]; done)), H', ⟨Nat.le_refl _⟩, ⟨by first | exact Kd.R_nil _ _ _ _ _ | exact Kd.N_nil _ _ _ _ _ | exact Kd.V_nil _ _ _ _ _ | exact Kd.Q_nil _ _ _ _ _ | exact Kd.S_nil _ _ _ _ _⟩, ⟨by (with_reducible repeat (first | apply Kd.R_alloc | apply Kd.R_drewN | apply Kd.R_drew)); exact Kd.R_mono HO1272.out (fun _ hk => trivial)⟩, ⟨bel_⟩⟩
                case round =>
                  clear H'
                  (try clear c5); (try clear c7); (try clear c9); (try clear c9b0); (try clear c9b1); (try clear c10); (try clear c12)
                  obtain ⟨x8_3, x40_3, rfl, HA, HK3, HO_8, HO_38, HB⟩ := hrel
                  cases gk with
                  | zero => exact absurd HA.out (by simp [impl_GrowthOf.l0])
                  | succ k3 =>
                    have H := HA.out
                    clear HA
                    simp only [impl_GrowthOf.l0] at H
                    by_cases c17 : x40_3 < (y1270.length : Int)
                    · rw [if_pos c17] at H
                      have c17b0 : decide (x40_3 < (y1270.length : Int)) = true := decide_eq_true c17
                      clear c17
                      by_cases c18 : 0 ≤ x40_3
                      · rw [if_pos c18] at H
                        have c18b0 : decide (0 ≤ x40_3) = true := decide_eq_true c18
                        clear c18
                        by_cases c19 : x40_3 < (y1270.length : Int)
                        · rw [if_pos c19] at H
                          have c19b0 : decide (x40_3 < (y1270.length : Int)) = true := decide_eq_true c19
                          clear c19
                          by_cases c20 : 0 ≤ ((rd_T100 y1270 x40_3).f0)
                          · rw [if_pos c20] at H
                            have c20b0 := eq_true c20
                            have c20b1 : decide (0 ≤ ((rd_T100 y1270 x40_3).f0)) = true := decide_eq_true c20
                            clear c20
                            by_cases c21 : ((rd_T100 y1270 x40_3).f0) ≤ ((rd_T100 y1270 x40_3).f1)
                            · rw [if_pos c21] at H
                              have c21b0 := eq_true c21
                              have c21b1 : decide (((rd_T100 y1270 x40_3).f0) ≤ ((rd_T100 y1270 x40_3).f1)) = true := decide_eq_true c21
                              clear c21
                              by_cases c22 : ((rd_T100 y1270 x40_3).f1) ≤ (l0.length : Int)
                              · rw [if_pos c22] at H
                                have c22b0 := eq_true c22
                                have c22b1 : decide (((rd_T100 y1270 x40_3).f1) ≤ (l0.length : Int)) = true := decide_eq_true c22
                                clear c22
                                obtain ⟨⟨t1276, t1277, t1278, t1279⟩, A23, H⟩ := bnd_ H
                                dsimp only at H
                                by_cases c24 : x8_3.length < 4398046511104
                                · rw [if_pos c24] at H
                                  have LMc24 := Aside0.mk c24
                                  clear c24
                                  obtain ⟨y1280, hy1280⟩ : ∃ y_ : List (S29), y_ = (x8_3 ++ [(⟨t1276, t1277, t1278, t1279⟩ : S29)]) := ⟨_, rfl⟩
                                  replace H : (impl_GrowthOf.l0 k3 l0 y1280 y1270 (y1270.length : Int) (wrap64 (x40_3 + 1))) = some (r1, r2) := by first | (rw [hy1280]; with_reducible exact H) | (have H2_ := (Option.bind_some _ _).symm.trans H; rw [hy1280]; with_reducible exact H2_) | (have H2_ := (Option.bind_some _ _).symm.trans H; with_reducible exact H2_) | with_reducible exact H | (rw [hy1280]; exact H) | exact H
                                  have Ny1280 := Aside0.mk hy1280
                                  clear hy1280
                                  have H' := Aside0.mk H
                                  clear H
                                  have p1273 : 0 ≤ (x40_3 : Int) := ofd_
                                  have q1273 : x40_3 < (y1270.length : Int) := ofd_
                                  obtain ⟨ad1273, e1273, hx1273_0, hx1273_1⟩ := at_T100 (Kd.R_reads' HO_38.out).2.2 x40_3 p1273 q1273
                                  cases e1273
                                  replace p1273 := eq_true p1273
                                  replace q1273 := eq_true q1273
                                  go_wp2_with (first | ((with_reducible refine gate_dst (N := 10) rfl ?_); (try (refine gate_guard (by rfl) ?_; dsimp only)); refine boxE_ (cs := #[.int .i64 0, .int .i64 0]) (t := 100) ?_; intro gb1274 hg w25 hbox hb; replace HO_8 := Aside0.mk (Kd.R_below (kdU_ HO_8.out) hb); replace HO_38 := Aside0.mk (Kd.R_below (Kd.R_elderB (kdU_ HO_38.out) gb1274 (Nat.le_of_eq hg.symm)) hb); have BK1274 := Aside0.mk (hbox); have GW1274 := sizeB_ hg; have GE1274 := sizeB_ hg; replace HB := stepB_ hb; clear hb hbox hg; obtain ⟨hcz26_0, hcz26_1, hfz26_0, hfz26_1⟩ := cz2_ BK1274.out; obtain ⟨i027, hi027, _, hsz27, _⟩ := info_parts info9; obtain ⟨A27, hcut27, hA27, hC27⟩ := print_mid_of (P := Try.prog) Value.string (⟨#[]⟩ : ByteArray) 61 9 .i64 .i64 Try.underlying61 hi027 hsz27 A0 c0 l0 ((rd_T100 y1270 x40_3).f0) ((rd_T100 y1270 x40_3).f1) (ofd_) (by first | omega | exact ofd_) (ofd_) HC0.out; have HR1275 := Aside0.mk (Kd.C_of_reads (h1 := fun _ => rfl) (hA27 _ (Kd.reads_of_C HR0.out))); have HC1275 := Aside0.mk hC27; clear hA27 hC27 hi027 hsz27) | ((with_reducible refine gate_callee (f := 64) rfl ?_); refine goesL_ (some 51) rfl rfl Try.func64 (by kernel_rfl) rfl #[.slice A27 ((l0.take (((rd_T100 y1270 x40_3).f1) : Int).toNat).drop (((rd_T100 y1270 x40_3).f0) : Int).toNat).length (c0 - ((rd_T100 y1270 x40_3).f0).toNat)] rfl (by (try simp only [List.map_toArray, List.map_cons, List.map_nil]); first | done | (rw [show ((l0.take (((rd_T100 y1270 x40_3).f1) : Int).toNat).drop (((rd_T100 y1270 x40_3).f0) : Int).toNat).length = (((rd_T100 y1270 x40_3).f1).toNat - ((rd_T100 y1270 x40_3).f0).toNat) from (by rw [List.length_drop, List.length_take]; have h_ : (((rd_T100 y1270 x40_3).f1) : Int) ≤ (l0.length : Int) := ofd_; omega)] <;> rfl) | rfl | (simp only [List.length_drop, List.length_take]; rfl)) ?_; (with_reducible refine (impl_rootOf.calls k3 _ _ ((l0.take (((rd_T100 y1270 x40_3).f1) : Int).toNat).drop (((rd_T100 y1270 x40_3).f0) : Int).toNat) t1276 t1277 t1278 t1279 _ ?side1 ?side2 A23.out).mono ?_); (case side1 => exact Kd.C_below HR1275.out bel_); (case side2 => exact HC1275.out); rintro e w28 ⟨rfl, hb⟩; refine ⟨_, rfl, ?_⟩; replace HO_8 := Aside0.mk (Kd.R_below (by (with_reducible repeat (first | apply Kd.R_alloc | apply Kd.R_drewN | apply Kd.R_drew)); exact (Kd.R_mono (Kd.R_far (p := ⟨gb1274, 1, none⟩) (Kd.R_far (p := ⟨gb1274, 0, none⟩) (Kd.R_types HO_8.out BK1274.out (by decide)) (fun _ hk => hk.2) (.int .i64 ((rd_T100 y1270 x40_3).f0))) (fun _ hk => hk.2) (.int .i64 ((rd_T100 y1270 x40_3).f1))) (fun _ h_ => h_.1))) hb); replace HO_38 := Aside0.mk (Kd.R_below (by (with_reducible repeat (first | apply Kd.R_alloc | apply Kd.R_drewN | apply Kd.R_drew)); exact (Kd.R_mono (Kd.R_far (p := ⟨gb1274, 1, none⟩) (Kd.R_far (p := ⟨gb1274, 0, none⟩) (Kd.R_mono HO_38.out (fun k_ hk => (⟨hk, hk.2⟩ : _ ∧ k_ ≠ gb1274))) (fun _ hk => hk.2) (.int .i64 ((rd_T100 y1270 x40_3).f0))) (fun _ hk => hk.2) (.int .i64 ((rd_T100 y1270 x40_3).f1))) (fun _ h_ => h_.1))) hb); replace BK1274 := blkPB_ (cs := #[.int .i64 ((rd_T100 y1270 x40_3).f0), .int .i64 ((rd_T100 y1270 x40_3).f1)]) BK1274.out hb; replace HB := stepB_ hb; (try clear hb); (try clear hk)) | ((with_reducible refine gate_builtin (b := .append) (xs := #[.tmp 44, .tmp 52]) rfl ?_); (try (refine gate_guard (by rfl) ?_; dsimp only)); at_builtin; refine Kd.R_append k29 (w0 := w) w.heap.size rfl (.tmp 44) (.tmp 52) 49 29 (.agg #[(.int .u64 0), (.int .u64 0), (.int .u64 0), (.int .u64 0)]) 32 rfl Try.underlying49 info29 rfl (by decide) (by omega) u8 x8_3 (⟨t1276, t1277, t1278, t1279⟩ : S29) [.int .u64 t1276, .int .u64 t1277, .int .u64 t1278, .int .u64 t1279] (fun _ => True) (fun _ => False) rfl rfl ?aP (fun _ hk => hk.elim) ?aF ?aO ?aB ?aS ?aL ?_; (case aP => exact k29_mkM _ _ _ (⟨t1276, t1277, t1278, t1279⟩ : S29)); (case aB => exact bel_); (case aF => exact (fun _ _ => trivial)); (case aO => exact (kdU_ HO_8.out)); (case aS => exact (below_size bel_)); (case aL => have := LMc24.out; omega); intro v1281 w29 ho hb hg hat; rw [← Ny1280.out] at ho; replace HO_38 := Aside0.mk (Kd.R_over' (kdU_ HO_38.out) (Kd.R_typed (kdU_ HO_8.out)) (by decide) hg); replace BK1274 := Aside0.mk (blk_grown (g := gb1274) (o := .cells #[.int .i64 ((rd_T100 y1270 x40_3).f0), .int .i64 ((rd_T100 y1270 x40_3).f1)] 100 (0, 0)) (blkU_ BK1274.out) hg (Kd.R_ne HO_8.out BK1274.out (by decide))); replace HB := Aside0.mk (hb); have HO1282 := Aside0.mk (ho); clear HO_8; clear ho hb hg hat))
                                  go_roundg k3
                                  case measure => have := HJ2.out; have := HJ7.out; have := HK3.out; omega
                                  case rel => exact ⟨(y1280), (wrap64 (x40_3 + 1)), (by first | rfl | (simp; done) | (simp [*]; done)), H', ⟨by have := HJ2.out; have := HJ7.out; have := HK3.out; omega⟩, ⟨kdU_ HO1282.out⟩, ⟨by (with_reducible repeat (first | apply Kd.R_alloc | apply Kd.R_drewN | apply Kd.R_drew)); exact Kd.R_mono HO_38.out (fun _ hk => trivial)⟩, ⟨bel_⟩⟩
                                · rw [if_neg c24] at H
                                  exact absurd H (by simp)
                              · rw [if_neg c22] at H
                                exact absurd H (by simp)
                            · rw [if_neg c21] at H
                              exact absurd H (by simp)
                          · rw [if_neg c20] at H
                            exact absurd H (by simp)
                        · rw [if_neg c19] at H
                          exact absurd H (by simp)
                      · rw [if_neg c18] at H
                        exact absurd H (by simp)
                    · rw [if_neg c17] at H
                      have c17b0 : decide (x40_3 < (y1270.length : Int)) = false := decide_eq_false c17
                      clear c17
                      obtain ⟨t1283, A30, H⟩ := bnd_ H
                      simp only [Option.some.injEq, Prod.mk.injEq] at H
                      obtain ⟨rfl, rfl⟩ := H
                      obtain ⟨Ao31, co31, eo31⟩ := Kd.R_slice HO_8.out
                      subst eo31
                      go_wp2_with (first | ((with_reducible refine gate_callee (f := 65) rfl ?_); refine goL_ (some 56) Try.func65 #[.slice Ao31 x8_3.length co31] ?_; (with_reducible refine (impl_Digest.calls _ _ x8_3 t1283 _ ?side1 ?side2 A30.out).mono ?_); (case side1 => repeat (first | exact (Kd.R_reads' HO_8.out).2.2 | (with_reducible refine Kd.C_alloc ?_ _) | (with_reducible refine Kd.C_drewN ?_ _) | (with_reducible refine Kd.C_drew ?_))); (case side2 => exact (Kd.R_reads' HO_8.out).2.1); rintro e w32 ⟨v1284, rfl, ho0, hb⟩; refine ⟨_, rfl, ?_⟩; replace HO_38 := Aside0.mk (Kd.R_below (kdU_ HO_38.out) hb); have HO1285 := Aside0.mk (Kd.R_lower (Kd.R_new' ho0 (Kd.R_lt (kdU_ HO_8.out))) (below_size bel_)); replace HO_8 := Aside0.mk (Kd.R_elder' (kdU_ HO_8.out) (Kd.R_base ho0) hb); replace HB := stepB_ hb; (try clear hb); (try clear hk); (try clear ho0)))
                      go_ret2
                      exact ⟨_, rfl_, by (with_reducible repeat (first | apply Kd.R_alloc | apply Kd.R_drewN | apply Kd.R_drew)); exact Kd.R_mono HO1285.out (fun _ hk => trivial), bel_⟩
              · rw [if_neg c12] at H
                exact absurd H (by simp)
end
end Go.Proofs.Ytflckegggopdnaa.B
