/- What the Go functions loop.example/belfry/impl.PathOf do is what the Lean functions .f of their names here say; condition: .f gives an answer. (Written by the session's program pp.py over the kit's print; Lean checks it.) -/
import Derived.Test.YtemfciflhbhobaaK
import Derived.Test.YtemfciflhbhobaaM
import Derived.Test.YtemfciflhbhobaaGSplit1
import Derived.Test.YtemfciflhbhobaaGTree1
import Derived.Test.YtemfciflhbhobaaGWay1
import Derived.Test.YtemfciflhbhobaaHCopiedD
namespace Go.Proofs.Ytemfciflhbhobaa.B
open Go.RowKit Go.Proofs.YtemfciflhbhobaaW.PrintWords Go.Proofs.YtemfciflhbhobaaW.PrintLast Go.Proofs.YtemfciflhbhobaaW.PrintMore
attribute [local go_sem] max2_int min2_int max_two min_two max_three min_three max_four min_four   -- for this text's walks alone
set_option linter.unusedVariables false
set_option linter.unusedSimpArgs false

section
/-! ### impl_PathOf: function 70 -/
mutual
def impl_PathOf.j0 : Nat → List ByteArray → Int → Bool → Option ((List (S29)) × Bool)
  | 0, _, _, _ => none
  | k + 1, x0, x1, x21 => if x21 = true then (some (([] : List (S29)), false)) else ((impl_way.f k (x0.length : Int) x1).bind fun t1522 => (impl_PathOf.l0 k x0 x1 t1522 ([] : List (S29)) (wrap64 ((t1522.length : Int) - 1))))
def impl_PathOf.l0 : Nat → List ByteArray → Int → List (S120) → List (S29) → Int → Option ((List (S29)) × Bool)
  | 0, _, _, _, _, _ => none
  | k + 1, x0, x1, x6, x7, x8 => if x8 ≥ 0 then (if 0 ≤ x8 then (if x8 < (x6.length : Int) then ((impl_node_halves.f k ((rd_T120 x6 x8).f0) ((rd_T120 x6 x8).f1)).bind fun bt1529 => (if x1 < bt1529.2.1 then (if 0 ≤ bt1529.2.2.1 then (if bt1529.2.2.1 ≤ bt1529.2.2.2 then (if bt1529.2.2.2 ≤ (x0.length : Int) then ((impl_rootOf.f k ((x0.take (bt1529.2.2.2 : Int).toNat).drop (bt1529.2.2.1 : Int).toNat)).bind fun bt1536 => (if x7.length < 4398046511104 then (impl_PathOf.l0 k x0 x1 x6 (x7 ++ [(⟨bt1536.1, bt1536.2.1, bt1536.2.2.1, bt1536.2.2.2⟩ : S29)]) (wrap64 (x8 - 1))) else (none))) else (none)) else (none)) else (none)) else (if 0 ≤ bt1529.1 then (if bt1529.1 ≤ bt1529.2.1 then (if bt1529.2.1 ≤ (x0.length : Int) then ((impl_rootOf.f k ((x0.take (bt1529.2.1 : Int).toNat).drop (bt1529.1 : Int).toNat)).bind fun bt1544 => (if x7.length < 4398046511104 then (impl_PathOf.l0 k x0 x1 x6 (x7 ++ [(⟨bt1544.1, bt1544.2.1, bt1544.2.2.1, bt1544.2.2.2⟩ : S29)]) (wrap64 (x8 - 1))) else (none))) else (none)) else (none)) else (none)))) else (none)) else (none)) else ((impl_Digest.f x7).bind fun t1525 => (some (t1525, true)))
end
def impl_PathOf.f (k : Nat) (l0 : List ByteArray) (a1 : Int) : Option ((List (S29)) × Bool) := (impl_LeavesOk.f k l0).bind fun t1520 => (if t1520 = true then ((impl_in.f a1 0 (wrap64 ((l0.length : Int) - 1))).bind fun t1521 => (impl_PathOf.j0 k l0 a1 (!t1521))) else (impl_PathOf.j0 k l0 a1 true))
theorem impl_PathOf.mono_l : ∀ k, (∀ y0 y1 y2, LeO (impl_PathOf.j0 k y0 y1 y2) (impl_PathOf.j0 (k + 1) y0 y1 y2)) ∧ (∀ y0 y1 y2 y3 y4, LeO (impl_PathOf.l0 k y0 y1 y2 y3 y4) (impl_PathOf.l0 (k + 1) y0 y1 y2 y3 y4))
  | 0 => ⟨fun _ _ _ r h => by simp [impl_PathOf.j0] at h, fun _ _ _ _ _ r h => by simp [impl_PathOf.l0] at h⟩
  | k + 1 => by
    obtain ⟨ih0, ih1⟩ := impl_PathOf.mono_l k
    refine ⟨?_, ?_⟩
    · intro y0 y1 y2
      unfold impl_PathOf.j0
      repeat' first | (with_reducible first | exact ih0 _ _ _ | exact ih1 _ _ _ _ _ | exact impl_LeavesOk.mono _ _ | exact impl_node_halves.mono _ _ _ | exact impl_rootOf.mono _ _ | exact impl_way.mono _ _ _ | exact LeO.refl _ | exact LeO.none _ | refine LeO.ite ?_ ?_ | refine LeO.bind ?_ (fun _ => ?_)) | exact ih0 _ _ _ | exact ih1 _ _ _ _ _ | exact LeO.none _ | refine LeO.ite ?_ ?_ | refine LeO.bind ?_ (fun _ => ?_)
    · intro y0 y1 y2 y3 y4
      unfold impl_PathOf.l0
      repeat' first | (with_reducible first | exact ih0 _ _ _ | exact ih1 _ _ _ _ _ | exact impl_LeavesOk.mono _ _ | exact impl_node_halves.mono _ _ _ | exact impl_rootOf.mono _ _ | exact impl_way.mono _ _ _ | exact LeO.refl _ | exact LeO.none _ | refine LeO.ite ?_ ?_ | refine LeO.bind ?_ (fun _ => ?_)) | exact ih0 _ _ _ | exact ih1 _ _ _ _ _ | exact LeO.none _ | refine LeO.ite ?_ ?_ | refine LeO.bind ?_ (fun _ => ?_)
theorem impl_PathOf.mono : ∀ a0 a1 k, LeO (impl_PathOf.f k a0 a1) (impl_PathOf.f (k + 1) a0 a1) := by
  intro a0 a1 k
  obtain ⟨ih0, ih1⟩ := impl_PathOf.mono_l k
  unfold impl_PathOf.f
  repeat' first | (with_reducible first | exact ih0 _ _ _ | exact ih1 _ _ _ _ _ | exact impl_LeavesOk.mono _ _ | exact impl_node_halves.mono _ _ _ | exact impl_rootOf.mono _ _ | exact impl_way.mono _ _ _ | exact LeO.refl _ | exact LeO.none _ | refine LeO.ite ?_ ?_ | refine LeO.bind ?_ (fun _ => ?_)) | exact ih0 _ _ _ | exact ih1 _ _ _ _ _ | exact LeO.none _ | refine LeO.ite ?_ ?_ | refine LeO.bind ?_ (fun _ => ?_)
set_option maxHeartbeats 8000000 in
set_option maxRecDepth 100000 in
theorem impl_PathOf.calls (k : Nat) (A0 : Option Addr) (c0 : Nat) (l0 : List ByteArray) (a1 : Int) (r1 : List (S29)) (r2 : Bool) (w : World) (hr0 : Kd.C Kd.string w A0 l0.length l0) (hc0 : l0.length ≤ c0) (h : impl_PathOf.f k l0 a1 = some (r1, r2)) :
    Calls Try.prog 70 #[.slice A0 l0.length c0, .int .i64 a1] w fun e w' => ∃ v0_ : Value, e = .returned (.tuple #[v0_, .bool r2]) ∧ Kd.R k29 29 w' w.heap.size (fun _ => True) v0_ r1 ∧ Below w.heap.size w w' := by
  have hu120 := Try.underlying120
  have HR0 := Aside0.mk hr0
  have HC0 := Aside0.mk hc0
  clear hr0 hc0
  have HB := Aside0.mk (Below.refl w.heap.size w)
  have H : ((impl_LeavesOk.f k l0).bind fun t1520 => (if t1520 = true then ((impl_in.f a1 0 (wrap64 ((l0.length : Int) - 1))).bind fun t1521 => (impl_PathOf.j0 k l0 a1 (!t1521))) else (impl_PathOf.j0 k l0 a1 true))) = some (r1, r2) := h
  clear h
  have HC3 := Aside0.mk H
  clear H
  go_enter Try.func70, Try.ntmps70
  go_upto_region 1 with (fail)
  go_cut [21] (fun v21 wc => ∃ (kq : Nat) (x21_2 : Bool), v21 = .bool x21_2 ∧ Aside0 (impl_PathOf.j0 kq l0 a1 x21_2 = some (r1, r2)) ∧ Aside0 (kq ≤ k) ∧ Aside0 (Below w.heap.size w wc))
  case first =>
    have H := HC3.out
    clear HC3
    obtain ⟨t1520, A4, H⟩ := bnd_ H
    by_cases c5 : t1520 = true
    · subst c5
      rw [if_pos rfl] at H
      obtain ⟨t1521, A6, H⟩ := bnd_ H
      have H' := Aside0.mk H
      clear H
      go_wp2_with (first | ((with_reducible refine gate_callee (f := 98) rfl ?_); refine goL_ (some 12) Try.func98 #[.slice A0 l0.length c0] ?_; (with_reducible refine (impl_LeavesOk.calls k _ _ l0 true _ ?side1 ?side2 A4.out).mono ?_); (case side1 => repeat (first | exact (Kd.C_below HR0.out HB.out) | (with_reducible refine Kd.C_alloc ?_ _) | (with_reducible refine Kd.C_drewN ?_ _) | (with_reducible refine Kd.C_drew ?_))); (case side2 => exact HC0.out); rintro e w' ⟨rfl, ⟨nd, rfl⟩⟩; refine ⟨_, rfl, ?_⟩) | (go_at_call 108; (with_reducible refine (impl_in.calls a1 0 (wrap64 ((l0.length : Int) - 1)) t1521 _ A6.out).mono ?_); rintro e w' ⟨rfl, ⟨nd, rfl⟩⟩))
      go_meet
      case rel => exact ⟨_, (!t1521), (by first | rfl | (simp; done) | (simp [*]; done)), H', ⟨by first | omega | exact Nat.le_refl _⟩, ⟨bel_⟩⟩
    · replace c5 := Bool.eq_false_iff.mpr c5
      subst c5
      rw [if_neg (show ¬ (false = true) by decide)] at H
      have H' := Aside0.mk H
      clear H
      go_wp2_with (first | ((with_reducible refine gate_callee (f := 98) rfl ?_); refine goL_ (some 12) Try.func98 #[.slice A0 l0.length c0] ?_; (with_reducible refine (impl_LeavesOk.calls k _ _ l0 false _ ?side1 ?side2 A4.out).mono ?_); (case side1 => repeat (first | exact (Kd.C_below HR0.out HB.out) | (with_reducible refine Kd.C_alloc ?_ _) | (with_reducible refine Kd.C_drewN ?_ _) | (with_reducible refine Kd.C_drew ?_))); (case side2 => exact HC0.out); rintro e w' ⟨rfl, ⟨nd, rfl⟩⟩; refine ⟨_, rfl, ?_⟩))
      go_meet
      case rel => exact ⟨_, (true), (by first | rfl | (simp; done) | (simp [*]; done)), H', ⟨by first | omega | exact Nat.le_refl _⟩, ⟨bel_⟩⟩
  case rest =>
    clear HC3
    (try clear c5)
    obtain ⟨kq, x21_2, rfl, HA, HJ2, HB⟩ := hcut
    cases kq with
    | zero => exact absurd HA.out (by simp [impl_PathOf.j0])
    | succ kj2 =>
      have H := HA.out
      clear HA
      simp only [impl_PathOf.j0] at H
      by_cases c7 : x21_2 = true
      · subst c7
        rw [if_pos rfl] at H
        simp only [Option.some.injEq, Prod.mk.injEq] at H
        obtain ⟨rfl, rfl⟩ := H
        go_wp2
        go_ret2
        exact ⟨_, rfl_, by first | exact Kd.R_nil _ _ _ _ _ | exact Kd.N_nil _ _ _ _ _ | exact Kd.V_nil _ _ _ _ _ | exact Kd.Q_nil _ _ _ _ _ | exact Kd.S_nil _ _ _ _ _, bel_⟩
      · replace c7 := Bool.eq_false_iff.mpr c7
        subst c7
        rw [if_neg (show ¬ (false = true) by decide)] at H
        obtain ⟨t1522, A8, H⟩ := bnd_ H
        have H' := Aside0.mk H
        clear H
        go_wp2_with (first | ((with_reducible refine gate_callee (f := 117) rfl ?_); refine goL_ (some 25) Try.func117 #[.int .i64 (l0.length : Int), .int .i64 a1] ?_; (with_reducible refine (impl_way.calls kj2 (l0.length : Int) a1 t1522 _ A8.out).mono ?_); rintro e w9 ⟨v1523, rfl, ho0, hb⟩; refine ⟨_, rfl, ?_⟩; have HO1524 := Aside0.mk (Kd.R_lower ho0 (below_size bel_)); replace HB := stepB_ hb; (try clear hb); (try clear ho0); obtain ⟨Ao10, co10, eo10⟩ := Kd.R_slice HO1524.out; subst eo10))
        go_loopg [7, 8] kj2 (fun kq v7 v8 w' => ∃ (x7_2 : List (S29)) (x8_2 : Int), v8 = .int .i64 x8_2 ∧ Aside0 (impl_PathOf.l0 kq l0 a1 t1522 x7_2 x8_2 = some (r1, r2)) ∧ Aside0 (kq ≤ kj2) ∧ Aside0 (Kd.R k120 120 w' w.heap.size (fun _ => True) (.slice Ao10 t1522.length co10) t1522) ∧ Aside0 (Kd.R k29 29 w' w.heap.size (fun _ => True) v7 x7_2) ∧ Aside0 (Below w.heap.size w w'))
        case atStart => exact ⟨(([] : List (S29))), (wrap64 ((t1522.length : Int) - 1)), (by first | rfl | (simp; done) | (simp [*]; done)), H', ⟨Nat.le_refl _⟩, ⟨kdU_ HO1524.out⟩, ⟨by first | exact Kd.R_nil _ _ _ _ _ | exact Kd.N_nil _ _ _ _ _ | exact Kd.V_nil _ _ _ _ _ | exact Kd.Q_nil _ _ _ _ _ | exact Kd.S_nil _ _ _ _ _⟩, ⟨bel_⟩⟩
        case round =>
          clear H'
          (try clear c5); (try clear c7)
          obtain ⟨x7_2, x8_2, rfl, HA, HK2, HO_6, HO_7, HB⟩ := hrel
          cases gk with
          | zero => exact absurd HA.out (by simp [impl_PathOf.l0])
          | succ k2 =>
            have H := HA.out
            clear HA
            simp only [impl_PathOf.l0] at H
            by_cases c11 : x8_2 ≥ 0
            · rw [if_pos c11] at H
              have c11b0 : decide (0 ≤ x8_2) = true := decide_eq_true c11
              clear c11
              by_cases c12 : 0 ≤ x8_2
              · rw [if_pos c12] at H
                have c12b0 : decide (0 ≤ x8_2) = true := decide_eq_true c12
                clear c12
                by_cases c13 : x8_2 < (t1522.length : Int)
                · rw [if_pos c13] at H
                  have c13b0 : decide (x8_2 < (t1522.length : Int)) = true := decide_eq_true c13
                  clear c13
                  obtain ⟨⟨t1529, t1530, t1531, t1532⟩, A14, H⟩ := bnd_ H
                  dsimp only at H
                  by_cases c15 : a1 < t1530
                  · rw [if_pos c15] at H
                    have c15b0 : decide (a1 < t1530) = true := decide_eq_true c15
                    clear c15
                    by_cases c16 : 0 ≤ t1531
                    · rw [if_pos c16] at H
                      have c16b0 := eq_true c16
                      have c16b1 : decide (0 ≤ t1531) = true := decide_eq_true c16
                      clear c16
                      by_cases c17 : t1531 ≤ t1532
                      · rw [if_pos c17] at H
                        have c17b0 := eq_true c17
                        have c17b1 : decide (t1531 ≤ t1532) = true := decide_eq_true c17
                        clear c17
                        by_cases c18 : t1532 ≤ (l0.length : Int)
                        · rw [if_pos c18] at H
                          have c18b0 := eq_true c18
                          have c18b1 : decide (t1532 ≤ (l0.length : Int)) = true := decide_eq_true c18
                          clear c18
                          obtain ⟨⟨t1536, t1537, t1538, t1539⟩, A19, H⟩ := bnd_ H
                          dsimp only at H
                          by_cases c20 : x7_2.length < 4398046511104
                          · rw [if_pos c20] at H
                            have LMc20 := Aside0.mk c20
                            clear c20
                            obtain ⟨y1540, hy1540⟩ : ∃ y_ : List (S29), y_ = (x7_2 ++ [(⟨t1536, t1537, t1538, t1539⟩ : S29)]) := ⟨_, rfl⟩
                            replace H : (impl_PathOf.l0 k2 l0 a1 t1522 y1540 (wrap64 (x8_2 - 1))) = some (r1, r2) := by first | (rw [hy1540]; with_reducible exact H) | (have H2_ := (Option.bind_some _ _).symm.trans H; rw [hy1540]; with_reducible exact H2_) | (have H2_ := (Option.bind_some _ _).symm.trans H; with_reducible exact H2_) | with_reducible exact H | (rw [hy1540]; exact H) | exact H
                            have Ny1540 := Aside0.mk hy1540
                            clear hy1540
                            have H' := Aside0.mk H
                            clear H
                            have p1528 : 0 ≤ (x8_2 : Int) := ofd_
                            have q1528 : x8_2 < (t1522.length : Int) := ofd_
                            obtain ⟨ad1528, e1528, hx1528_0, hx1528_1⟩ := at_T120 (Kd.R_reads' HO_6.out).2.2 x8_2 p1528 q1528
                            cases e1528
                            replace p1528 := eq_true p1528
                            replace q1528 := eq_true q1528
                            go_upto_region 11 with (first | ((with_reducible refine gate_callee (f := 118) rfl ?_); refine goL_ (some 38) Try.func118 #[.agg #[.int .i64 ((rd_T120 t1522 x8_2).f0), .int .i64 ((rd_T120 t1522 x8_2).f1)]] ?_; (with_reducible refine (impl_node_halves.calls k2 ((rd_T120 t1522 x8_2).f0) ((rd_T120 t1522 x8_2).f1) t1529 t1530 t1531 t1532 _ A14.out).mono ?_); rintro e w21 ⟨rfl, hb⟩; refine ⟨_, rfl, ?_⟩; replace HO_6 := Aside0.mk (Kd.R_below (kdU_ HO_6.out) hb); replace HO_7 := Aside0.mk (Kd.R_below (kdU_ HO_7.out) hb); replace HB := stepB_ hb; (try clear hb); (try clear hk)) | ((with_reducible refine gate_dst (N := 9) rfl ?_); (try (refine gate_guard (by rfl) ?_; dsimp only)); refine boxE_ (cs := #[.int .i64 0, .int .i64 0]) (t := 120) ?_; intro gb1533 hg w22 hbox hb; replace HO_6 := Aside0.mk (Kd.R_below (Kd.R_elderB (kdU_ HO_6.out) gb1533 (Nat.le_of_eq hg.symm)) hb); replace HO_7 := Aside0.mk (Kd.R_below (kdU_ HO_7.out) hb); have BK1533 := Aside0.mk (hbox); have GW1533 := sizeB_ hg; have GE1533 := sizeB_ hg; replace HB := stepB_ hb; clear hb hbox hg) | ((with_reducible refine gate_dst (N := 10) rfl ?_); (try (refine gate_guard (by rfl) ?_; dsimp only)); refine boxE_ (cs := #[.int .i64 0, .int .i64 0]) (t := 120) ?_; intro gb1534 hg w23 hbox hb; replace HO_6 := Aside0.mk (Kd.R_below (Kd.R_elderB (kdU_ HO_6.out) gb1534 (Nat.le_of_eq hg.symm)) hb); replace HO_7 := Aside0.mk (Kd.R_below (kdU_ HO_7.out) hb); have BK1534 := Aside0.mk (hbox); have GW1534 := sizeB_ hg; have GE1534 := sizeB_ hg; replace HB := stepB_ hb; have NB1533_1534 := neL_ BK1533.out hg; have NB1534_1533 := neG_ BK1533.out hg; replace BK1533 := blkBel_ BK1533.out hb; clear hb hbox hg; have hnb24 := NB1533_1534.out; have hnc24 := NB1534_1533.out; obtain ⟨hcz25_0, hcz25_1, hfz25_0, hfz25_1⟩ := cz2_ BK1533.out; obtain ⟨hcz26_0, hcz26_1, hfz26_0, hfz26_1⟩ := cz2_ BK1534.out; obtain ⟨i027, hi027, _, hsz27, _⟩ := info_parts info9; obtain ⟨A27, hcut27, hA27, hC27⟩ := print_mid_of (P := Try.prog) Value.string (⟨#[]⟩ : ByteArray) 60 9 .i64 .i64 Try.underlying60 hi027 hsz27 A0 c0 l0 t1531 t1532 (ofd_) (by first | omega | exact ofd_) (ofd_) HC0.out; have HR1535 := Aside0.mk (Kd.C_of_reads (h1 := fun _ => rfl) (hA27 _ (Kd.reads_of_C HR0.out))); have HC1535 := Aside0.mk hC27; clear hA27 hC27 hi027 hsz27))
                            refine wpL22_ (w := w) (by (with_reducible repeat (first | apply Kd.R_alloc | apply Kd.R_drewN | apply Kd.R_drew)); exact (Kd.R_mono (Kd.R_mono (Kd.R_far (p := ⟨gb1533, 1, none⟩) (Kd.R_far (p := ⟨gb1533, 0, none⟩) (Kd.R_far (p := ⟨gb1534, 1, none⟩) (Kd.R_far (p := ⟨gb1534, 0, none⟩) (Kd.R_far (p := ⟨gb1533, 1, none⟩) (Kd.R_far (p := ⟨gb1533, 0, none⟩) (Kd.R_mono (Kd.R_mono HO_6.out (fun k_ hk => (⟨hk, hk.1.2⟩ : _ ∧ k_ ≠ gb1533))) (fun k_ hk => (⟨hk, hk.1.2⟩ : _ ∧ k_ ≠ gb1534))) (fun _ hk => hk.1.2) (.int .i64 t1529)) (fun _ hk => hk.1.2) (.int .i64 t1530)) (fun _ hk => hk.2) (.int .i64 t1531)) (fun _ hk => hk.2) (.int .i64 t1532)) (fun _ hk => hk.1.2) (.int .i64 t1531)) (fun _ hk => hk.1.2) (.int .i64 t1532)) (fun _ h_ => h_.1)) (fun _ h_ => h_.1))) (by (with_reducible repeat (first | apply Kd.R_alloc | apply Kd.R_drewN | apply Kd.R_drew)); exact (Kd.R_mono (Kd.R_mono (Kd.R_far (p := ⟨gb1533, 1, none⟩) (Kd.R_far (p := ⟨gb1533, 0, none⟩) (Kd.R_far (p := ⟨gb1534, 1, none⟩) (Kd.R_far (p := ⟨gb1534, 0, none⟩) (Kd.R_far (p := ⟨gb1533, 1, none⟩) (Kd.R_far (p := ⟨gb1533, 0, none⟩) (Kd.R_types (Kd.R_types HO_7.out BK1533.out (by decide)) BK1534.out (by decide)) (fun _ hk => hk.1.2) (.int .i64 t1529)) (fun _ hk => hk.1.2) (.int .i64 t1530)) (fun _ hk => hk.2) (.int .i64 t1531)) (fun _ hk => hk.2) (.int .i64 t1532)) (fun _ hk => hk.1.2) (.int .i64 t1531)) (fun _ hk => hk.1.2) (.int .i64 t1532)) (fun _ h_ => h_.1)) (fun _ h_ => h_.1))) (blkF_ (cs := #[.int .i64 t1531, .int .i64 t1532]) BK1533.out) (blkF_ (cs := #[.int .i64 t1531, .int .i64 t1532]) BK1534.out) bel_ ?_
                            clear HO_6 HO_7 BK1533 BK1534 HB
                            intro wl11_ HO_6 HO_7 BK1533 BK1534 HB
                            obtain ⟨_, _, _, _⟩ := cz2_ BK1533.out
                            obtain ⟨_, _, _, _⟩ := cz2_ BK1534.out
                            go_wp2_with (first | ((with_reducible refine gate_callee (f := 99) rfl ?_); refine goesL_ (some 53) rfl rfl Try.func99 (by kernel_rfl) rfl #[.slice A27 ((l0.take (t1532 : Int).toNat).drop (t1531 : Int).toNat).length (c0 - t1531.toNat)] rfl (by (try simp only [List.map_toArray, List.map_cons, List.map_nil]); first | done | (rw [show ((l0.take (t1532 : Int).toNat).drop (t1531 : Int).toNat).length = (t1532.toNat - t1531.toNat) from (by rw [List.length_drop, List.length_take]; have h_ : (t1532 : Int) ≤ (l0.length : Int) := ofd_; omega)] <;> rfl) | rfl | (simp only [List.length_drop, List.length_take]; rfl)) ?_; (with_reducible refine (impl_rootOf.calls k2 _ _ ((l0.take (t1532 : Int).toNat).drop (t1531 : Int).toNat) t1536 t1537 t1538 t1539 _ ?side1 ?side2 A19.out).mono ?_); (case side1 => exact Kd.C_below HR1535.out bel_); (case side2 => exact HC1535.out); rintro e w28 ⟨rfl, hb⟩; refine ⟨_, rfl, ?_⟩; replace HO_6 := Aside0.mk (Kd.R_below (kdU_ HO_6.out) hb); replace HO_7 := Aside0.mk (Kd.R_below (kdU_ HO_7.out) hb); replace BK1533 := blkBel_ BK1533.out hb; replace BK1534 := blkBel_ BK1534.out hb; replace HB := stepB_ hb; (try clear hb); (try clear hk)) | ((with_reducible refine gate_builtin (b := .append) (xs := #[.tmp 46, .tmp 54]) rfl ?_); (try (refine gate_guard (by rfl) ?_; dsimp only)); at_builtin; refine Kd.R_append k29 (w0 := w) w.heap.size rfl (.tmp 46) (.tmp 54) 49 29 (.agg #[(.int .u64 0), (.int .u64 0), (.int .u64 0), (.int .u64 0)]) 32 rfl Try.underlying49 info29 rfl (by decide) (by omega) u7 x7_2 (⟨t1536, t1537, t1538, t1539⟩ : S29) [.int .u64 t1536, .int .u64 t1537, .int .u64 t1538, .int .u64 t1539] (fun _ => True) (fun _ => False) rfl rfl ?aP (fun _ hk => hk.elim) ?aF ?aO ?aB ?aS ?aL ?_; (case aP => exact k29_mkM _ _ _ (⟨t1536, t1537, t1538, t1539⟩ : S29)); (case aB => exact bel_); (case aF => exact (fun _ _ => trivial)); (case aO => exact (kdU_ HO_7.out)); (case aS => exact (below_size bel_)); (case aL => have := LMc20.out; omega); intro v1541 w29 ho hb hg hat; rw [← Ny1540.out] at ho; replace HO_6 := Aside0.mk (Kd.R_over' (kdU_ HO_6.out) (Kd.R_typed (kdU_ HO_7.out)) (by decide) hg); replace BK1533 := Aside0.mk (blk_grown (g := gb1533) (o := .cells #[.int .i64 t1531, .int .i64 t1532] 120 (0, 0)) (blkU_ BK1533.out) hg (Kd.R_ne HO_7.out BK1533.out (by decide))); replace BK1534 := Aside0.mk (blk_grown (g := gb1534) (o := .cells #[.int .i64 t1531, .int .i64 t1532] 120 (0, 0)) (blkU_ BK1534.out) hg (Kd.R_ne HO_7.out BK1534.out (by decide))); replace HB := Aside0.mk (hb); have HO1542 := Aside0.mk (ho); clear HO_7; clear ho hb hg hat))
                            go_roundg k2
                            case measure => have := HJ2.out; have := HK2.out; omega
                            case rel => exact ⟨(y1540), (wrap64 (x8_2 - 1)), (by first | rfl | (simp; done) | (simp [*]; done)), H', ⟨by have := HJ2.out; have := HK2.out; omega⟩, ⟨by (with_reducible repeat (first | apply Kd.R_alloc | apply Kd.R_drewN | apply Kd.R_drew)); exact Kd.R_mono HO_6.out (fun _ hk => trivial)⟩, ⟨kdU_ HO1542.out⟩, ⟨bel_⟩⟩
                          · rw [if_neg c20] at H
                            exact absurd H (by simp)
                        · rw [if_neg c18] at H
                          exact absurd H (by simp)
                      · rw [if_neg c17] at H
                        exact absurd H (by simp)
                    · rw [if_neg c16] at H
                      exact absurd H (by simp)
                  · rw [if_neg c15] at H
                    have c15b0 : decide (a1 < t1530) = false := decide_eq_false c15
                    clear c15
                    by_cases c30 : 0 ≤ t1529
                    · rw [if_pos c30] at H
                      have c30b0 := eq_true c30
                      have c30b1 : decide (0 ≤ t1529) = true := decide_eq_true c30
                      clear c30
                      by_cases c31 : t1529 ≤ t1530
                      · rw [if_pos c31] at H
                        have c31b0 := eq_true c31
                        have c31b1 : decide (t1529 ≤ t1530) = true := decide_eq_true c31
                        clear c31
                        by_cases c32 : t1530 ≤ (l0.length : Int)
                        · rw [if_pos c32] at H
                          have c32b0 := eq_true c32
                          have c32b1 : decide (t1530 ≤ (l0.length : Int)) = true := decide_eq_true c32
                          clear c32
                          obtain ⟨⟨t1544, t1545, t1546, t1547⟩, A33, H⟩ := bnd_ H
                          dsimp only at H
                          by_cases c34 : x7_2.length < 4398046511104
                          · rw [if_pos c34] at H
                            have LMc34 := Aside0.mk c34
                            clear c34
                            obtain ⟨y1548, hy1548⟩ : ∃ y_ : List (S29), y_ = (x7_2 ++ [(⟨t1544, t1545, t1546, t1547⟩ : S29)]) := ⟨_, rfl⟩
                            replace H : (impl_PathOf.l0 k2 l0 a1 t1522 y1548 (wrap64 (x8_2 - 1))) = some (r1, r2) := by first | (rw [hy1548]; with_reducible exact H) | (have H2_ := (Option.bind_some _ _).symm.trans H; rw [hy1548]; with_reducible exact H2_) | (have H2_ := (Option.bind_some _ _).symm.trans H; with_reducible exact H2_) | with_reducible exact H | (rw [hy1548]; exact H) | exact H
                            have Ny1548 := Aside0.mk hy1548
                            clear hy1548
                            have H' := Aside0.mk H
                            clear H
                            have p1528 : 0 ≤ (x8_2 : Int) := ofd_
                            have q1528 : x8_2 < (t1522.length : Int) := ofd_
                            obtain ⟨ad1528, e1528, hx1528_0, hx1528_1⟩ := at_T120 (Kd.R_reads' HO_6.out).2.2 x8_2 p1528 q1528
                            cases e1528
                            replace p1528 := eq_true p1528
                            replace q1528 := eq_true q1528
                            go_upto_region 11 with (first | ((with_reducible refine gate_callee (f := 118) rfl ?_); refine goL_ (some 38) Try.func118 #[.agg #[.int .i64 ((rd_T120 t1522 x8_2).f0), .int .i64 ((rd_T120 t1522 x8_2).f1)]] ?_; (with_reducible refine (impl_node_halves.calls k2 ((rd_T120 t1522 x8_2).f0) ((rd_T120 t1522 x8_2).f1) t1529 t1530 t1531 t1532 _ A14.out).mono ?_); rintro e w35 ⟨rfl, hb⟩; refine ⟨_, rfl, ?_⟩; replace HO_6 := Aside0.mk (Kd.R_below (kdU_ HO_6.out) hb); replace HO_7 := Aside0.mk (Kd.R_below (kdU_ HO_7.out) hb); replace HB := stepB_ hb; (try clear hb); (try clear hk)) | ((with_reducible refine gate_dst (N := 9) rfl ?_); (try (refine gate_guard (by rfl) ?_; dsimp only)); refine boxE_ (cs := #[.int .i64 0, .int .i64 0]) (t := 120) ?_; intro gb1533 hg w36 hbox hb; replace HO_6 := Aside0.mk (Kd.R_below (Kd.R_elderB (kdU_ HO_6.out) gb1533 (Nat.le_of_eq hg.symm)) hb); replace HO_7 := Aside0.mk (Kd.R_below (kdU_ HO_7.out) hb); have BK1533 := Aside0.mk (hbox); have GW1533 := sizeB_ hg; have GE1533 := sizeB_ hg; replace HB := stepB_ hb; clear hb hbox hg) | ((with_reducible refine gate_dst (N := 10) rfl ?_); (try (refine gate_guard (by rfl) ?_; dsimp only)); refine boxE_ (cs := #[.int .i64 0, .int .i64 0]) (t := 120) ?_; intro gb1534 hg w37 hbox hb; replace HO_6 := Aside0.mk (Kd.R_below (Kd.R_elderB (kdU_ HO_6.out) gb1534 (Nat.le_of_eq hg.symm)) hb); replace HO_7 := Aside0.mk (Kd.R_below (kdU_ HO_7.out) hb); have BK1534 := Aside0.mk (hbox); have GW1534 := sizeB_ hg; have GE1534 := sizeB_ hg; replace HB := stepB_ hb; have NB1533_1534 := neL_ BK1533.out hg; have NB1534_1533 := neG_ BK1533.out hg; replace BK1533 := blkBel_ BK1533.out hb; clear hb hbox hg; have hnb38 := NB1533_1534.out; have hnc38 := NB1534_1533.out; obtain ⟨hcz39_0, hcz39_1, hfz39_0, hfz39_1⟩ := cz2_ BK1533.out; obtain ⟨hcz40_0, hcz40_1, hfz40_0, hfz40_1⟩ := cz2_ BK1534.out; obtain ⟨i041, hi041, _, hsz41, _⟩ := info_parts info9; obtain ⟨A41, hcut41, hA41, hC41⟩ := print_mid_of (P := Try.prog) Value.string (⟨#[]⟩ : ByteArray) 60 9 .i64 .i64 Try.underlying60 hi041 hsz41 A0 c0 l0 t1529 t1530 (ofd_) (by first | omega | exact ofd_) (ofd_) HC0.out; have HR1543 := Aside0.mk (Kd.C_of_reads (h1 := fun _ => rfl) (hA41 _ (Kd.reads_of_C HR0.out))); have HC1543 := Aside0.mk hC41; clear hA41 hC41 hi041 hsz41))
                            refine wpL22_ (w := w) (by (with_reducible repeat (first | apply Kd.R_alloc | apply Kd.R_drewN | apply Kd.R_drew)); exact (Kd.R_mono (Kd.R_mono (Kd.R_far (p := ⟨gb1534, 1, none⟩) (Kd.R_far (p := ⟨gb1534, 0, none⟩) (Kd.R_far (p := ⟨gb1533, 1, none⟩) (Kd.R_far (p := ⟨gb1533, 0, none⟩) (Kd.R_mono (Kd.R_mono HO_6.out (fun k_ hk => (⟨hk, hk.1.2⟩ : _ ∧ k_ ≠ gb1533))) (fun k_ hk => (⟨hk, hk.1.2⟩ : _ ∧ k_ ≠ gb1534))) (fun _ hk => hk.1.2) (.int .i64 t1529)) (fun _ hk => hk.1.2) (.int .i64 t1530)) (fun _ hk => hk.2) (.int .i64 t1531)) (fun _ hk => hk.2) (.int .i64 t1532)) (fun _ h_ => h_.1)) (fun _ h_ => h_.1))) (by (with_reducible repeat (first | apply Kd.R_alloc | apply Kd.R_drewN | apply Kd.R_drew)); exact (Kd.R_mono (Kd.R_mono (Kd.R_far (p := ⟨gb1534, 1, none⟩) (Kd.R_far (p := ⟨gb1534, 0, none⟩) (Kd.R_far (p := ⟨gb1533, 1, none⟩) (Kd.R_far (p := ⟨gb1533, 0, none⟩) (Kd.R_types (Kd.R_types HO_7.out BK1533.out (by decide)) BK1534.out (by decide)) (fun _ hk => hk.1.2) (.int .i64 t1529)) (fun _ hk => hk.1.2) (.int .i64 t1530)) (fun _ hk => hk.2) (.int .i64 t1531)) (fun _ hk => hk.2) (.int .i64 t1532)) (fun _ h_ => h_.1)) (fun _ h_ => h_.1))) (blkF_ (cs := #[.int .i64 t1529, .int .i64 t1530]) BK1533.out) (blkF_ (cs := #[.int .i64 t1531, .int .i64 t1532]) BK1534.out) bel_ ?_
                            clear HO_6 HO_7 BK1533 BK1534 HB
                            intro wl11_ HO_6 HO_7 BK1533 BK1534 HB
                            obtain ⟨_, _, _, _⟩ := cz2_ BK1533.out
                            obtain ⟨_, _, _, _⟩ := cz2_ BK1534.out
                            go_wp2_with (first | ((with_reducible refine gate_callee (f := 99) rfl ?_); refine goesL_ (some 53) rfl rfl Try.func99 (by kernel_rfl) rfl #[.slice A41 ((l0.take (t1530 : Int).toNat).drop (t1529 : Int).toNat).length (c0 - t1529.toNat)] rfl (by (try simp only [List.map_toArray, List.map_cons, List.map_nil]); first | done | (rw [show ((l0.take (t1530 : Int).toNat).drop (t1529 : Int).toNat).length = (t1530.toNat - t1529.toNat) from (by rw [List.length_drop, List.length_take]; have h_ : (t1530 : Int) ≤ (l0.length : Int) := ofd_; omega)] <;> rfl) | rfl | (simp only [List.length_drop, List.length_take]; rfl)) ?_; (with_reducible refine (impl_rootOf.calls k2 _ _ ((l0.take (t1530 : Int).toNat).drop (t1529 : Int).toNat) t1544 t1545 t1546 t1547 _ ?side1 ?side2 A33.out).mono ?_); (case side1 => exact Kd.C_below HR1543.out bel_); (case side2 => exact HC1543.out); rintro e w42 ⟨rfl, hb⟩; refine ⟨_, rfl, ?_⟩; replace HO_6 := Aside0.mk (Kd.R_below (kdU_ HO_6.out) hb); replace HO_7 := Aside0.mk (Kd.R_below (kdU_ HO_7.out) hb); replace BK1533 := blkBel_ BK1533.out hb; replace BK1534 := blkBel_ BK1534.out hb; replace HB := stepB_ hb; (try clear hb); (try clear hk)) | ((with_reducible refine gate_builtin (b := .append) (xs := #[.tmp 46, .tmp 54]) rfl ?_); (try (refine gate_guard (by rfl) ?_; dsimp only)); at_builtin; refine Kd.R_append k29 (w0 := w) w.heap.size rfl (.tmp 46) (.tmp 54) 49 29 (.agg #[(.int .u64 0), (.int .u64 0), (.int .u64 0), (.int .u64 0)]) 32 rfl Try.underlying49 info29 rfl (by decide) (by omega) u7 x7_2 (⟨t1544, t1545, t1546, t1547⟩ : S29) [.int .u64 t1544, .int .u64 t1545, .int .u64 t1546, .int .u64 t1547] (fun _ => True) (fun _ => False) rfl rfl ?aP (fun _ hk => hk.elim) ?aF ?aO ?aB ?aS ?aL ?_; (case aP => exact k29_mkM _ _ _ (⟨t1544, t1545, t1546, t1547⟩ : S29)); (case aB => exact bel_); (case aF => exact (fun _ _ => trivial)); (case aO => exact (kdU_ HO_7.out)); (case aS => exact (below_size bel_)); (case aL => have := LMc34.out; omega); intro v1549 w43 ho hb hg hat; rw [← Ny1548.out] at ho; replace HO_6 := Aside0.mk (Kd.R_over' (kdU_ HO_6.out) (Kd.R_typed (kdU_ HO_7.out)) (by decide) hg); replace BK1533 := Aside0.mk (blk_grown (g := gb1533) (o := .cells #[.int .i64 t1529, .int .i64 t1530] 120 (0, 0)) (blkU_ BK1533.out) hg (Kd.R_ne HO_7.out BK1533.out (by decide))); replace BK1534 := Aside0.mk (blk_grown (g := gb1534) (o := .cells #[.int .i64 t1531, .int .i64 t1532] 120 (0, 0)) (blkU_ BK1534.out) hg (Kd.R_ne HO_7.out BK1534.out (by decide))); replace HB := Aside0.mk (hb); have HO1550 := Aside0.mk (ho); clear HO_7; clear ho hb hg hat))
                            go_roundg k2
                            case measure => have := HJ2.out; have := HK2.out; omega
                            case rel => exact ⟨(y1548), (wrap64 (x8_2 - 1)), (by first | rfl | (simp; done) | (simp [*]; done)), H', ⟨by have := HJ2.out; have := HK2.out; omega⟩, ⟨by (with_reducible repeat (first | apply Kd.R_alloc | apply Kd.R_drewN | apply Kd.R_drew)); exact Kd.R_mono HO_6.out (fun _ hk => trivial)⟩, ⟨kdU_ HO1550.out⟩, ⟨bel_⟩⟩
                          · rw [if_neg c34] at H
                            exact absurd H (by simp)
                        · rw [if_neg c32] at H
                          exact absurd H (by simp)
                      · rw [if_neg c31] at H
                        exact absurd H (by simp)
                    · rw [if_neg c30] at H
                      exact absurd H (by simp)
                · rw [if_neg c13] at H
                  exact absurd H (by simp)
              · rw [if_neg c12] at H
                exact absurd H (by simp)
            · rw [if_neg c11] at H
              have c11b0 : decide (0 ≤ x8_2) = false := decide_eq_false c11
              clear c11
              obtain ⟨t1525, A44, H⟩ := bnd_ H
              simp only [Option.some.injEq, Prod.mk.injEq] at H
              obtain ⟨rfl, rfl⟩ := H
              obtain ⟨Ao45, co45, eo45⟩ := Kd.R_slice HO_7.out
              subst eo45
              go_wp2_with (first | ((with_reducible refine gate_callee (f := 113) rfl ?_); refine goL_ (some 57) Try.func113 #[.slice Ao45 x7_2.length co45] ?_; (with_reducible refine (impl_Digest.calls _ _ x7_2 t1525 _ ?side1 ?side2 A44.out).mono ?_); (case side1 => repeat (first | exact (Kd.R_reads' HO_7.out).2.2 | (with_reducible refine Kd.C_alloc ?_ _) | (with_reducible refine Kd.C_drewN ?_ _) | (with_reducible refine Kd.C_drew ?_))); (case side2 => exact (Kd.R_reads' HO_7.out).2.1); rintro e w46 ⟨v1526, rfl, ho0, hb⟩; refine ⟨_, rfl, ?_⟩; replace HO_6 := Aside0.mk (Kd.R_below (kdU_ HO_6.out) hb); have HO1527 := Aside0.mk (Kd.R_lower (Kd.R_new' ho0 (Kd.R_lt (kdU_ HO_7.out))) (below_size bel_)); replace HO_7 := Aside0.mk (Kd.R_elder' (kdU_ HO_7.out) (Kd.R_base ho0) hb); replace HB := stepB_ hb; (try clear hb); (try clear hk); (try clear ho0)))
              go_ret2
              exact ⟨_, rfl_, by (with_reducible repeat (first | apply Kd.R_alloc | apply Kd.R_drewN | apply Kd.R_drew)); exact Kd.R_mono HO1527.out (fun _ hk => trivial), bel_⟩

end
end Go.Proofs.Ytemfciflhbhobaa.B
