/- What the Go functions loop.example/belfry/impl.PathOf do is what the Lean functions .f of their names here say; condition: .f gives an answer. (Written by the session's program pp.py over the kit's print; Lean checks it.) -/
import Derived.Test.YtflckegggopdnaaZLK
import Derived.Test.YtflckegggopdnaaZLM
import Derived.Test.YtflckegggopdnaaZLGSplit1
import Derived.Test.YtflckegggopdnaaZLGTree1
import Derived.Test.YtflckegggopdnaaZLGWay1
import Derived.Test.YtflckegggopdnaaZLHCopiedD
namespace Go.Proofs.Ytflckegggopdnaa.B
open Go.RowKit Go.Proofs.YtflckegggopdnaaW.PrintWords Go.Proofs.YtflckegggopdnaaW.PrintLast Go.Proofs.YtflckegggopdnaaW.PrintMore
attribute [local go_sem] max2_int min2_int max_two min_two max_three min_three max_four min_four
set_option linter.unusedVariables false
set_option linter.unusedSimpArgs false
section
mutual
def impl_PathOf.j0 : Nat → List ByteArray → Int → Bool → Option ((List (S29)) × Bool)
  | 0, _, _, _ => none
  | k + 1, x0, x1, x21 => if x21 = true then (some (([] : List (S29)), false)) else ((impl_way.f k (x0.length : Int) x1).bind fun t1359 => (impl_PathOf.l0 k x0 x1 t1359 ([] : List (S29)) (wrap64 ((t1359.length : Int) - 1))))
def impl_PathOf.l0 : Nat → List ByteArray → Int → List (S100) → List (S29) → Int → Option ((List (S29)) × Bool)
  | 0, _, _, _, _, _ => none
  | k + 1, x0, x1, x6, x7, x8 => if x8 ≥ 0 then (if 0 ≤ x8 then (if x8 < (x6.length : Int) then ((impl_node_halves.f k ((rd_T100 x6 x8).f0) ((rd_T100 x6 x8).f1)).bind fun bt1366 => (if x1 < bt1366.2.1 then (if 0 ≤ bt1366.2.2.1 then (if bt1366.2.2.1 ≤ bt1366.2.2.2 then (if bt1366.2.2.2 ≤ (x0.length : Int) then ((impl_rootOf.f k ((x0.take (bt1366.2.2.2 : Int).toNat).drop (bt1366.2.2.1 : Int).toNat)).bind fun bt1373 => (if x7.length < 4398046511104 then (impl_PathOf.l0 k x0 x1 x6 (x7 ++ [(⟨bt1373.1, bt1373.2.1, bt1373.2.2.1, bt1373.2.2.2⟩ : S29)]) (wrap64 (x8 - 1))) else (none))) else (none)) else (none)) else (none)) else (if 0 ≤ bt1366.1 then (if bt1366.1 ≤ bt1366.2.1 then (if bt1366.2.1 ≤ (x0.length : Int) then ((impl_rootOf.f k ((x0.take (bt1366.2.1 : Int).toNat).drop (bt1366.1 : Int).toNat)).bind fun bt1381 => (if x7.length < 4398046511104 then (impl_PathOf.l0 k x0 x1 x6 (x7 ++ [(⟨bt1381.1, bt1381.2.1, bt1381.2.2.1, bt1381.2.2.2⟩ : S29)]) (wrap64 (x8 - 1))) else (none))) else (none)) else (none)) else (none)))) else (none)) else (none)) else ((impl_Digest.f x7).bind fun t1362 => (some (t1362, true)))
end
def impl_PathOf.f (k : Nat) (l0 : List ByteArray) (a1 : Int) : Option ((List (S29)) × Bool) := (impl_LeavesOk.f k l0).bind fun t1357 => (if t1357 = true then ((impl_in.f a1 0 (wrap64 ((l0.length : Int) - 1))).bind fun t1358 => (impl_PathOf.j0 k l0 a1 (!t1358))) else (impl_PathOf.j0 k l0 a1 true))
set_option maxHeartbeats 8000000 in
set_option maxRecDepth 100000 in
theorem impl_PathOf.calls (k : Nat) (A0 : Option Addr) (c0 : Nat) (l0 : List ByteArray) (a1 : Int) (r1 : List (S29)) (r2 : Bool) (w : World) (hr0 : Kd.C Kd.string w A0 l0.length l0) (hc0 : l0.length ≤ c0) (h : impl_PathOf.f k l0 a1 = some (r1, r2)) :
    Calls Try.prog 37 #[.slice A0 l0.length c0, .int .i64 a1] w fun e w' => ∃ v0_ : Value, e = .returned (.tuple #[v0_, .bool r2]) ∧ Kd.R k29 29 w' w.heap.size (fun _ => True) v0_ r1 ∧ Below w.heap.size w w' := by
  have hu100 := Try.underlying100
  have HR0 := Aside0.mk hr0
  have HC0 := Aside0.mk hc0
  clear hr0 hc0
  have HB := Aside0.mk (Below.refl w.heap.size w)
  have H : ((impl_LeavesOk.f k l0).bind fun t1357 => (if t1357 = true then ((impl_in.f a1 0 (wrap64 ((l0.length : Int) - 1))).bind fun t1358 => (impl_PathOf.j0 k l0 a1 (!t1358))) else (impl_PathOf.j0 k l0 a1 true))) = some (r1, r2) := h
  clear h
  have HC3 := Aside0.mk H
  clear H
  go_enter Try.func37, Try.ntmps37
  go_upto_region 1 with (fail)
  go_cut [21] (fun v21 wc => ∃ (kq : Nat) (x21_2 : Bool), v21 = .bool x21_2 ∧ Aside0 (impl_PathOf.j0 kq l0 a1 x21_2 = some (r1, r2)) ∧ Aside0 (kq ≤ k) ∧ Aside0 (Below w.heap.size w wc))
  case first =>
    have H := HC3.out
    clear HC3
    obtain ⟨t1357, A4, H⟩ := bnd_ H
    by_cases c5 : t1357 = true
    · subst c5
      rw [if_pos rfl] at H
      obtain ⟨t1358, A6, H⟩ := bnd_ H
      have H' := Aside0.mk H
      clear H
      go_wp2_with (first | ((with_reducible refine gate_callee (f := 61) rfl ?_); refine goL_ (some 12) Try.func61 #[.slice A0 l0.length c0] ?_; (with_reducible refine (impl_LeavesOk.calls k _ _ l0 true _ ?side1 ?side2 A4.out).mono ?_); (case side1 => repeat (first | exact (Kd.C_below HR0.out HB.out) | (with_reducible refine Kd.C_alloc ?_ _) | (with_reducible refine Kd.C_drewN ?_ _) | (with_reducible refine Kd.C_drew ?_))); (case side2 => exact HC0.out); rintro e w' ⟨rfl, ⟨nd, rfl⟩⟩; refine ⟨_, rfl, ?_⟩) | (go_at_call 75; (with_reducible refine (impl_in.calls a1 0 (wrap64 ((l0.length : Int) - 1)) t1358 _ A6.out).mono ?_); rintro e w' ⟨rfl, ⟨nd, rfl⟩⟩))
      go_meet
      case rel => exact ⟨_, (!t1358), (by first | rfl | (simp; done) | (simp [*]; done)), H', ⟨by first | omega | exact Nat.le_refl _⟩, ⟨bel_⟩⟩
    · replace c5 := Bool.eq_false_iff.mpr c5
      subst c5
      rw [if_neg (show ¬ (false = true) by decide)] at H
      have H' := Aside0.mk H
      clear H
      go_wp2_with (first | ((with_reducible refine gate_callee (f := 61) rfl ?_); refine goL_ (some 12) Try.func61 #[.slice A0 l0.length c0] ?_; (with_reducible refine (impl_LeavesOk.calls k _ _ l0 false _ ?side1 ?side2 A4.out).mono ?_); (case side1 => repeat (first | exact (Kd.C_below HR0.out HB.out) | (with_reducible refine Kd.C_alloc ?_ _) | (with_reducible refine Kd.C_drewN ?_ _) | (with_reducible refine Kd.C_drew ?_))); (case side2 => exact HC0.out); rintro e w' ⟨rfl, ⟨nd, rfl⟩⟩; refine ⟨_, rfl, ?_⟩))
      go_meet
      case rel => exact ⟨_, (true), (by first | rfl | (simp; done) | (simp [*]; done)), H', ⟨by first | omega | exact Nat.le_refl _⟩, ⟨bel_⟩⟩
  case rest =>
    clear HC3
    (try clear c5)
    obtain ⟨kq, x21_2, rfl, HA, HJ2, HB⟩ := hcut
    cases kq with
    | zero => exact absurd HA.out (by simp [impl_PathOf.j0])
    | succ kj2 =>
      have H := HA.out
      clear HA
      simp only [impl_PathOf.j0] at H
      by_cases c7 : x21_2 = true
      · subst c7
        rw [if_pos rfl] at H
        simp only [Option.some.injEq, Prod.mk.injEq] at H
        obtain ⟨rfl, rfl⟩ := H
        go_wp2
        go_ret2
        exact ⟨_, rfl_, by first | exact Kd.R_nil _ _ _ _ _ | exact Kd.N_nil _ _ _ _ _ | exact Kd.V_nil _ _ _ _ _ | exact Kd.Q_nil _ _ _ _ _ | exact Kd.S_nil _ _ _ _ _, bel_⟩
      · replace c7 := Bool.eq_false_iff.mpr c7
        subst c7
        rw [if_neg (show ¬ (false = true) by decide)] at H
        obtain ⟨t1359, A8, H⟩ := bnd_ H
        have H' := Aside0.mk H
        clear H
        go_wp2_with (first | ((with_reducible refine gate_callee (f := 76) rfl ?_); refine goL_ (some 25) Try.func76 #[.int .i64 (l0.length : Int), .int .i64 a1] ?_; (with_reducible refine (impl_way.calls kj2 (l0.length : Int) a1 t1359 _ A8.out).mono ?_); rintro e w9 ⟨v1360, rfl, ho0, hb⟩; refine ⟨_, rfl, ?_⟩; have HO1361 := Aside0.mk (Kd.R_lower ho0 (below_size bel_)); replace HB := stepB_ hb; (try clear hb); (try clear ho0); obtain ⟨Ao10, co10, eo10⟩ := Kd.R_slice HO1361.out; subst eo10))
        go_loopg [7, 8] kj2 (fun kq v7 v8 w' => ∃ (x7_2 : List (S29)) (x8_2 : Int), v8 = .int .i64 x8_2 ∧ Aside0 (impl_PathOf.l0 kq l0 a1 t1359 x7_2 x8_2 = some (r1, r2)) ∧ Aside0 (kq ≤ kj2) ∧ Aside0 (Kd.R k100 100 w' w.heap.size (fun _ => True) (.slice Ao10 t1359.length co10) t1359) ∧ Aside0 (Kd.R k29 29 w' w.heap.size (fun _ => True) v7 x7_2) ∧ Aside0 (Below w.heap.size w w'))
        case atStart => exact ⟨(([] : List (S29))), (wrap64 ((t1359.length : Int) - 1)), (by first | rfl | (simp; done) | (simp [*]; done)), H', ⟨Nat.le_refl _⟩, ⟨kdU_ HO1361.out⟩, ⟨by first | exact Kd.R_nil _ _ _ _ _ | exact Kd.N_nil _ _ _ _ _ | exact Kd.V_nil _ _ _ _ _ | exact Kd.Q_nil _ _ _ _ _ | exact Kd.S_nil _ _ _ _ _⟩, ⟨bel_⟩⟩
        case round =>
          clear H'
          (try clear c5); (try clear c7)
          obtain ⟨x7_2, x8_2, rfl, HA, HK2, HO_6, HO_7, HB⟩ := hrel
          cases gk with
          | zero => exact absurd HA.out (by simp [impl_PathOf.l0])
          | succ k2 =>
            have H := HA.out
            clear HA
            simp only [impl_PathOf.l0] at H
            by_cases c11 : x8_2 ≥ 0
            · rw [if_pos c11] at H
              have c11b0 : decide (0 ≤ x8_2) = true := decide_eq_true c11
              clear c11
              by_cases c12 : 0 ≤ x8_2
              · rw [if_pos c12] at H
                have c12b0 : decide (0 ≤ x8_2) = true := decide_eq_true c12
                clear c12
                by_cases c13 : x8_2 < (t1359.length : Int)
                · rw [if_pos c13] at H
                  have c13b0 : decide (x8_2 < (t1359.length : Int)) = true := decide_eq_true c13
                  clear c13
                  obtain ⟨⟨t1366, t1367, t1368, t1369⟩, A14, H⟩ := bnd_ H
                  dsimp only at H
                  by_cases c15 : a1 < t1367
                  · rw [if_pos c15] at H
                    have c15b0 : decide (a1 < t1367) = true := decide_eq_true c15
                    clear c15
                    by_cases c16 : 0 ≤ t1368
                    · rw [if_pos c16] at H
                      have c16b0 := eq_true c16
                      have c16b1 : decide (0 ≤ t1368) = true := decide_eq_true c16
                      clear c16
                      by_cases c17 : t1368 ≤ t1369
                      · rw [if_pos c17] at H
                        have c17b0 := eq_true c17
                        have c17b1 : decide (t1368 ≤ t1369) = true := decide_eq_true c17
                        clear c17
                        by_cases c18 : t1369 ≤ (l0.length : Int)
                        · rw [if_pos c18] at H
                          have c18b0 := eq_true c18
                          have c18b1 : decide (t1369 ≤ (l0.length : Int)) = true := decide_eq_true c18
                          clear c18
                          obtain ⟨⟨t1373, t1374, t1375, t1376⟩, A19, H⟩ := bnd_ H
                          dsimp only at H
                          by_cases c20 : x7_2.length < 4398046511104
                          · rw [if_pos c20] at H
                            have LMc20 := Aside0.mk c20
                            clear c20
                            obtain ⟨y1377, hy1377⟩ : ∃ y_ : List (S29), y_ = (x7_2 ++ [(⟨t1373, t1374, t1375, t1376⟩ : S29)]) := ⟨_, rfl⟩
                            replace H : (impl_PathOf.l0 k2 l0 a1 t1359 y1377 (wrap64 (x8_2 - 1))) = some (r1, r2) := by first | (rw [hy1377]; with_reducible exact H) | (have H2_ := (Option.bind_some _ _).symm.trans H; rw [hy1377]; with_reducible exact H2_) | (have H2_ := (Option.bind_some _ _).symm.trans H; with_reducible exact H2_) | with_reducible exact H | (rw [hy1377]; exact H) | exact H
                            have Ny1377 := Aside0.mk hy1377
                            clear hy1377
                            have H' := Aside0.mk H
                            clear H
                            have p1365 : 0 ≤ (x8_2 : Int) := ofd_
                            have q1365 : x8_2 < (t1359.length : Int) := ofd_
                            obtain ⟨ad1365, e1365, hx1365_0, hx1365_1⟩ := at_T100 (Kd.R_reads' HO_6.out).2.2 x8_2 p1365 q1365
                            cases e1365
                            replace p1365 := eq_true p1365
                            replace q1365 := eq_true q1365
                            go_upto_region 11 with (first | ((with_reducible refine gate_callee (f := 77) rfl ?_); refine goL_ (some 38) Try.func77 #[.agg #[.int .i64 ((rd_T100 t1359 x8_2).f0), .int .i64 ((rd_T100 t1359 x8_2).f1)]] ?_; (with_reducible refine (impl_node_halves.calls k2 ((rd_T100 t1359 x8_2).f0) ((rd_T100 t1359 x8_2).f1) t1366 t1367 t1368 t1369 _ A14.out).mono ?_); rintro e w21 ⟨rfl, hb⟩; refine ⟨_, rfl, ?_⟩; replace HO_6 := Aside0.mk (Kd.R_below (kdU_ HO_6.out) hb); replace HO_7 := Aside0.mk (Kd.R_below (kdU_ HO_7.out) hb); replace HB := stepB_ hb; (try clear hb); (try clear hk)) | ((with_reducible refine gate_dst (N := 9) rfl ?_); (try (refine gate_guard (by rfl) ?_; dsimp only)); refine boxE_ (cs := #[.int .i64 0, .int .i64 0]) (t := 100) ?_; intro gb1370 hg w22 hbox hb; replace HO_6 := Aside0.mk (Kd.R_below (Kd.R_elderB (kdU_ HO_6.out) gb1370 (Nat.le_of_eq hg.symm)) hb); replace HO_7 := Aside0.mk (Kd.R_below (kdU_ HO_7.out) hb); have BK1370 := Aside0.mk (hbox); have GW1370 := sizeB_ hg; have GE1370 := sizeB_ hg; replace HB := stepB_ hb; clear hb hbox hg) | ((with_reducible refine gate_dst (N := 10) rfl ?_); (try (refine gate_guard (by rfl) ?_; dsimp only)); refine boxE_ (cs := #[.int .i64 0, .int .i64 0]) (t := 100) ?_; intro gb1371 hg w23 hbox hb; replace HO_6 := Aside0.mk (Kd.R_below (Kd.R_elderB (kdU_ HO_6.out) gb1371 (Nat.le_of_eq hg.symm)) hb); replace HO_7 := Aside0.mk (Kd.R_below (kdU_ HO_7.out) hb); have BK1371 := Aside0.mk (hbox); have GW1371 := sizeB_ hg; have GE1371 := sizeB_ hg; replace HB := stepB_ hb; have NB1370_1371 := neL_ BK1370.out hg; have NB1371_1370 := neG_ BK1370.out hg; replace BK1370 := blkBel_ BK1370.out hb; clear hb hbox hg; have hnb24 := NB1370_1371.out; have hnc24 := NB1371_1370.out; obtain ⟨hcz25_0, hcz25_1, hfz25_0, hfz25_1⟩ := cz2_ BK1370.out; obtain ⟨hcz26_0, hcz26_1, hfz26_0, hfz26_1⟩ := cz2_ BK1371.out; obtain ⟨i027, hi027, _, hsz27, _⟩ := info_parts info9; obtain ⟨A27, hcut27, hA27, hC27⟩ := print_mid_of (P := Try.prog) Value.string (⟨#[]⟩ : ByteArray) 61 9 .i64 .i64 Try.underlying61 hi027 hsz27 A0 c0 l0 t1368 t1369 (ofd_) (by first | omega | exact ofd_) (ofd_) HC0.out; have HR1372 := Aside0.mk (Kd.C_of_reads (h1 := fun _ => rfl) (hA27 _ (Kd.reads_of_C HR0.out))); have HC1372 := Aside0.mk hC27; clear hA27 hC27 hi027 hsz27))
                            refine wpL22_ (w := w) (by (with_reducible repeat (first | apply Kd.R_alloc | apply Kd.R_drewN | apply Kd.R_drew)); exact (Kd.R_mono (Kd.R_mono (Kd.R_far (p := ⟨gb1370, 1, none⟩) (Kd.R_far (p := ⟨gb1370, 0, none⟩) (Kd.R_far (p := ⟨gb1371, 1, none⟩) (Kd.R_far (p := ⟨gb1371, 0, none⟩) (Kd.R_far (p := ⟨gb1370, 1, none⟩) (Kd.R_far (p := ⟨gb1370, 0, none⟩) (Kd.R_mono (Kd.R_mono HO_6.out (fun k_ hk => (⟨hk, hk.1.2⟩ : _ ∧ k_ ≠ gb1370))) (fun k_ hk => (⟨hk, hk.1.2⟩ : _ ∧ k_ ≠ gb1371))) (fun _ hk => hk.1.2) (.int .i64 t1366)) (fun _ hk => hk.1.2) (.int .i64 t1367)) (fun _ hk => hk.2) (.int .i64 t1368)) (fun _ hk => hk.2) (.int .i64 t1369)) (fun _ hk => hk.1.2) (.int .i64 t1368)) (fun _ hk => hk.1.2) (.int .i64 t1369)) (fun _ h_ => h_.1)) (fun _ h_ => h_.1))) (by (with_reducible repeat (first | apply Kd.R_alloc | apply Kd.R_drewN | apply Kd.R_drew)); exact (Kd.R_mono (Kd.R_mono (Kd.R_far (p := ⟨gb1370, 1, none⟩) (Kd.R_far (p := ⟨gb1370, 0, none⟩) (Kd.R_far (p := ⟨gb1371, 1, none⟩) (Kd.R_far (p := ⟨gb1371, 0, none⟩) (Kd.R_far (p := ⟨gb1370, 1, none⟩) (Kd.R_far (p := ⟨gb1370, 0, none⟩) (Kd.R_types (Kd.R_types HO_7.out BK1370.out (by decide)) BK1371.out (by decide)) (fun _ hk => hk.1.2) (.int .i64 t1366)) (fun _ hk => hk.1.2) (.int .i64 t1367)) (fun _ hk => hk.2) (.int .i64 t1368)) (fun _ hk => hk.2) (.int .i64 t1369)) (fun _ hk => hk.1.2) (.int .i64 t1368)) (fun _ hk => hk.1.2) (.int .i64 t1369)) (fun _ h_ => h_.1)) (fun _ h_ => h_.1))) (blkF_ (cs := #[.int .i64 t1368, .int .i64 t1369]) BK1370.out) (blkF_ (cs := #[.int .i64 t1368, .int .i64 t1369]) BK1371.out) bel_ ?_
                            clear HO_6 HO_7 BK1370 BK1371 HB
                            intro wl11_ HO_6 HO_7 BK1370 BK1371 HB
                            obtain ⟨_, _, _, _⟩ := cz2_ BK1370.out
                            obtain ⟨_, _, _, _⟩ := cz2_ BK1371.out
                            go_wp2_with (first | ((with_reducible refine gate_callee (f := 64) rfl ?_); refine goesL_ (some 53) rfl rfl Try.func64 (by kernel_rfl) rfl #[.slice A27 ((l0.take (t1369 : Int).toNat).drop (t1368 : Int).toNat).length (c0 - t1368.toNat)] rfl (by (try simp only [List.map_toArray, List.map_cons, List.map_nil]); first | done | (rw [show ((l0.take (t1369 : Int).toNat).drop (t1368 : Int).toNat).length = (t1369.toNat - t1368.toNat) from (by rw [List.length_drop, List.length_take]; have h_ : (t1369 : Int) ≤ (l0.length : Int) := ofd_; omega)] <;> rfl) | rfl | (simp only [List.length_drop, List.length_take]; rfl)) ?_; (with_reducible refine (impl_rootOf.calls k2 _ _ ((l0.take (t1369 : Int).toNat).drop (t1368 : Int).toNat) t1373 t1374 t1375 t1376 _ ?side1 ?side2 A19.out).mono ?_); (case side1 => exact Kd.C_below HR1372.out bel_); (case side2 => exact HC1372.out); rintro e w28 ⟨rfl, hb⟩; refine ⟨_, rfl, ?_⟩; replace HO_6 := Aside0.mk (Kd.R_below (kdU_ HO_6.out) hb); replace HO_7 := Aside0.mk (Kd.R_below (kdU_ HO_7.out) hb); replace BK1370 := blkBel_ BK1370.out hb; replace BK1371 := blkBel_ BK1371.out hb; replace HB := stepB_ hb; (try clear hb); (try clear hk)) | ((with_reducible refine gate_builtin (b := .append) (xs := #[.tmp 46, .tmp 54]) rfl ?_); (try (refine gate_guard (by rfl) ?_; dsimp only)); at_builtin; refine Kd.R_append k29 (w0 := w) w.heap.size rfl (.tmp 46) (.tmp 54) 49 29 (.agg #[(.int .u64 0), (.int .u64 0), (.int .u64 0), (.int .u64 0)]) 32 rfl Try.underlying49 info29 rfl (by decide) (by omega) u7 x7_2 (⟨t1373, t1374, t1375, t1376⟩ : S29) [.int .u64 t1373, .int .u64 t1374, .int .u64 t1375, .int .u64 t1376] (fun _ => True) (fun _ => False) rfl rfl ?aP (fun _ hk => hk.elim) ?aF ?aO ?aB ?aS ?aL ?_; (case aP => exact k29_mkM _ _ _ (⟨t1373, t1374, t1375, t1376⟩ : S29)); (case aB => exact bel_); (case aF => exact (fun _ _ => trivial)); (case aO => exact (kdU_ HO_7.out)); (case aS => exact (below_size bel_)); (case aL => have := LMc20.out; omega); intro v1378 w29 ho hb hg hat; rw [← Ny1377.out] at ho; replace HO_6 := Aside0.mk (Kd.R_over' (kdU_ HO_6.out) (Kd.R_typed (kdU_ HO_7.out)) (by decide) hg); replace BK1370 := Aside0.mk (blk_grown (g := gb1370) (o := .cells #[.int .i64 t1368, .int .i64 t1369] 100 (0, 0)) (blkU_ BK1370.out) hg (Kd.R_ne HO_7.out BK1370.out (by decide))); replace BK1371 := Aside0.mk (blk_grown (g := gb1371) (o := .cells #[.int .i64 t1368, .int .i64 t1369] 100 (0, 0)) (blkU_ BK1371.out) hg (Kd.R_ne HO_7.out BK1371.out (by decide))); replace HB := Aside0.mk (hb); have HO1379 := Aside0.mk (ho); clear HO_7; clear ho hb hg hat))
                            go_roundg k2
                            case measure => have := HJ2.out; have := HK2.out; omega
                            case rel => exact ⟨(y1377), (wrap64 (x8_2 - 1)), (by first | rfl | (simp; done) | (simp [*]; done)), H', ⟨by have := HJ2.out; have := HK2.out; omega⟩, ⟨by (with_reducible repeat (first | apply Kd.R_alloc | apply Kd.R_drewN | apply Kd.R_drew)); exact Kd.R_mono HO_6.out (fun _ hk => trivial)⟩, ⟨kdU_ HO1379.out⟩, ⟨bel_⟩⟩
                          · rw [if_neg c20] at H
                            exact absurd H (by simp)
                        · rw [if_neg c18] at H
                          exact absurd H (by simp)
                      · rw [if_neg c17] at H
                        exact absurd H (by simp)
                    · rw [if_neg c16] at H
                      exact absurd H (by simp)
                  · rw [if_neg c15] at H
                    have c15b0 : decide (a1 < t1367) = false := decide_eq_false c15
                    clear c15
                    by_cases c30 : 0 ≤ t1366
                    · rw [if_pos c30] at H
                      have c30b0 := eq_true c30
                      have c30b1 : decide (0 ≤ t1366) = true := decide_eq_true c30
                      clear c30
                      by_cases c31 : t1366 ≤ t1367
                      · rw [if_pos c31] at H
                        have c31b0 := eq_true c31
                        have c31b1 : decide (t1366 ≤ t1367) = true := decide_eq_true c31
                        clear c31
                        by_cases c32 : t1367 ≤ (l0.length : Int)
                        · rw [if_pos c32] at H
                          have c32b0 := eq_true c32
                          have c32b1 : decide (t1367 ≤ (l0.length : Int)) = true := decide_eq_true c32
                          clear c32
                          obtain ⟨⟨t1381, t1382, t1383, t1384⟩, A33, H⟩ := bnd_ H
                          dsimp only at H
                          by_cases c34 : x7_2.length < 4398046511104
                          · rw [if_pos c34] at H
                            have LMc34 := Aside0.mk c34
                            clear c34
                            obtain ⟨y1385, hy1385⟩ : ∃ y_ : List (S29), y_ = (x7_2 ++ [(⟨t1381, t1382, t1383, t1384⟩ : S29)]) := ⟨_, rfl⟩
                            replace H : (impl_PathOf.l0 k2 l0 a1 t1359 y1385 (wrap64 (x8_2 - 1))) = some (r1, r2) := by first | (rw [hy1385]; with_reducible exact H) | (have H2_ := (Option.bind_some _ _).symm.trans H; rw [hy1385]; with_reducible exact H2_) | (have H2_ := (Option.bind_some _ _).symm.trans H; with_reducible exact H2_) | with_reducible exact H | (rw [hy1385]; exact H) | exact H
                            have Ny1385 := Aside0.mk hy1385
                            clear hy1385
                            have H' := Aside0.mk H
                            clear H
                            have p1365 : 0 ≤ (x8_2 : Int) := ofd_
                            have q1365 : x8_2 < (t1359.length : Int) := ofd_
                            obtain ⟨ad1365, e1365, hx1365_0, hx1365_1⟩ := at_T100 (Kd.R_reads' HO_6.out).2.2 x8_2 p1365 q1365
                            cases e1365
                            replace p1365 := eq_true p1365
                            replace q1365 := eq_true q1365
                            go_upto_region 11 with (first | ((with_reducible refine gate_callee (f := 77) rfl ?_); refine goL_ (some 38) Try.func77 #[.agg #[.int .i64 ((rd_T100 t1359 x8_2).f0), .int .i64 ((rd_T100 t1359 x8_2).f1)]] ?_; (with_reducible refine (impl_node_halves.calls k2 ((rd_T100 t1359 x8_2).f0) ((rd_T100 t1359 x8_2).f1) t1366 t1367 t1368 t1369 _ A14.out).mono ?_); rintro e w35 ⟨rfl, hb⟩; refine ⟨_, rfl, ?_⟩; replace HO_6 := Aside0.mk (Kd.R_below (kdU_ HO_6.out) hb); replace HO_7 := Aside0.mk (Kd.R_below (kdU_ HO_7.out) hb); replace HB := stepB_ hb; (try clear hb); (try clear hk)) | ((with_reducible refine gate_dst (N := 9) rfl ?_); (try (refine gate_guard (by rfl) ?_; dsimp only)); refine boxE_ (cs := #[.int .i64 0, .int .i64 0]) (t := 100) ?_; intro gb1370 hg w36 hbox hb; replace HO_6 := Aside0.mk (Kd.R_below (Kd.R_elderB (kdU_ HO_6.out) gb1370 (Nat.le_of_eq hg.symm)) hb); replace HO_7 := Aside0.mk (Kd.R_below (kdU_ HO_7.out) hb); have BK1370 := Aside0.mk (hbox); have GW1370 := sizeB_ hg; have GE1370 := sizeB_ hg; replace HB := stepB_ hb; clear hb hbox hg) | ((with_reducible refine gate_dst (N := 10) rfl ?_); (try (refine gate_guard (by rfl) ?_; dsimp only)); refine boxE_ (cs := #[.int .i64 0, .int .i64 0]) (t := 100) ?_; intro gb1371 hg w37 hbox hb; replace HO_6 := Aside0.mk (Kd.R_below (Kd.R_elderB (kdU_ HO_6.out) gb1371 (Nat.le_of_eq hg.symm)) hb); replace HO_7 := Aside0.mk (Kd.R_below (kdU_ HO_7.out) hb); have BK1371 := Aside0.mk (hbox); have GW1371 := sizeB_ hg; have GE1371 := sizeB_ hg; replace HB := stepB_ hb; have NB1370_1371 := neL_ BK1370.out hg; have NB1371_1370 := neG_ BK1370.out hg; replace BK1370 := blkBel_ BK1370.out hb; clear hb hbox hg; have hnb38 := NB1370_1371.out; have hnc38 := NB1371_1370.out; obtain ⟨hcz39_0, hcz39_1, hfz39_0, hfz39_1⟩ := cz2_ BK1370.out; obtain ⟨hcz40_0, hcz40_1, hfz40_0, hfz40_1⟩ := cz2_ BK1371.out; obtain ⟨i041, hi041, _, hsz41, _⟩ := info_parts info9; obtain ⟨A41, hcut41, hA41, hC41⟩ := print_mid_of (P := Try.prog) Value.string (⟨#[]⟩ : ByteArray) 61 9 .i64 .i64 Try.underlying61 hi041 hsz41 A0 c0 l0 t1366 t1367 (ofd_) (by first | omega | exact ofd_) (ofd_) HC0.out; have HR1380 := Aside0.mk (Kd.C_of_reads (h1 := fun _ => rfl) (hA41 _ (Kd.reads_of_C HR0.out))); have HC1380 := Aside0.mk hC41; clear hA41 hC41 hi041 hsz41))
                            refine wpL22_ (w := w) (by (with_reducible repeat (first | apply Kd.R_alloc | apply Kd.R_drewN | apply Kd.R_drew)); exact (Kd.R_mono (Kd.R_mono (Kd.R_far (p := ⟨gb1371, 1, none⟩) (Kd.R_far (p := ⟨gb1371, 0, none⟩) (Kd.R_far (p := ⟨gb1370, 1, none⟩) (Kd.R_far (p := ⟨gb1370, 0, none⟩) (Kd.R_mono (Kd.R_mono HO_6.out (fun k_ hk => (⟨hk, hk.1.2⟩ : _ ∧ k_ ≠ gb1370))) (fun k_ hk => (⟨hk, hk.1.2⟩ : _ ∧ k_ ≠ gb1371))) (fun _ hk => hk.1.2) (.int .i64 t1366)) (fun _ hk => hk.1.2) (.int .i64 t1367)) (fun _ hk => hk.2) (.int .i64 t1368)) (fun _ hk => hk.2) (.int .i64 t1369)) (fun _ h_ => h_.1)) (fun _ h_ => h_.1))) (by (with_reducible repeat (first | apply Kd.R_alloc | apply Kd.R_drewN | apply Kd.R_drew)); exact (Kd.R_mono (Kd.R_mono (Kd.R_far (p := ⟨gb1371, 1, none⟩) (Kd.R_far (p := ⟨gb1371, 0, none⟩) (Kd.R_far (p := ⟨gb1370, 1, none⟩) (Kd.R_far (p := ⟨gb1370, 0, none⟩) (Kd.R_types (Kd.R_types HO_7.out BK1370.out (by decide)) BK1371.out (by decide)) (fun _ hk => hk.1.2) (.int .i64 t1366)) (fun _ hk => hk.1.2) (.int .i64 t1367)) (fun _ hk => hk.2) (.int .i64 t1368)) (fun _ hk => hk.2) (.int .i64 t1369)) (fun _ h_ => h_.1)) (fun _ h_ => h_.1))) (blkF_ (cs := #[.int .i64 t1366, .int .i64 t1367]) BK1370.out) (blkF_ (cs := #[.int .i64 t1368, .int .i64 t1369]) BK1371.out) bel_ ?_
                            clear HO_6 HO_7 BK1370 BK1371 HB
                            intro wl11_ HO_6 HO_7 BK1370 BK1371 HB
                            obtain ⟨_, _, _, _⟩ := cz2_ BK1370.out
                            obtain ⟨_, _, _, _⟩ := cz2_ BK1371.out
                            go_wp2_with (first | ((with_reducible refine gate_callee (f := 64) rfl ?_); refine goesL_ (some 53) rfl rfl Try.func64 (by kernel_rfl) rfl #[.slice A41 ((l0.take (t1367 : Int).toNat).drop (t1366 : Int).toNat).length (c0 - t1366.toNat)] rfl (by (try simp only [List.map_toArray, List.map_cons, List.map_nil]); first | done | (rw [show ((l0.take (t1367 : Int).toNat).drop (t1366 : Int).toNat).length = (t1367.toNat - t1366.toNat) from (by rw [List.length_drop, List.length_take]; have h_ : (t1367 : Int) ≤ (l0.length : Int) := ofd_; omega)] <;> rfl) | rfl | (simp only [List.length_drop, List.length_take]; rfl)) ?_; (with_reducible refine (impl_rootOf.calls k2 _ _ ((l0.take (t1367 : Int).toNat).drop (t1366 : Int).toNat) t1381 t1382 t1383 t1384 _ ?side1 ?side2 A33.out).mono ?_); (case side1 => exact Kd.C_below HR1380.out bel_); (case side2 => exact HC1380.out); rintro e w42 ⟨rfl, hb⟩; refine ⟨_, rfl, ?_⟩; replace HO_6 := Aside0.mk (Kd.R_below (kdU_ HO_6.out) hb); replace HO_7 := Aside0.mk (Kd.R_below (kdU_ HO_7.out) hb); replace BK1370 := blkBel_ BK1370.out hb; replace BK1371 := blkBel_ BK1371.out hb; replace HB := stepB_ hb; (try clear hb); (try clear hk)) | ((with_reducible refine gate_builtin (b := .append) (xs := #[.tmp 46, .tmp 54]) rfl ?_); (try (refine gate_guard (by rfl) ?_; dsimp only)); at_builtin; refine Kd.R_append k29 (w0 := w) w.heap.size rfl (.tmp 46) (.tmp 54) 49 29 (.agg #[(.int .u64 0), (.int .u64 0), (.int .u64 0), (.int .u64 0)]) 32 rfl Try.underlying49 info29 rfl (by decide) (by omega) u7 x7_2 (⟨t1381, t1382, t1383, t1384⟩ : S29) [.int .u64 t1381, .int .u64 t1382, .int .u64 t1383, .int .u64 t1384] (fun _ => True) (fun _ => False) rfl rfl ?aP (fun _ hk => hk.elim) ?aF ?aO ?aB ?aS ?aL ?_; (case aP => exact k29_mkM _ _ _ (⟨t1381, t1382, t1383, t1384⟩ : S29)); (case aB => exact bel_); (case aF => exact (fun _ _ => trivial)); (case aO => exact (kdU_ HO_7.out)); (case aS => exact (below_size bel_)); (case aL => have := LMc34.out; omega); intro v1386 w43 ho hb hg hat; rw [← Ny1385.out] at ho; replace HO_6 := Aside0.mk (Kd.R_over' (kdU_ HO_6.out) (Kd.R_typed (kdU_ HO_7.out)) (by decide) hg); replace BK1370 := Aside0.mk (blk_grown (g := gb1370) (o := .cells #[.int .i64 t1366, .int .i64 t1367] 100 (0, 0)) (blkU_ BK1370.out) hg (Kd.R_ne HO_7.out BK1370.out (by decide))); replace BK1371 := Aside0.mk (blk_grown (g := gb1371) (o := .cells #[.int .i64 t1368, .int .i64 t1369] 100 (0, 0)) (blkU_ BK1371.out) hg (Kd.R_ne HO_7.out BK1371.out (by decide))); replace HB := Aside0.mk (hb); have HO1387 := Aside0.mk (ho); clear HO_7; clear ho hb hg hat))
                            go_roundg k2
                            case measure => have := HJ2.out; have := HK2.out; omega
                            case rel => exact ⟨(y1385), (wrap64 (x8_2 - 1)), (by first | rfl | (simp; done) | (simp [*]; done)), H', ⟨by have := HJ2.out; have := HK2.out; omega⟩, ⟨by (with_reducible repeat (first | apply Kd.R_alloc | apply Kd.R_drewN | apply Kd.R_drew)); exact Kd.R_mono HO_6.out (fun _ hk => trivial)⟩, ⟨kdU_ HO1387.out⟩, ⟨bel_⟩⟩
                          · rw [if_neg c34] at H
                            exact absurd H (by simp)
                        · rw [if_neg c32] at H
                          exact absurd H (by simp)
                      · rw [if_neg c31] at H
                        exact absurd H (by simp)
                    · rw [if_neg c30] at H
                      exact absurd H (by simp)
                · rw [if_neg c13] at H
                  exact absurd H (by simp)
              · rw [if_neg c12] at H
                exact absurd H (by simp)
            · rw [if_neg c11] at H
              have c11b0 : decide (0 ≤ x8_2) = false := decide_eq_false c11
              clear c11
              obtain ⟨t1362, A44, H⟩ := bnd_ H
              simp only [Option.some.injEq, Prod.mk.injEq] at H
              obtain ⟨rfl, rfl⟩ := H
              obtain ⟨Ao45, co45, eo45⟩ := Kd.R_slice HO_7.out
              subst eo45
              go_wp2_with (first | ((with_reducible refine gate_callee (f := 65) rfl ?_); refine goL_ (some 57) Try.func65 #[.slice Ao45 x7_2.length co45] ?_; (with_reducible refine (impl_Digest.calls _ _ x7_2 t1362 _ ?side1 ?side2 A44.out).mono ?_); (case side1 => repeat (first | exact (Kd.R_reads' HO_7.out).2.2 | (with_reducible refine Kd.C_alloc ?_ _) | (with_reducible refine Kd.C_drewN ?_ _) | (with_reducible refine Kd.C_drew ?_))); (case side2 => exact (Kd.R_reads' HO_7.out).2.1); rintro e w46 ⟨v1363, rfl, ho0, hb⟩; refine ⟨_, rfl, ?_⟩; replace HO_6 := Aside0.mk (Kd.R_below (kdU_ HO_6.out) hb); have HO1364 := Aside0.mk (Kd.R_lower (Kd.R_new' ho0 (Kd.R_lt (kdU_ HO_7.out))) (below_size bel_)); replace HO_7 := Aside0.mk (Kd.R_elder' (kdU_ HO_7.out) (Kd.R_base ho0) hb); replace HB := stepB_ hb; (try clear hb); (try clear hk); (try clear ho0)))
              go_ret2
              exact ⟨_, rfl_, by (with_reducible repeat (first | apply Kd.R_alloc | apply Kd.R_drewN | apply Kd.R_drew)); exact Kd.R_mono HO1364.out (fun _ hk => trivial), bel_⟩
end
end Go.Proofs.Ytflckegggopdnaa.B
