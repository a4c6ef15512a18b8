/- What the Go functions loop.example/belfry/laws.FnExactPathRoot do is what the Lean functions .f of their names here say; condition: .f gives an answer. (Written by the session's program pp.py over the kit's print; Lean checks it.) -/
import Derived.Test.YtemfciflhbhobaaK
import Derived.Test.YtemfciflhbhobaaM
import Derived.Test.YtemfciflhbhobaaGLawD1
import Derived.Test.YtemfciflhbhobaaGUp1
import Derived.Test.YtemfciflhbhobaaGUp2
namespace Go.Proofs.Ytemfciflhbhobaa.B
open Go.RowKit Go.Proofs.YtemfciflhbhobaaW.PrintWords Go.Proofs.YtemfciflhbhobaaW.PrintLast Go.Proofs.YtemfciflhbhobaaW.PrintMore
attribute [local go_sem] max2_int min2_int max_two min_two max_three min_three max_four min_four   -- for this text's walks alone
set_option linter.unusedVariables false
set_option linter.unusedSimpArgs false

section
/-! ### laws_FnExactPathRoot: function 8 -/
def laws_FnExactPathRoot.j0 : Nat → List (S24) → List (S29) → Bool → Option (Bool)
  | 0, _, _, _ => none
  | k + 1, x3, x12, x50 => if x50 = true then (some false) else ((laws_toDigestS.f k x3).bind fun t1128 => ((laws_eqDigestS.f k x12 t1128).bind fun t1131 => (if t1131 = true then (some true) else (some false))))
def laws_FnExactPathRoot.f (k : Nat) (a0 : Int) (a1 : Int) (a2 : ByteArray) (l3 : List (S24)) : Option (Bool) := if (a2.size : Int) > 1048576 then (some true) else ((laws_szDigestS.f l3 1048576).bind fun t1108 => (if t1108 < 0 then (some true) else ((laws_toDigestS.f k l3).bind fun t1109 => ((spec_PathRoot.f k a0 a1 a2 t1109).bind fun bt1112 => ((laws_toDigestS.f k l3).bind fun t1118 => ((impl_PathRoot.f k a0 a1 a2 t1118).bind fun bt1121 => ((laws_eqDigest.f bt1121.1 bt1121.2.1 bt1121.2.2.1 bt1121.2.2.2.1 bt1112.1 bt1112.2.1 bt1112.2.2.1 bt1112.2.2.2.1).bind fun t1127 => (if t1127 = true then (laws_FnExactPathRoot.j0 k l3 t1118 (bt1121.2.2.2.2 != bt1112.2.2.2.2)) else (laws_FnExactPathRoot.j0 k l3 t1118 true)))))))))
theorem laws_FnExactPathRoot.mono_l : ∀ k, (∀ y0 y1 y2, LeO (laws_FnExactPathRoot.j0 k y0 y1 y2) (laws_FnExactPathRoot.j0 (k + 1) y0 y1 y2))
  | 0 => fun _ _ _ r h => by simp [laws_FnExactPathRoot.j0] at h
  | k + 1 => by
    have ih0 := laws_FnExactPathRoot.mono_l k
    · intro y0 y1 y2
      unfold laws_FnExactPathRoot.j0
      repeat' first | (with_reducible first | exact ih0 _ _ _ | exact impl_PathRoot.mono _ _ _ _ _ | exact laws_eqDigestS.mono _ _ _ | exact laws_toDigestS.mono _ _ | exact spec_PathRoot.mono _ _ _ _ _ | exact LeO.refl _ | exact LeO.none _ | refine LeO.ite ?_ ?_ | refine LeO.bind ?_ (fun _ => ?_)) | exact ih0 _ _ _ | exact LeO.none _ | refine LeO.ite ?_ ?_ | refine LeO.bind ?_ (fun _ => ?_)
theorem laws_FnExactPathRoot.mono : ∀ a0 a1 a2 a3 k, LeO (laws_FnExactPathRoot.f k a0 a1 a2 a3) (laws_FnExactPathRoot.f (k + 1) a0 a1 a2 a3) := by
  intro a0 a1 a2 a3 k
  have ih0 := laws_FnExactPathRoot.mono_l k
  unfold laws_FnExactPathRoot.f
  repeat' first | (with_reducible first | exact ih0 _ _ _ | exact impl_PathRoot.mono _ _ _ _ _ | exact laws_eqDigestS.mono _ _ _ | exact laws_toDigestS.mono _ _ | exact spec_PathRoot.mono _ _ _ _ _ | exact LeO.refl _ | exact LeO.none _ | refine LeO.ite ?_ ?_ | refine LeO.bind ?_ (fun _ => ?_)) | exact ih0 _ _ _ | exact LeO.none _ | refine LeO.ite ?_ ?_ | refine LeO.bind ?_ (fun _ => ?_)
set_option maxHeartbeats 8000000 in
set_option maxRecDepth 100000 in
theorem laws_FnExactPathRoot.calls (k : Nat) (a0 : Int) (a1 : Int) (a2 : ByteArray) (A3 : Option Addr) (c3 : Nat) (l3 : List (S24)) (r : Bool) (hr_ : r = true) (w : World) (hr3 : Kd.C k24 w A3 l3.length l3) (hc3 : l3.length ≤ c3) (h : laws_FnExactPathRoot.f k a0 a1 a2 l3 = some r) :
    Calls Try.prog 8 #[.int .i64 a0, .int .i64 a1, .string a2, .slice A3 l3.length c3] w fun e w' => e = .returned (.bool r) ∧ Below w.heap.size w w' := by
  have hu29 := Try.underlying29
  have HR3 := Aside0.mk hr3
  have HC3 := Aside0.mk hc3
  clear hr3 hc3
  have HB := Aside0.mk (Below.refl w.heap.size w)
  have H : (if (a2.size : Int) > 1048576 then (some true) else ((laws_szDigestS.f l3 1048576).bind fun t1108 => (if t1108 < 0 then (some true) else ((laws_toDigestS.f k l3).bind fun t1109 => ((spec_PathRoot.f k a0 a1 a2 t1109).bind fun bt1112 => ((laws_toDigestS.f k l3).bind fun t1118 => ((impl_PathRoot.f k a0 a1 a2 t1118).bind fun bt1121 => ((laws_eqDigest.f bt1121.1 bt1121.2.1 bt1121.2.2.1 bt1121.2.2.2.1 bt1112.1 bt1112.2.1 bt1112.2.2.1 bt1112.2.2.2.1).bind fun t1127 => (if t1127 = true then (laws_FnExactPathRoot.j0 k l3 t1118 (bt1121.2.2.2.2 != bt1112.2.2.2.2)) else (laws_FnExactPathRoot.j0 k l3 t1118 true)))))))))) = some r := h
  clear h
  by_cases c5 : (a2.size : Int) > 1048576
  · rw [if_pos c5] at H
    have c5b0 : decide (1048576 < (a2.size : Int)) = true := decide_eq_true c5
    have c5b1 : decide (1048576 < a2.size) = true := decide_eq_true (by omega)
    clear c5
    obtain rfl := Option.some.inj H
    go_enter Try.func8, Try.ntmps8
    go_wp2
    go_ret
    exact ⟨rfl_, bel_⟩
  · rw [if_neg c5] at H
    have c5b0 : decide (1048576 < (a2.size : Int)) = false := decide_eq_false c5
    have c5b1 : decide (1048576 < a2.size) = false := decide_eq_false (by omega)
    clear c5
    obtain ⟨t1108, A6, H⟩ := bnd_ H
    by_cases c7 : t1108 < 0
    · rw [if_pos c7] at H
      have c7b0 : decide (t1108 < 0) = true := decide_eq_true c7
      clear c7
      obtain rfl := Option.some.inj H
      go_enter Try.func8, Try.ntmps8
      go_wp2_with (first | ((with_reducible refine gate_callee (f := 32) rfl ?_); refine goL_ (some 20) Try.func32 #[.slice A3 l3.length c3, .int .i64 1048576] ?_; (with_reducible refine (laws_szDigestS.calls _ _ l3 1048576 t1108 _ ?side1 ?side2 A6.out).mono ?_); (case side1 => repeat (first | exact HR3.out | (with_reducible refine Kd.C_alloc ?_ _) | (with_reducible refine Kd.C_drewN ?_ _) | (with_reducible refine Kd.C_drew ?_))); (case side2 => exact HC3.out); rintro e w' ⟨rfl, ⟨nd, rfl⟩⟩; refine ⟨_, rfl, ?_⟩))
      go_ret
      exact ⟨rfl_, bel_⟩
    · rw [if_neg c7] at H
      have c7b0 : decide (t1108 < 0) = false := decide_eq_false c7
      clear c7
      obtain ⟨t1109, A8, H⟩ := bnd_ H
      obtain ⟨⟨t1112, t1113, t1114, t1115, t1116⟩, A9, H⟩ := bnd_ H
      dsimp only at H
      obtain ⟨t1118, A10, H⟩ := bnd_ H
      obtain ⟨⟨t1121, t1122, t1123, t1124, t1125⟩, A11, H⟩ := bnd_ H
      dsimp only at H
      have HC12 := Aside0.mk H
      clear H
      go_enter Try.func8, Try.ntmps8
      go_upto_region 10 with (first | ((with_reducible refine gate_callee (f := 32) rfl ?_); refine goL_ (some 20) Try.func32 #[.slice A3 l3.length c3, .int .i64 1048576] ?_; (with_reducible refine (laws_szDigestS.calls _ _ l3 1048576 t1108 _ ?side1 ?side2 A6.out).mono ?_); (case side1 => repeat (first | exact HR3.out | (with_reducible refine Kd.C_alloc ?_ _) | (with_reducible refine Kd.C_drewN ?_ _) | (with_reducible refine Kd.C_drew ?_))); (case side2 => exact HC3.out); rintro e w' ⟨rfl, ⟨nd, rfl⟩⟩; refine ⟨_, rfl, ?_⟩) | ((with_reducible refine gate_callee (f := 35) rfl ?_); refine goL_ (some 28) Try.func35 #[.slice A3 l3.length c3] ?_; (with_reducible refine (laws_toDigestS.calls k _ _ l3 t1109 _ ?side1 ?side2 A8.out).mono ?_); (case side1 => repeat (first | exact HR3.out | (with_reducible refine Kd.C_alloc ?_ _) | (with_reducible refine Kd.C_drewN ?_ _) | (with_reducible refine Kd.C_drew ?_))); (case side2 => exact HC3.out); rintro e w13 ⟨v1110, rfl, ho0, hb⟩; refine ⟨_, rfl, ?_⟩; have HO1111 := Aside0.mk (Kd.R_lower ho0 (below_size bel_)); replace HB := stepB_ hb; (try clear hb); (try clear hk); (try clear ho0); obtain ⟨Ao14, co14, eo14⟩ := Kd.R_slice HO1111.out; subst eo14) | ((with_reducible refine gate_callee (f := 50) rfl ?_); refine goL_ (some 29) Try.func50 #[.int .i64 a0, .int .i64 a1, .string a2, .slice Ao14 t1109.length co14] ?_; (with_reducible refine (spec_PathRoot.calls k a0 a1 a2 _ _ t1109 t1112 t1113 t1114 t1115 t1116 _ ?side1 ?side2 A9.out).mono ?_); (case side1 => repeat (first | exact (Kd.R_reads' HO1111.out).2.2 | (with_reducible refine Kd.C_alloc ?_ _) | (with_reducible refine Kd.C_drewN ?_ _) | (with_reducible refine Kd.C_drew ?_))); (case side2 => exact (Kd.R_reads' HO1111.out).2.1); rintro e w15 ⟨rfl, hb⟩; refine ⟨_, rfl, ?_⟩; replace HO1111 := Aside0.mk (Kd.R_below (kdU_ HO1111.out) hb); replace HB := stepB_ hb; (try clear hb); (try clear hk)) | ((with_reducible refine gate_dst (N := 10) rfl ?_); refine boxE_ (cs := #[.int .u64 0, .int .u64 0, .int .u64 0, .int .u64 0]) (t := 29) ?_; intro gb1117 hg w16 hbox hb; replace HO1111 := Aside0.mk (Kd.R_below (Kd.R_elderB (kdU_ HO1111.out) gb1117 (Nat.le_of_eq hg.symm)) hb); have BK1117 := Aside0.mk (hbox); have GW1117 := sizeB_ hg; have GE1117 := sizeB_ hg; replace HB := stepB_ hb; clear hb hbox hg; obtain ⟨hcz17_0, hcz17_1, hcz17_2, hcz17_3, hfz17_0, hfz17_1, hfz17_2, hfz17_3⟩ := cz4_ BK1117.out) | ((with_reducible refine gate_callee (f := 35) rfl ?_); refine goL_ (some 33) Try.func35 #[.slice A3 l3.length c3] ?_; (with_reducible refine (laws_toDigestS.calls k _ _ l3 t1118 _ ?side1 ?side2 A10.out).mono ?_); (case side1 => exact Kd.C_below HR3.out bel_); (case side2 => exact HC3.out); rintro e w18 ⟨v1119, rfl, ho0, hb⟩; refine ⟨_, rfl, ?_⟩; have HO1120 := Aside0.mk (Kd.R_lower (Kd.R_newB (Kd.R_new' ho0 (Kd.R_lt (by (with_reducible repeat (first | apply Kd.R_alloc | apply Kd.R_drewN | apply Kd.R_drew)); exact (Kd.R_mono (Kd.R_far (p := ⟨gb1117, 3, none⟩) (Kd.R_far (p := ⟨gb1117, 2, none⟩) (Kd.R_far (p := ⟨gb1117, 1, none⟩) (Kd.R_far (p := ⟨gb1117, 0, none⟩) (Kd.R_mono HO1111.out (fun k_ hk => (⟨hk, hk.2⟩ : _ ∧ k_ ≠ gb1117))) (fun _ hk => hk.2) (.int .u64 t1112)) (fun _ hk => hk.2) (.int .u64 t1113)) (fun _ hk => hk.2) (.int .u64 t1114)) (fun _ hk => hk.2) (.int .u64 t1115)) (fun _ h_ => h_.1))))) (g := gb1117) (o := .cells #[.int .u64 t1112, .int .u64 t1113, .int .u64 t1114, .int .u64 t1115] 29 (0, 0)) (blkF_ BK1117.out)) (below_size bel_)); replace HO1111 := Aside0.mk (Kd.R_elder' (by (with_reducible repeat (first | apply Kd.R_alloc | apply Kd.R_drewN | apply Kd.R_drew)); exact (Kd.R_mono (Kd.R_far (p := ⟨gb1117, 3, none⟩) (Kd.R_far (p := ⟨gb1117, 2, none⟩) (Kd.R_far (p := ⟨gb1117, 1, none⟩) (Kd.R_far (p := ⟨gb1117, 0, none⟩) (Kd.R_mono HO1111.out (fun k_ hk => (⟨hk, hk.2⟩ : _ ∧ k_ ≠ gb1117))) (fun _ hk => hk.2) (.int .u64 t1112)) (fun _ hk => hk.2) (.int .u64 t1113)) (fun _ hk => hk.2) (.int .u64 t1114)) (fun _ hk => hk.2) (.int .u64 t1115)) (fun _ h_ => h_.1))) (Kd.R_base ho0) hb); replace BK1117 := blkPB_ (cs := #[.int .u64 t1112, .int .u64 t1113, .int .u64 t1114, .int .u64 t1115]) BK1117.out hb; replace HB := stepB_ hb; (try clear hb); (try clear hk); (try clear ho0); obtain ⟨Ao19, co19, eo19⟩ := Kd.R_slice HO1120.out; subst eo19) | ((with_reducible refine gate_callee (f := 51) rfl ?_); refine goL_ (some 39) Try.func51 #[.int .i64 a0, .int .i64 a1, .string a2, .slice Ao19 t1118.length co19] ?_; (with_reducible refine (impl_PathRoot.calls k a0 a1 a2 _ _ t1118 t1121 t1122 t1123 t1124 t1125 _ ?side1 ?side2 A11.out).mono ?_); (case side1 => repeat (first | exact (Kd.R_reads' HO1120.out).2.2 | (with_reducible refine Kd.C_alloc ?_ _) | (with_reducible refine Kd.C_drewN ?_ _) | (with_reducible refine Kd.C_drew ?_))); (case side2 => exact (Kd.R_reads' HO1120.out).2.1); rintro e w20 ⟨rfl, hb⟩; refine ⟨_, rfl, ?_⟩; replace HO1111 := Aside0.mk (Kd.R_below (kdU_ HO1111.out) hb); replace HO1120 := Aside0.mk (Kd.R_below (kdU_ HO1120.out) hb); replace BK1117 := blkBel_ BK1117.out hb; replace HB := stepB_ hb; (try clear hb); (try clear hk)) | ((with_reducible refine gate_dst (N := 13) rfl ?_); refine boxE_ (cs := #[.int .u64 0, .int .u64 0, .int .u64 0, .int .u64 0]) (t := 29) ?_; intro gb1126 hg w21 hbox hb; replace HO1111 := Aside0.mk (Kd.R_below (Kd.R_elderB (kdU_ HO1111.out) gb1126 (Nat.le_of_eq hg.symm)) hb); replace HO1120 := Aside0.mk (Kd.R_below (Kd.R_elderB (kdU_ HO1120.out) gb1126 (Nat.le_of_eq hg.symm)) hb); have BK1126 := Aside0.mk (hbox); have GW1126 := sizeB_ hg; have GE1126 := sizeB_ hg; replace HB := stepB_ hb; have NB1117_1126 := neL_ BK1117.out hg; have NB1126_1117 := neG_ BK1117.out hg; replace BK1117 := blkBel_ BK1117.out hb; clear hb hbox hg; have hnb22 := NB1126_1117.out; have hnc22 := NB1117_1126.out; obtain ⟨hcz23_0, hcz23_1, hcz23_2, hcz23_3, hfz23_0, hfz23_1, hfz23_2, hfz23_3⟩ := cz4_ BK1126.out))
      (try simp only [Act.put, List.setIfInBounds_toArray, List.set_cons_zero, List.set_cons_succ])
      go_cut [50] (fun v50 wc => ∃ (kq : Nat) (x50_11 : Bool), v50 = .bool x50_11 ∧ Aside0 (laws_FnExactPathRoot.j0 kq l3 t1118 x50_11 = some r) ∧ Aside0 (kq ≤ k) ∧ Aside0 (Kd.R k29 29 wc w.heap.size (fun k_ => k_ ≠ gb1117 ∧ k_ ≠ gb1126) (.slice Ao19 t1118.length co19) t1118) ∧ Aside0 (wc.heap[gb1117]? = some (.cells #[.int .u64 t1112, .int .u64 t1113, .int .u64 t1114, .int .u64 t1115] 29 (0, 0))) ∧ Aside0 (wc.heap[gb1126]? = some (.cells #[.int .u64 t1121, .int .u64 t1122, .int .u64 t1123, .int .u64 t1124] 29 (0, 0))) ∧ Aside0 (Below w.heap.size w wc))
      case first =>
        have H := HC12.out
        clear HC12
        obtain ⟨t1127, A24, H⟩ := bnd_ H
        by_cases c25 : t1127 = true
        · subst c25
          rw [if_pos rfl] at H
          have H' := Aside0.mk H
          clear H
          have hnb26 := NB1126_1117.out
          have hnc26 := NB1117_1126.out
          obtain ⟨hcz27_0, hcz27_1, hcz27_2, hcz27_3, hfz27_0, hfz27_1, hfz27_2, hfz27_3⟩ := cz4_ BK1126.out
          obtain ⟨hcz28_0, hcz28_1, hcz28_2, hcz28_3, hfz28_0, hfz28_1, hfz28_2, hfz28_3⟩ := cz4_ BK1117.out
          go_wp2_with (first | ((with_reducible refine gate_callee (f := 46) rfl ?_); refine goL_ (some 44) Try.func46 #[.agg #[.int .u64 t1121, .int .u64 t1122, .int .u64 t1123, .int .u64 t1124], .agg #[.int .u64 t1112, .int .u64 t1113, .int .u64 t1114, .int .u64 t1115]] ?_; (with_reducible refine (laws_eqDigest.calls t1121 t1122 t1123 t1124 t1112 t1113 t1114 t1115 true _ A24.out).mono ?_); rintro e w29 ⟨rfl, hb⟩; refine ⟨_, rfl, ?_⟩; replace HO1111 := Aside0.mk (Kd.R_below (by (with_reducible repeat (first | apply Kd.R_alloc | apply Kd.R_drewN | apply Kd.R_drew)); exact (Kd.R_mono (Kd.R_far (p := ⟨gb1126, 3, none⟩) (Kd.R_far (p := ⟨gb1126, 2, none⟩) (Kd.R_far (p := ⟨gb1126, 1, none⟩) (Kd.R_far (p := ⟨gb1126, 0, none⟩) (Kd.R_mono HO1111.out (fun k_ hk => (⟨hk, hk.2⟩ : _ ∧ k_ ≠ gb1126))) (fun _ hk => hk.2) (.int .u64 t1121)) (fun _ hk => hk.2) (.int .u64 t1122)) (fun _ hk => hk.2) (.int .u64 t1123)) (fun _ hk => hk.2) (.int .u64 t1124)) (fun _ h_ => h_.1))) hb); replace HO1120 := Aside0.mk (Kd.R_below (by (with_reducible repeat (first | apply Kd.R_alloc | apply Kd.R_drewN | apply Kd.R_drew)); exact (Kd.R_mono (Kd.R_far (p := ⟨gb1126, 3, none⟩) (Kd.R_far (p := ⟨gb1126, 2, none⟩) (Kd.R_far (p := ⟨gb1126, 1, none⟩) (Kd.R_far (p := ⟨gb1126, 0, none⟩) (Kd.R_mono HO1120.out (fun k_ hk => (⟨hk, hk.2⟩ : _ ∧ k_ ≠ gb1126))) (fun _ hk => hk.2) (.int .u64 t1121)) (fun _ hk => hk.2) (.int .u64 t1122)) (fun _ hk => hk.2) (.int .u64 t1123)) (fun _ hk => hk.2) (.int .u64 t1124)) (fun _ h_ => h_.1))) hb); replace BK1117 := blkBel_ BK1117.out hb; replace BK1126 := blkPB_ (cs := #[.int .u64 t1121, .int .u64 t1122, .int .u64 t1123, .int .u64 t1124]) BK1126.out hb; replace HB := stepB_ hb; (try clear hb); (try clear hk)))
          go_meet
          case rel => exact ⟨_, ((t1125 != t1116)), (by first | rfl | (simp; done) | (simp [*]; done)), H', ⟨by first | omega | exact Nat.le_refl _⟩, ⟨by (with_reducible repeat (first | apply Kd.R_alloc | apply Kd.R_drewN | apply Kd.R_drew)); exact Kd.R_mono HO1120.out (fun _ hk => ⟨hk.1.2, hk.2⟩)⟩, ⟨blkU_ BK1117.out⟩, ⟨blkU_ BK1126.out⟩, ⟨bel_⟩⟩
        · replace c25 := Bool.eq_false_iff.mpr c25
          subst c25
          rw [if_neg (show ¬ (false = true) by decide)] at H
          have H' := Aside0.mk H
          clear H
          have hnb30 := NB1126_1117.out
          have hnc30 := NB1117_1126.out
          obtain ⟨hcz31_0, hcz31_1, hcz31_2, hcz31_3, hfz31_0, hfz31_1, hfz31_2, hfz31_3⟩ := cz4_ BK1126.out
          obtain ⟨hcz32_0, hcz32_1, hcz32_2, hcz32_3, hfz32_0, hfz32_1, hfz32_2, hfz32_3⟩ := cz4_ BK1117.out
          go_wp2_with (first | ((with_reducible refine gate_callee (f := 46) rfl ?_); refine goL_ (some 44) Try.func46 #[.agg #[.int .u64 t1121, .int .u64 t1122, .int .u64 t1123, .int .u64 t1124], .agg #[.int .u64 t1112, .int .u64 t1113, .int .u64 t1114, .int .u64 t1115]] ?_; (with_reducible refine (laws_eqDigest.calls t1121 t1122 t1123 t1124 t1112 t1113 t1114 t1115 false _ A24.out).mono ?_); rintro e w33 ⟨rfl, hb⟩; refine ⟨_, rfl, ?_⟩; replace HO1111 := Aside0.mk (Kd.R_below (by (with_reducible repeat (first | apply Kd.R_alloc | apply Kd.R_drewN | apply Kd.R_drew)); exact (Kd.R_mono (Kd.R_far (p := ⟨gb1126, 3, none⟩) (Kd.R_far (p := ⟨gb1126, 2, none⟩) (Kd.R_far (p := ⟨gb1126, 1, none⟩) (Kd.R_far (p := ⟨gb1126, 0, none⟩) (Kd.R_mono HO1111.out (fun k_ hk => (⟨hk, hk.2⟩ : _ ∧ k_ ≠ gb1126))) (fun _ hk => hk.2) (.int .u64 t1121)) (fun _ hk => hk.2) (.int .u64 t1122)) (fun _ hk => hk.2) (.int .u64 t1123)) (fun _ hk => hk.2) (.int .u64 t1124)) (fun _ h_ => h_.1))) hb); replace HO1120 := Aside0.mk (Kd.R_below (by (with_reducible repeat (first | apply Kd.R_alloc | apply Kd.R_drewN | apply Kd.R_drew)); exact (Kd.R_mono (Kd.R_far (p := ⟨gb1126, 3, none⟩) (Kd.R_far (p := ⟨gb1126, 2, none⟩) (Kd.R_far (p := ⟨gb1126, 1, none⟩) (Kd.R_far (p := ⟨gb1126, 0, none⟩) (Kd.R_mono HO1120.out (fun k_ hk => (⟨hk, hk.2⟩ : _ ∧ k_ ≠ gb1126))) (fun _ hk => hk.2) (.int .u64 t1121)) (fun _ hk => hk.2) (.int .u64 t1122)) (fun _ hk => hk.2) (.int .u64 t1123)) (fun _ hk => hk.2) (.int .u64 t1124)) (fun _ h_ => h_.1))) hb); replace BK1117 := blkBel_ BK1117.out hb; replace BK1126 := blkPB_ (cs := #[.int .u64 t1121, .int .u64 t1122, .int .u64 t1123, .int .u64 t1124]) BK1126.out hb; replace HB := stepB_ hb; (try clear hb); (try clear hk)))
          go_meet
          case rel => exact ⟨_, (true), (by first | rfl | (simp; done) | (simp [*]; done)), H', ⟨by first | omega | exact Nat.le_refl _⟩, ⟨by (with_reducible repeat (first | apply Kd.R_alloc | apply Kd.R_drewN | apply Kd.R_drew)); exact Kd.R_mono HO1120.out (fun _ hk => ⟨hk.1.2, hk.2⟩)⟩, ⟨blkU_ BK1117.out⟩, ⟨blkU_ BK1126.out⟩, ⟨bel_⟩⟩
      case rest =>
        clear HC12
        (try clear c3); (try clear c5); (try clear c5b0); (try clear c5b1); (try clear c7); (try clear c7b0); (try clear c25); (try clear hcz17_0); (try clear hcz17_1); (try clear hcz17_2); (try clear hcz17_3); (try clear hcz23_0); (try clear hcz23_1); (try clear hcz23_2); (try clear hcz23_3); (try clear hcz27_0); (try clear hcz27_1); (try clear hcz27_2); (try clear hcz27_3); (try clear hcz28_0); (try clear hcz28_1); (try clear hcz28_2); (try clear hcz28_3); (try clear hcz31_0); (try clear hcz31_1); (try clear hcz31_2); (try clear hcz31_3); (try clear hcz32_0); (try clear hcz32_1); (try clear hcz32_2); (try clear hcz32_3); (try clear hfz17_0); (try clear hfz17_1); (try clear hfz17_2); (try clear hfz17_3); (try clear hfz23_0); (try clear hfz23_1); (try clear hfz23_2); (try clear hfz23_3); (try clear hfz27_0); (try clear hfz27_1); (try clear hfz27_2); (try clear hfz27_3); (try clear hfz28_0); (try clear hfz28_1); (try clear hfz28_2); (try clear hfz28_3); (try clear hfz31_0); (try clear hfz31_1); (try clear hfz31_2); (try clear hfz31_3); (try clear hfz32_0); (try clear hfz32_1); (try clear hfz32_2); (try clear hfz32_3)
        obtain ⟨kq, x50_11, rfl, HA, HJ11, HO_12, BK1117, BK1126, HB⟩ := hcut
        cases kq with
        | zero => exact absurd HA.out (by simp [laws_FnExactPathRoot.j0])
        | succ kj11 =>
          have H := HA.out
          clear HA
          simp only [laws_FnExactPathRoot.j0] at H
          by_cases c34 : x50_11 = true
          · subst c34
            rw [if_pos rfl] at H
            exact absurd ((Option.some.inj H).trans hr_) (by decide)
          · replace c34 := Bool.eq_false_iff.mpr c34
            subst c34
            rw [if_neg (show ¬ (false = true) by decide)] at H
            obtain ⟨t1128, A35, H⟩ := bnd_ H
            obtain ⟨t1131, A36, H⟩ := bnd_ H
            by_cases c37 : t1131 = true
            · subst c37
              rw [if_pos rfl] at H
              obtain rfl := Option.some.inj H
              go_wp2_with (first | ((with_reducible refine gate_callee (f := 35) rfl ?_); refine goL_ (some 53) Try.func35 #[.slice A3 l3.length c3] ?_; (with_reducible refine (laws_toDigestS.calls kj11 _ _ l3 t1128 _ ?side1 ?side2 A35.out).mono ?_); (case side1 => repeat (first | exact (Kd.C_below HR3.out HB.out) | (with_reducible refine Kd.C_alloc ?_ _) | (with_reducible refine Kd.C_drewN ?_ _) | (with_reducible refine Kd.C_drew ?_))); (case side2 => exact HC3.out); rintro e w38 ⟨v1129, rfl, ho0, hb⟩; refine ⟨_, rfl, ?_⟩; have HO1130 := Aside0.mk (Kd.R_lower (Kd.R_newB (Kd.R_newB (Kd.R_new' ho0 (Kd.R_lt (kdU_ HO_12.out))) (g := gb1117) (o := .cells #[.int .u64 t1112, .int .u64 t1113, .int .u64 t1114, .int .u64 t1115] 29 (0, 0)) (blkU_ BK1117.out)) (g := gb1126) (o := .cells #[.int .u64 t1121, .int .u64 t1122, .int .u64 t1123, .int .u64 t1124] 29 (0, 0)) (blkU_ BK1126.out)) (below_size bel_)); replace HO_12 := Aside0.mk (Kd.R_elder' (kdU_ HO_12.out) (Kd.R_base ho0) hb); replace BK1117 := blkBel_ BK1117.out hb; replace BK1126 := blkBel_ BK1126.out hb; replace HB := stepB_ hb; (try clear hb); (try clear hk); (try clear ho0); obtain ⟨Ao39, co39, eo39⟩ := Kd.R_slice HO1130.out; subst eo39) | ((with_reducible refine gate_callee (f := 39) rfl ?_); refine goL_ (some 54) Try.func39 #[.slice Ao19 t1118.length co19, .slice Ao39 t1128.length co39] ?_; (with_reducible refine (laws_eqDigestS.calls kj11 _ _ t1118 _ _ t1128 true _ ?side1 ?side2 ?side3 ?side4 A36.out).mono ?_); (case side1 => repeat (first | exact (Kd.R_reads' HO_12.out).2.2 | (with_reducible refine Kd.C_alloc ?_ _) | (with_reducible refine Kd.C_drewN ?_ _) | (with_reducible refine Kd.C_drew ?_))); (case side2 => exact (Kd.R_reads' HO_12.out).2.1); (case side3 => repeat (first | exact (Kd.R_reads' HO1130.out).2.2 | (with_reducible refine Kd.C_alloc ?_ _) | (with_reducible refine Kd.C_drewN ?_ _) | (with_reducible refine Kd.C_drew ?_))); (case side4 => exact (Kd.R_reads' HO1130.out).2.1); rintro e w40 ⟨rfl, hb⟩; refine ⟨_, rfl, ?_⟩; replace HO_12 := Aside0.mk (Kd.R_below (kdU_ HO_12.out) hb); replace HO1130 := Aside0.mk (Kd.R_below (kdU_ HO1130.out) hb); replace BK1117 := blkBel_ BK1117.out hb; replace BK1126 := blkBel_ BK1126.out hb; replace HB := stepB_ hb; (try clear hb); (try clear hk)))
              go_ret
              exact ⟨rfl_, bel_⟩
            · replace c37 := Bool.eq_false_iff.mpr c37
              subst c37
              rw [if_neg (show ¬ (false = true) by decide)] at H
              exact absurd ((Option.some.inj H).trans hr_) (by decide)

end
end Go.Proofs.Ytemfciflhbhobaa.B
