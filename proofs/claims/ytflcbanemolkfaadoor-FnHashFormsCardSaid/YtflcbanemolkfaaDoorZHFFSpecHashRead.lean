/- What the Go functions loop.example/belfry/spec.HashRead do is what the Lean functions .f of their names here say; condition: .f gives an answer. (Written by the session's program pp.py over the kit's print; Lean checks it.) -/
import Derived.Test.YtflcbanemolkfaaDoorZHFK
import Derived.Test.YtflcbanemolkfaaDoorZHFM
import Derived.Test.YtflcbanemolkfaaDoorZHFFSpecHashBack
import Derived.Test.YtflcbanemolkfaaDoorZHFFSpecL1Unhex
namespace Go.Proofs.YtflcbanemolkfaaDoor.B
open Go.RowKit Go.Proofs.YtflcbanemolkfaaDoorW.PrintWords Go.Proofs.YtflcbanemolkfaaDoorW.PrintLast Go.Proofs.YtflcbanemolkfaaDoorW.PrintMore
attribute [local go_sem] max2_int min2_int max_two min_two max_three min_three max_four min_four
set_option linter.unusedVariables false
set_option linter.unusedSimpArgs false
section
def spec_HashRead.l0 : Nat → ByteArray → List Int → Int → Option (Int × Int × Int × Int × Bool)
  | 0, _, _, _ => none
  | k + 1, x0, x4, x5 => if x5 < 64 then (if 0 ≤ x5 then (if x5 < (x0.size : Int) then ((spec_l1Unhex.f k (bt x0 x5)).bind fun t115 => (if 0 ≤ (wrap64 (x5 + 1)) then (if (wrap64 (x5 + 1)) < (x0.size : Int) then ((spec_l1Unhex.f k (bt x0 (wrap64 (x5 + 1)))).bind fun t116 => (if t115 < 0 then (some (0, 0, 0, 0, false)) else (if t116 < 0 then (some (0, 0, 0, 0, false)) else (if x4.length < 140737488355328 then (spec_HashRead.l0 k x0 (x4 ++ [(wrap64 ((wrap64 (16 * t115)) + t116)) % 256]) (wrap64 (x5 + 2))) else (none))))) else (none)) else (none))) else (none)) else (none)) else ((spec_HashBack.f k (strOfNums x4)).bind fun bt110 => (some (bt110.1, bt110.2.1, bt110.2.2.1, bt110.2.2.2.1, bt110.2.2.2.2)))
def spec_HashRead.f (k : Nat) (a0 : ByteArray) : Option (Int × Int × Int × Int × Bool) := if (a0.size : Int) = 64 then (spec_HashRead.l0 k a0 (([] : List Int)) 0) else (some (0, 0, 0, 0, false))
set_option maxHeartbeats 8000000 in
set_option maxRecDepth 100000 in
theorem spec_HashRead.calls (k : Nat) (a0 : ByteArray) (r1 : Int) (r2 : Int) (r3 : Int) (r4 : Int) (r5 : Bool) (w : World) (h : spec_HashRead.f k a0 = some (r1, r2, r3, r4, r5)) :
    Calls Tryd.prog 5 #[.string a0] w fun e w' => e = .returned (.tuple #[.agg #[.int .u64 r1, .int .u64 r2, .int .u64 r3, .int .u64 r4], .bool r5]) ∧ Below w.heap.size w w' := by
  have hu24 := Tryd.underlying24
  have HB := Aside0.mk (Below.refl w.heap.size w)
  have H : (if (a0.size : Int) = 64 then (spec_HashRead.l0 k a0 (([] : List Int)) 0) else (some (0, 0, 0, 0, false))) = some (r1, r2, r3, r4, r5) := h
  clear h
  by_cases c2 : (a0.size : Int) = 64
  · rw [if_pos c2] at H
    have c2b0 : ((a0.size : Int) == 64) = true := beq_iff_eq.mpr c2
    have c2b1 : ((a0.size : Int) != 64) = false := bne_eq_false_iff_eq.mpr c2
    clear c2
    obtain ⟨y107, hy107⟩ : ∃ y_ : List Int, y_ = (([] : List Int)) := ⟨_, rfl⟩
    replace H : (spec_HashRead.l0 k a0 y107 0) = some (r1, r2, r3, r4, r5) := by first | (rw [hy107]; with_reducible exact H) | (have H2_ := (Option.bind_some _ _).symm.trans H; rw [hy107]; with_reducible exact H2_) | (have H2_ := (Option.bind_some _ _).symm.trans H; with_reducible exact H2_) | with_reducible exact H | (rw [hy107]; exact H) | exact H
    have Ny107 := Aside0.mk hy107
    clear hy107
    have H' := Aside0.mk H
    clear H
    go_enter Tryd.func5, Tryd.ntmps5
    go_wp2_with (first | ((with_reducible refine gate_dst (N := 2) rfl ?_); refine boxE_ (cs := #[.int .u64 0, .int .u64 0, .int .u64 0, .int .u64 0]) (t := 24) ?_; intro gb106 hg w3 hbox hb; have BK106 := Aside0.mk (hbox); have GW106 := sizeB_ hg; have GE106 := sizeB_ hg; replace HB := stepB_ hb; clear hb hbox hg) | ((with_reducible refine gate_dst (N := 12) rfl ?_); refine Kd.R_lit (Kd.int .u8) _ 5 ?hg (N := 12) ?hd (xs := ([] : List Int)) (inner := []) (ok := fun _ => True) (okp := fun _ => True) ?hr ?hp (fun _ hk => hk) trivial (Below.refl _ _) (Nat.le_refl _) (by simp) ?_; (case hd => rfl); (case hg => rfl); (case hr => first | (go_simp; done) | (go_simp; rfl)); (case hp => exact (Reps.none _ _)); intro v108 w4 ho5 hb hg_ hnew_; clear hg_ hnew_; (first | rw [← Ny107.out] at ho5 | (simp only [Int.reduceToNat] at ho5; rw [← Ny107.out] at ho5)); have HO109 := Aside0.mk (Kd.R_lower ho5 (below_size bel_)); replace BK106 := blkBel_ BK106.out hb; replace HB := stepB_ hb; clear hb ho5))
    go_loopg [4, 5] k (fun kq v4 v5 w' => ∃ (x4_1 : List Int) (x5_1 : Int) (x107000_1 : Int) (x107001_1 : Int) (x107002_1 : Int) (x107003_1 : Int), v5 = .int .i64 x5_1 ∧ Aside0 (spec_HashRead.l0 kq a0 x4_1 x5_1 = some (r1, r2, r3, r4, r5)) ∧ Aside0 (kq ≤ k) ∧ Aside0 (Kd.R (Kd.int .u8) 5 w' w.heap.size (fun _ => True) v4 x4_1) ∧ Aside0 (w'.heap[gb106]? = some (.cells #[.int .u64 x107000_1, .int .u64 x107001_1, .int .u64 x107002_1, .int .u64 x107003_1] 24 (0, 0))) ∧ Aside0 (Below w.heap.size w w'))
    case atStart => exact ⟨(y107), (0), (0), (0), (0), (0), (by first | rfl | (simp; done) | (simp [*]; done)), H', ⟨Nat.le_refl _⟩, ⟨kdU_ HO109.out⟩, ⟨blkU_ BK106.out⟩, ⟨bel_⟩⟩
    case round =>
      clear H'
      (try clear c2); (try clear c2b0); (try clear c2b1)
      obtain ⟨x4_1, x5_1, x107000_1, x107001_1, x107002_1, x107003_1, rfl, HA, HK1, HO_4, BK106, HB⟩ := hrel
      cases gk with
      | zero => exact absurd HA.out (by simp [spec_HashRead.l0])
      | succ k1 =>
        have H := HA.out
        clear HA
        simp only [spec_HashRead.l0] at H
        by_cases c6 : x5_1 < 64
        · rw [if_pos c6] at H
          have c6b0 : decide (x5_1 < 64) = true := decide_eq_true c6
          clear c6
          by_cases c7 : 0 ≤ x5_1
          · rw [if_pos c7] at H
            have c7b0 : decide (0 ≤ x5_1) = true := decide_eq_true c7
            clear c7
            by_cases c8 : x5_1 < (a0.size : Int)
            · rw [if_pos c8] at H
              have c8b0 : decide (x5_1 < (a0.size : Int)) = true := decide_eq_true c8
              clear c8
              obtain ⟨t115, A10, H⟩ := bnd_ H
              obtain ⟨ji11, hji11⟩ : ∃ j_ : Int, (wrap64 (x5_1 + 1)) = j_ := ⟨_, rfl⟩
              replace H : (if 0 ≤ (ji11) then (if (ji11) < (a0.size : Int) then ((spec_l1Unhex.f k1 (bt a0 (ji11))).bind fun t116 => (if t115 < 0 then (some (0, 0, 0, 0, false)) else (if t116 < 0 then (some (0, 0, 0, 0, false)) else (if x4_1.length < 140737488355328 then (spec_HashRead.l0 k1 a0 (x4_1 ++ [(wrap64 ((wrap64 (16 * t115)) + t116)) % 256]) (wrap64 (x5_1 + 2))) else (none))))) else (none)) else (none)) = some (r1, r2, r3, r4, r5) := by first | (rw [hji11] at H; exact H) | (simp only [hji11] at H ⊢; exact H)
              (try rw [hji11] at A10)
              have hji11w : (IntKind.i64.wrap (x5_1 + 1)) = ji11 := (i64_w _).trans hji11
              by_cases c12 : 0 ≤ (ji11)
              · rw [if_pos c12] at H
                have c12b0 : decide (0 ≤ (ji11)) = true := decide_eq_true c12
                clear c12
                by_cases c13 : (ji11) < (a0.size : Int)
                · rw [if_pos c13] at H
                  have c13b0 : decide ((ji11) < (a0.size : Int)) = true := decide_eq_true c13
                  clear c13
                  obtain ⟨t116, A15, H⟩ := bnd_ H
                  by_cases c16 : t115 < 0
                  · rw [if_pos c16] at H
                    have c16b0 : decide (t115 < 0) = true := decide_eq_true c16
                    clear c16
                    simp only [Option.some.injEq, Prod.mk.injEq] at H
                    obtain ⟨rfl, rfl, rfl, rfl, rfl⟩ := H
                    have p9 : 0 ≤ (x5_1 : Int) := ofd_
                    have q9 : x5_1 < (a0.size : Int) := ofd_
                    have hx9 := bt_at a0 x5_1
                    replace p9 := eq_true p9
                    replace q9 := eq_true q9
                    go_wp2_with (first | ((with_reducible refine gate_callee (f := 14) rfl ?_); refine goL_ (some 20) Tryd.func14 #[.int .u8 (bt a0 x5_1)] ?_; (with_reducible refine (spec_l1Unhex.calls k1 (bt a0 x5_1) t115 _ A10.out).mono ?_); rintro e w' ⟨rfl, ⟨nd, rfl⟩⟩; refine ⟨_, rfl, ?_⟩; (try (rw [drewN_self wr]; generalize hq_ : World.drewN wr _ = wr; have n0_ : Aside0 (Kd.R (Kd.int .u8) 5 wr w.heap.size (fun _ => True) u4 x4_1) := ⟨by rw [← hq_]; exact (kdU_ HO_4.out)⟩; have n1_ : Aside0 (wr.heap[gb106]? = some (.cells #[.int .u64 x107000_1, .int .u64 x107001_1, .int .u64 x107002_1, .int .u64 x107003_1] 24 (0, 0))) := ⟨by rw [← hq_]; exact (blkU_ BK106.out)⟩; have n2_ : Aside0 (Below w.heap.size w wr) := ⟨by rw [← hq_]; exact bel_⟩; clear HO_4 BK106 HB hq_; have HO_4 := n0_; have BK106 := n1_; have HB := n2_; clear n0_ n1_ n2_)); have p14 : 0 ≤ ((ji11) : Int) := ofd_; have q14 : (ji11) < (a0.size : Int) := ofd_; have hx14 := bt_at a0 (ji11); replace p14 := eq_true p14; replace q14 := eq_true q14) | ((with_reducible refine gate_callee (f := 14) rfl ?_); refine goesL_ (some 25) rfl rfl Tryd.func14 (by kernel_rfl) rfl #[.int .u8 (bt a0 (ji11))] rfl (by (try simp only [List.map_toArray, List.map_cons, List.map_nil]); first | done | (simp only [hji11]; rfl) | rfl | (simp only [List.length_drop, List.length_take]; rfl)) ?_; (with_reducible refine (spec_l1Unhex.calls k1 (bt a0 (ji11)) t116 _ A15.out).mono ?_); rintro e w' ⟨rfl, ⟨nd, rfl⟩⟩; refine ⟨_, rfl, ?_⟩; (try (rw [drewN_self wr]; generalize hq_ : World.drewN wr _ = wr; have n0_ : Aside0 (Kd.R (Kd.int .u8) 5 wr w.heap.size (fun _ => True) u4 x4_1) := ⟨by rw [← hq_]; exact (kdU_ HO_4.out)⟩; have n1_ : Aside0 (wr.heap[gb106]? = some (.cells #[.int .u64 x107000_1, .int .u64 x107001_1, .int .u64 x107002_1, .int .u64 x107003_1] 24 (0, 0))) := ⟨by rw [← hq_]; exact (blkU_ BK106.out)⟩; have n2_ : Aside0 (Below w.heap.size w wr) := ⟨by rw [← hq_]; exact bel_⟩; clear HO_4 BK106 HB hq_; have HO_4 := n0_; have BK106 := n1_; have HB := n2_; clear n0_ n1_ n2_)); obtain ⟨hcz17_0, hcz17_1, hcz17_2, hcz17_3, hfz17_0, hfz17_1, hfz17_2, hfz17_3⟩ := cz4_ BK106.out))
                    refine bodyPost_ret (results_ct rfl _ _ gb106 24 #[.int .u64 0, .int .u64 0, .int .u64 0, .int .u64 0] (0, 0) _ rfl (blkF_ BK106.out) Tryd.underlying24 rfl (by kernel_rfl)) rfl ?_
                    exact ⟨by first | rfl | (simp [errW_none, errW_some] <;> rfl) | (simp only [← hji11]; first | rfl | (simp [errW_none, errW_some] <;> rfl)) | (simp [*, errW_none, errW_some] <;> rfl), bel_⟩
                  · rw [if_neg c16] at H
                    have c16b0 : decide (t115 < 0) = false := decide_eq_false c16
                    clear c16
                    by_cases c18 : t116 < 0
                    · rw [if_pos c18] at H
                      have c18b0 : decide (t116 < 0) = true := decide_eq_true c18
                      clear c18
                      simp only [Option.some.injEq, Prod.mk.injEq] at H
                      obtain ⟨rfl, rfl, rfl, rfl, rfl⟩ := H
                      have p9 : 0 ≤ (x5_1 : Int) := ofd_
                      have q9 : x5_1 < (a0.size : Int) := ofd_
                      have hx9 := bt_at a0 x5_1
                      replace p9 := eq_true p9
                      replace q9 := eq_true q9
                      go_wp2_with (first | ((with_reducible refine gate_callee (f := 14) rfl ?_); refine goL_ (some 20) Tryd.func14 #[.int .u8 (bt a0 x5_1)] ?_; (with_reducible refine (spec_l1Unhex.calls k1 (bt a0 x5_1) t115 _ A10.out).mono ?_); rintro e w' ⟨rfl, ⟨nd, rfl⟩⟩; refine ⟨_, rfl, ?_⟩; (try (rw [drewN_self wr]; generalize hq_ : World.drewN wr _ = wr; have n0_ : Aside0 (Kd.R (Kd.int .u8) 5 wr w.heap.size (fun _ => True) u4 x4_1) := ⟨by rw [← hq_]; exact (kdU_ HO_4.out)⟩; have n1_ : Aside0 (wr.heap[gb106]? = some (.cells #[.int .u64 x107000_1, .int .u64 x107001_1, .int .u64 x107002_1, .int .u64 x107003_1] 24 (0, 0))) := ⟨by rw [← hq_]; exact (blkU_ BK106.out)⟩; have n2_ : Aside0 (Below w.heap.size w wr) := ⟨by rw [← hq_]; exact bel_⟩; clear HO_4 BK106 HB hq_; have HO_4 := n0_; have BK106 := n1_; have HB := n2_; clear n0_ n1_ n2_)); have p14 : 0 ≤ ((ji11) : Int) := ofd_; have q14 : (ji11) < (a0.size : Int) := ofd_; have hx14 := bt_at a0 (ji11); replace p14 := eq_true p14; replace q14 := eq_true q14) | ((with_reducible refine gate_callee (f := 14) rfl ?_); refine goesL_ (some 25) rfl rfl Tryd.func14 (by kernel_rfl) rfl #[.int .u8 (bt a0 (ji11))] rfl (by (try simp only [List.map_toArray, List.map_cons, List.map_nil]); first | done | (simp only [hji11]; rfl) | rfl | (simp only [List.length_drop, List.length_take]; rfl)) ?_; (with_reducible refine (spec_l1Unhex.calls k1 (bt a0 (ji11)) t116 _ A15.out).mono ?_); rintro e w' ⟨rfl, ⟨nd, rfl⟩⟩; refine ⟨_, rfl, ?_⟩; (try (rw [drewN_self wr]; generalize hq_ : World.drewN wr _ = wr; have n0_ : Aside0 (Kd.R (Kd.int .u8) 5 wr w.heap.size (fun _ => True) u4 x4_1) := ⟨by rw [← hq_]; exact (kdU_ HO_4.out)⟩; have n1_ : Aside0 (wr.heap[gb106]? = some (.cells #[.int .u64 x107000_1, .int .u64 x107001_1, .int .u64 x107002_1, .int .u64 x107003_1] 24 (0, 0))) := ⟨by rw [← hq_]; exact (blkU_ BK106.out)⟩; have n2_ : Aside0 (Below w.heap.size w wr) := ⟨by rw [← hq_]; exact bel_⟩; clear HO_4 BK106 HB hq_; have HO_4 := n0_; have BK106 := n1_; have HB := n2_; clear n0_ n1_ n2_)); obtain ⟨hcz19_0, hcz19_1, hcz19_2, hcz19_3, hfz19_0, hfz19_1, hfz19_2, hfz19_3⟩ := cz4_ BK106.out))
                      refine bodyPost_ret (results_ct rfl _ _ gb106 24 #[.int .u64 0, .int .u64 0, .int .u64 0, .int .u64 0] (0, 0) _ rfl (blkF_ BK106.out) Tryd.underlying24 rfl (by kernel_rfl)) rfl ?_
                      exact ⟨by first | rfl | (simp [errW_none, errW_some] <;> rfl) | (simp only [← hji11]; first | rfl | (simp [errW_none, errW_some] <;> rfl)) | (simp [*, errW_none, errW_some] <;> rfl), bel_⟩
                    · rw [if_neg c18] at H
                      have c18b0 : decide (t116 < 0) = false := decide_eq_false c18
                      clear c18
                      by_cases c20 : x4_1.length < 140737488355328
                      · rw [if_pos c20] at H
                        have LMc20 := Aside0.mk c20
                        clear c20
                        obtain ⟨y117, hy117⟩ : ∃ y_ : List Int, y_ = (x4_1 ++ [(wrap64 ((wrap64 (16 * t115)) + t116)) % 256]) := ⟨_, rfl⟩
                        replace H : (spec_HashRead.l0 k1 a0 y117 (wrap64 (x5_1 + 2))) = some (r1, r2, r3, r4, r5) := by first | (rw [hy117]; with_reducible exact H) | (have H2_ := (Option.bind_some _ _).symm.trans H; rw [hy117]; with_reducible exact H2_) | (have H2_ := (Option.bind_some _ _).symm.trans H; with_reducible exact H2_) | with_reducible exact H | (rw [hy117]; exact H) | exact H
                        have Ny117 := Aside0.mk hy117
                        clear hy117
                        have H' := Aside0.mk H
                        clear H
                        have p9 : 0 ≤ (x5_1 : Int) := ofd_
                        have q9 : x5_1 < (a0.size : Int) := ofd_
                        have hx9 := bt_at a0 x5_1
                        replace p9 := eq_true p9
                        replace q9 := eq_true q9
                        go_wp2_with (first | ((with_reducible refine gate_callee (f := 14) rfl ?_); refine goL_ (some 20) Tryd.func14 #[.int .u8 (bt a0 x5_1)] ?_; (with_reducible refine (spec_l1Unhex.calls k1 (bt a0 x5_1) t115 _ A10.out).mono ?_); rintro e w' ⟨rfl, ⟨nd, rfl⟩⟩; refine ⟨_, rfl, ?_⟩; have p14 : 0 ≤ ((ji11) : Int) := ofd_; have q14 : (ji11) < (a0.size : Int) := ofd_; have hx14 := bt_at a0 (ji11); replace p14 := eq_true p14; replace q14 := eq_true q14) | ((with_reducible refine gate_callee (f := 14) rfl ?_); refine goesL_ (some 25) rfl rfl Tryd.func14 (by kernel_rfl) rfl #[.int .u8 (bt a0 (ji11))] rfl (by (try simp only [List.map_toArray, List.map_cons, List.map_nil]); first | done | (simp only [hji11]; rfl) | rfl | (simp only [List.length_drop, List.length_take]; rfl)) ?_; (with_reducible refine (spec_l1Unhex.calls k1 (bt a0 (ji11)) t116 _ A15.out).mono ?_); rintro e w' ⟨rfl, ⟨nd, rfl⟩⟩; refine ⟨_, rfl, ?_⟩) | ((with_reducible refine gate_builtin (b := .append) (xs := #[.tmp 33, .tmp 39]) rfl ?_); at_builtin; refine Kd.R_append (Kd.int .u8) (w0 := w) w.heap.size rfl (.tmp 33) (.tmp 39) 29 5 (.int .u8 0) 1 rfl Tryd.underlying29 info5 rfl (by decide) (by omega) u4 x4_1 ((wrap64 ((wrap64 (16 * t115)) + t116)) % 256) [.int .u8 ((wrap64 ((wrap64 (16 * t115)) + t116)) % 256)] (fun _ => True) (fun _ => False) rfl rfl ?aP (fun _ hk => hk.elim) ?aF ?aO ?aB ?aS ?aL ?_; (case aP => exact rfl); (case aB => exact bel_); (case aF => exact (fun _ _ => trivial)); (case aO => exact (kdU_ HO_4.out)); (case aS => exact (below_size bel_)); (case aL => have := LMc20.out; omega); intro v118 w21 ho hb hg hat; rw [← Ny117.out] at ho; replace BK106 := Aside0.mk (blk_grown (g := gb106) (o := .cells #[.int .u64 x107000_1, .int .u64 x107001_1, .int .u64 x107002_1, .int .u64 x107003_1] 24 (0, 0)) (blkU_ BK106.out) hg (Kd.R_ne HO_4.out BK106.out (by decide))); replace HB := Aside0.mk (hb); have HO119 := Aside0.mk (ho); clear HO_4; clear ho hb hg hat))
                        go_roundg k1
                        case measure => have := HK1.out; omega
                        case rel => exact ⟨(y117), (wrap64 (x5_1 + 2)), (x107000_1), (x107001_1), (x107002_1), (x107003_1), (by first | rfl | (simp; done) | (simp [*]; done)), H', ⟨by have := HK1.out; omega⟩, ⟨kdU_ HO119.out⟩, ⟨blkU_ BK106.out⟩, ⟨bel_⟩⟩
                      · rw [if_neg c20] at H
                        exact absurd H (by simp)
                · rw [if_neg c13] at H
                  exact absurd H (by simp)
              · rw [if_neg c12] at H
                exact absurd H (by simp)
            · rw [if_neg c8] at H
              exact absurd H (by simp)
          · rw [if_neg c7] at H
            exact absurd H (by simp)
        · rw [if_neg c6] at H
          have c6b0 : decide (x5_1 < 64) = false := decide_eq_false c6
          clear c6
          obtain ⟨⟨t110, t111, t112, t113, t114⟩, A22, H⟩ := bnd_ H
          dsimp only at H
          simp only [Option.some.injEq, Prod.mk.injEq] at H
          obtain ⟨rfl, rfl, rfl, rfl, rfl⟩ := H
          have hcv23 := own_string (P := Tryd.prog) Tryd.underlying29 Tryd.underlying5 Tryd.underlying9 (Kd.own_of_R HO_4.out)
          go_wp2_with (first | ((with_reducible refine gate_callee (f := 15) rfl ?_); refine goL_ (some 43) Tryd.func15 #[.string (strOfNums x4_1)] ?_; (with_reducible refine (spec_HashBack.calls k1 (strOfNums x4_1) t110 t111 t112 t113 t114 _ A22.out).mono ?_); rintro e w24 ⟨rfl, hb⟩; refine ⟨_, rfl, ?_⟩; replace HO_4 := Aside0.mk (Kd.R_below (kdU_ HO_4.out) hb); replace BK106 := blkBel_ BK106.out hb; replace HB := stepB_ hb; (try clear hb); (try clear hk); obtain ⟨hcz25_0, hcz25_1, hcz25_2, hcz25_3, hfz25_0, hfz25_1, hfz25_2, hfz25_3⟩ := cz4_ BK106.out))
          refine bodyPost_ret (results_ct rfl _ _ gb106 24 #[.int .u64 t110, .int .u64 t111, .int .u64 t112, .int .u64 t113] (0, 0) _ rfl (blkF_ BK106.out) Tryd.underlying24 rfl (by kernel_rfl)) rfl ?_
          exact ⟨rfl_, bel_⟩
  · rw [if_neg c2] at H
    have c2b0 : ((a0.size : Int) == 64) = false := beq_eq_false_iff_ne.mpr c2
    have c2b1 : ((a0.size : Int) != 64) = true := bne_iff_ne.mpr c2
    simp only [Option.some.injEq, Prod.mk.injEq] at H
    obtain ⟨rfl, rfl, rfl, rfl, rfl⟩ := H
    go_enter Tryd.func5, Tryd.ntmps5
    go_wp2_with (first | ((with_reducible refine gate_dst (N := 2) rfl ?_); refine boxE_ (cs := #[.int .u64 0, .int .u64 0, .int .u64 0, .int .u64 0]) (t := 24) ?_; intro gb106 hg w26 hbox hb; have BK106 := Aside0.mk (hbox); have GW106 := sizeB_ hg; have GE106 := sizeB_ hg; replace HB := stepB_ hb; clear hb hbox hg; obtain ⟨hcz27_0, hcz27_1, hcz27_2, hcz27_3, hfz27_0, hfz27_1, hfz27_2, hfz27_3⟩ := cz4_ BK106.out))
    refine bodyPost_ret (results_ct rfl _ _ gb106 24 #[.int .u64 0, .int .u64 0, .int .u64 0, .int .u64 0] (0, 0) _ rfl (blkF_ BK106.out) Tryd.underlying24 rfl (by kernel_rfl)) rfl ?_
    exact ⟨rfl_, bel_⟩
end
end Go.Proofs.YtflcbanemolkfaaDoor.B
