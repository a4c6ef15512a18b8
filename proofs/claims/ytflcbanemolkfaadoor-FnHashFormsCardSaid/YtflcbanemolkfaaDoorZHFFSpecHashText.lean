/- What the Go functions loop.example/belfry/spec.HashText do is what the Lean functions .f of their names here say; condition: .f gives an answer. (Written by the session's program pp.py over the kit's print; Lean checks it.) -/
import Derived.Test.YtflcbanemolkfaaDoorZHFK
import Derived.Test.YtflcbanemolkfaaDoorZHFM
import Derived.Test.YtflcbanemolkfaaDoorZHFFSpecL1Hex
import Derived.Test.YtflcbanemolkfaaDoorZHFGSpecPair1
namespace Go.Proofs.YtflcbanemolkfaaDoor.B
open Go.RowKit Go.Proofs.YtflcbanemolkfaaDoorW.PrintWords Go.Proofs.YtflcbanemolkfaaDoorW.PrintLast Go.Proofs.YtflcbanemolkfaaDoorW.PrintMore
attribute [local go_sem] max2_int min2_int max_two min_two max_three min_three max_four min_four
set_option linter.unusedVariables false
set_option linter.unusedSimpArgs false
section
def spec_HashText.l0 : Nat → ByteArray → List Int → Int → Option (ByteArray)
  | 0, _, _, _ => none
  | k + 1, x3, x4, x5 => if x5 < (x3.size : Int) then (if 0 ≤ x5 then ((spec_l1Hex.f (wrap64 (Int.tdiv (wrap64 (bt x3 x5)) 16))).bind fun t257 => ((spec_l1Hex.f (Int.tmod (wrap64 (bt x3 x5)) 16)).bind fun t258 => ((some (([t257, t258] : List Int) : List Int)).bind fun y259 => (if x4.length + y259.length < 140737488355328 then (spec_HashText.l0 k x3 (x4 ++ y259) (wrap64 (x5 + 1))) else (none))))) else (none)) else (some (strOfNums x4))
def spec_HashText.f (k : Nat) (a0_0 : Int) (a0_1 : Int) (a0_2 : Int) (a0_3 : Int) : Option (ByteArray) := (spec_HashBytes.f k a0_0 a0_1 a0_2 a0_3).bind fun t253 => (spec_HashText.l0 k t253 (([] : List Int)) 0)
def spec_HashText.T6 : Bool × List (List Nat × List Nat) := (true, [([], []), ([], []), ([], []), ([1, 2], [1, 2]), ([3], [3]), ([4], [4]), ([5], [5]), ([], []), ([], []), ([7, 8], [7, 8]), ([9], [9]), ([10], [10]), ([11, 6], [11]), ([6, 12], [6, 12]), ([0, 13, 12], [0, 13]), ([14, 14, 0, 1, 2, 3, 4, 5, 6, 7, 8, 9, 10, 11, 12, 13, 14], [0, 14])])
def spec_HashText.B6 : List Nat := [0, 0, 0, 6, 14, 30, 62, 0, 0, 384, 896, 1920, 4094, 8190, 16383, 32767]
theorem spec_HashText.tab6 : rtab .any (opsOf Tryd.f22 6) = spec_HashText.T6 := by kernel_rfl
theorem spec_HashText.bits6 : waitsOk spec_HashText.T6.2 spec_HashText.B6 = true := by kernel_rfl
set_option maxHeartbeats 8000000 in
set_option maxRecDepth 100000 in
theorem spec_HashText.calls (k : Nat) (a0_0 : Int) (a0_1 : Int) (a0_2 : Int) (a0_3 : Int) (r : ByteArray) (w : World) (h : spec_HashText.f k a0_0 a0_1 a0_2 a0_3 = some r) :
    Calls Tryd.prog 22 #[.agg #[.int .u64 a0_0, .int .u64 a0_1, .int .u64 a0_2, .int .u64 a0_3]] w fun e w' => e = .returned (.string r) ∧ Below w.heap.size w w' := by
  have hu24 := Tryd.underlying24
  have HB := Aside0.mk (Below.refl w.heap.size w)
  have H : ((spec_HashBytes.f k a0_0 a0_1 a0_2 a0_3).bind fun t253 => (spec_HashText.l0 k t253 (([] : List Int)) 0)) = some r := h
  clear h
  obtain ⟨t253, A2, H⟩ := bnd_ H
  obtain ⟨y254, hy254⟩ : ∃ y_ : List Int, y_ = (([] : List Int)) := ⟨_, rfl⟩
  replace H : (spec_HashText.l0 k t253 y254 0) = some r := by first | (rw [hy254]; with_reducible exact H) | (have H2_ := (Option.bind_some _ _).symm.trans H; rw [hy254]; with_reducible exact H2_) | (have H2_ := (Option.bind_some _ _).symm.trans H; with_reducible exact H2_) | with_reducible exact H | (rw [hy254]; exact H) | exact H
  have Ny254 := Aside0.mk hy254
  clear hy254
  have H' := Aside0.mk H
  clear H
  go_enter Tryd.func22, Tryd.ntmps22
  go_wp2_with (first | ((with_reducible refine gate_dst (N := 1) rfl ?_); refine boxE_ (cs := #[.int .u64 a0_0, .int .u64 a0_1, .int .u64 a0_2, .int .u64 a0_3]) (t := 24) ?_; intro gb252 hg w3 hbox hb; have BK252 := Aside0.mk (hbox); have GW252 := sizeB_ hg; have GE252 := sizeB_ hg; replace HB := stepB_ hb; clear hb hbox hg; obtain ⟨hcz4_0, hcz4_1, hcz4_2, hcz4_3, hfz4_0, hfz4_1, hfz4_2, hfz4_3⟩ := cz4_ BK252.out) | ((with_reducible refine gate_callee (f := 25) rfl ?_); refine goL_ (some 7) Tryd.func25 #[.agg #[.int .u64 a0_0, .int .u64 a0_1, .int .u64 a0_2, .int .u64 a0_3]] ?_; (with_reducible refine (spec_HashBytes.calls k a0_0 a0_1 a0_2 a0_3 t253 _ A2.out).mono ?_); rintro e w5 ⟨rfl, hb⟩; refine ⟨_, rfl, ?_⟩; replace BK252 := blkBel_ BK252.out hb; replace HB := stepB_ hb; (try clear hb); (try clear hk)) | ((with_reducible refine gate_dst (N := 8) rfl ?_); refine Kd.R_lit (Kd.int .u8) _ 5 ?hg (N := 8) ?hd (xs := ([] : List Int)) (inner := []) (ok := fun _ => True) (okp := fun _ => True) ?hr ?hp (fun _ hk => hk) trivial (Below.refl _ _) (Nat.le_refl _) (by simp) ?_; (case hd => rfl); (case hg => rfl); (case hr => first | (go_simp; done) | (go_simp; rfl)); (case hp => exact (Reps.none _ _)); intro v255 w6 ho7 hb hg_ hnew_; clear hg_ hnew_; (first | rw [← Ny254.out] at ho7 | (simp only [Int.reduceToNat] at ho7; rw [← Ny254.out] at ho7)); have HO256 := Aside0.mk (Kd.R_lower ho7 (below_size bel_)); replace BK252 := blkBel_ BK252.out hb; replace HB := stepB_ hb; clear hb ho7))
  go_loopg [4, 5] k (fun kq v4 v5 w' => ∃ (x4_1 : List Int) (x5_1 : Int), v5 = .int .i64 x5_1 ∧ Aside0 (spec_HashText.l0 kq t253 x4_1 x5_1 = some r) ∧ Aside0 (kq ≤ k) ∧ Aside0 (Kd.R (Kd.int .u8) 5 w' w.heap.size (fun _ => True) v4 x4_1) ∧ Aside0 (w'.heap[gb252]? = some (.cells #[.int .u64 a0_0, .int .u64 a0_1, .int .u64 a0_2, .int .u64 a0_3] 24 (0, 0))) ∧ Aside0 (Below w.heap.size w w'))
  case atStart => exact ⟨(y254), (0), (by first | rfl | (simp; done) | (simp [*]; done)), H', ⟨Nat.le_refl _⟩, ⟨kdU_ HO256.out⟩, ⟨blkU_ BK252.out⟩, ⟨bel_⟩⟩
  case round =>
    clear H'
    (try clear hcz4_0); (try clear hcz4_1); (try clear hcz4_2); (try clear hcz4_3); (try clear hfz4_0); (try clear hfz4_1); (try clear hfz4_2); (try clear hfz4_3)
    obtain ⟨x4_1, x5_1, rfl, HA, HK1, HO_4, BK252, HB⟩ := hrel
    cases gk with
    | zero => exact absurd HA.out (by simp [spec_HashText.l0])
    | succ k1 =>
      have H := HA.out
      clear HA
      simp only [spec_HashText.l0] at H
      by_cases c8 : x5_1 < (t253.size : Int)
      · rw [if_pos c8] at H
        have c8b0 : decide (x5_1 < (t253.size : Int)) = true := decide_eq_true c8
        clear c8
        by_cases c9 : 0 ≤ x5_1
        · rw [if_pos c9] at H
          have c9b0 : decide (0 ≤ x5_1) = true := decide_eq_true c9
          clear c9
          obtain ⟨t257, A11, H⟩ := bnd_ H
          obtain ⟨t258, A13, H⟩ := bnd_ H
          obtain ⟨y259, hy259⟩ : ∃ y_ : List Int, y_ = (([t257, t258] : List Int)) := ⟨_, rfl⟩
          replace H : (if x4_1.length + y259.length < 140737488355328 then (spec_HashText.l0 k1 t253 (x4_1 ++ y259) (wrap64 (x5_1 + 1))) else (none)) = some r := by first | (rw [hy259]; with_reducible exact H) | (have H2_ := (Option.bind_some _ _).symm.trans H; rw [hy259]; with_reducible exact H2_) | (have H2_ := (Option.bind_some _ _).symm.trans H; with_reducible exact H2_) | with_reducible exact H | (rw [hy259]; exact H) | exact H
          have Ny259 := Aside0.mk hy259
          clear hy259
          by_cases c14 : x4_1.length + y259.length < 140737488355328
          · rw [if_pos c14] at H
            have LMc14 := Aside0.mk c14
            clear c14
            obtain ⟨y262, hy262⟩ : ∃ y_ : List Int, y_ = (x4_1 ++ y259) := ⟨_, rfl⟩
            replace H : (spec_HashText.l0 k1 t253 y262 (wrap64 (x5_1 + 1))) = some r := by first | (rw [hy262]; with_reducible exact H) | (have H2_ := (Option.bind_some _ _).symm.trans H; rw [hy262]; with_reducible exact H2_) | (have H2_ := (Option.bind_some _ _).symm.trans H; with_reducible exact H2_) | with_reducible exact H | (rw [hy262]; exact H) | exact H
            have Ny262 := Aside0.mk hy262
            clear hy262
            have H' := Aside0.mk H
            clear H
            try go_wp2
            replace HO_4 := Aside0.mk (Kd.R_drew HO_4.out)
            replace BK252 := Aside0.mk (blk_drew BK252.out)
            replace HB := Aside0.mk (below_drew1 HB.out)
            have p10 : 0 ≤ (x5_1 : Int) := ofd_
            have q10 : x5_1 < (t253.size : Int) := ofd_
            have hx10 := bt_at t253 x5_1
            replace p10 := eq_true p10
            replace q10 := eq_true q10
            have p12 : 0 ≤ (x5_1 : Int) := ofd_
            have q12 : x5_1 < (t253.size : Int) := ofd_
            have hx12 := bt_at t253 x5_1
            replace p12 := eq_true p12
            replace q12 := eq_true q12
            refine start_ (n := 16) (S := fun w' => True) (ds := []) #[false, false, false, false, false, false, false, false, false, false, false, false, false, false, false, false] (by kernel_rfl) rfl rfl trivial (fun hHeld => ?_); refine with_tabW spec_HashText.tab6 spec_HashText.bits6 (fun HT_ HW_ => ?_)
            generalize wr.drew = w15 at HO_4 BK252 HB hHeld ⊢
            refine pureP_ 0 (some 15) #[true, false, false, false, false, false, false, false, false, false, false, false, false, false, false, false] HT_ ?_
            refine pureP_ 1 (some 16) #[true, true, false, false, false, false, false, false, false, false, false, false, false, false, false, false] HT_ ?_
            refine pureP_ 2 (some 17) #[true, true, true, false, false, false, false, false, false, false, false, false, false, false, false, false] HT_ ?_
            refine pureP_ 7 (some 22) #[true, true, true, false, false, false, false, true, false, false, false, false, false, false, false, false] HT_ ?_
            refine pureP_ 8 (some 23) #[true, true, true, false, false, false, false, true, true, false, false, false, false, false, false, false] HT_ ?_
            refine take_ (i := 3) (N := some 18) (v := ?_) (a' := ?_) #[true, true, true, true, false, false, false, true, true, false, false, false, false, false, false, false] rfl rfl (take_ofW HT_.out HW_.out (by kernel_rfl)) (fun _ _ _ h => h) (Or.inl ⟨by rfl, ?_⟩) hHeld ?_ ?_
            rotate_left
            · intro w' _
              go_simp
              with_reducible rfl
            rotate_left
            · simp only [Act.put, List.setIfInBounds_toArray, List.set_cons_zero, List.set_cons_succ, i64_w, i32_w]
              rfl
            refine pureP_ 4 (some 19) #[true, true, true, true, true, false, false, true, true, false, false, false, false, false, false, false] HT_ ?_
            refine pureP_ 5 (some 20) #[true, true, true, true, true, true, false, true, true, false, false, false, false, false, false, false] HT_ ?_
            refine take_ (i := 9) (N := some 24) (v := ?_) (a' := ?_) #[true, true, true, true, true, true, false, true, true, true, false, false, false, false, false, false] rfl rfl (take_ofW HT_.out HW_.out (by kernel_rfl)) (fun _ _ _ h => h) (Or.inl ⟨by rfl, ?_⟩) hHeld ?_ ?_
            rotate_left
            · intro w' _
              go_simp
              with_reducible rfl
            rotate_left
            · simp only [Act.put, List.setIfInBounds_toArray, List.set_cons_zero, List.set_cons_succ, i64_w, i32_w]
              rfl
            refine pureP_ 10 (some 25) #[true, true, true, true, true, true, false, true, true, true, true, false, false, false, false, false] HT_ ?_
            refine pureP_ 11 (some 26) #[true, true, true, true, true, true, false, true, true, true, true, true, false, false, false, false] HT_ ?_
            refine oneP_ 6 (some 21) #[true, true, true, true, true, true, true, true, true, true, true, true, false, false, false, false] HT_ (fun K hK => ?_)
            refine goN_ Tryd.func33 #[.int .i64 (wrap64 (Int.tdiv (wrap64 (bt t253 x5_1)) 16))] ?_
            with_reducible refine (spec_l1Hex.calls (wrap64 (Int.tdiv (wrap64 (bt t253 x5_1)) 16)) t257 _ A11.out).mono ?_
            rintro e w' ⟨rfl, ⟨nd, rfl⟩⟩
            refine ⟨_, rfl, ?_⟩
            refine hK.out _ _ trivial (fun hHeld => ?_)
            clear hK K
            refine norm_ (a' := ?_) ?_ ?_
            rotate_left
            · show Act.put _ (some 21) _ = _
              simp only [Act.put, List.setIfInBounds_toArray, List.set_cons_zero, List.set_cons_succ, i64_w, i32_w]
              rfl
            refine oneP_ 12 (some 27) #[true, true, true, true, true, true, true, true, true, true, true, true, true, false, false, false] HT_ (fun K hK => ?_)
            refine goN_ Tryd.func33 #[.int .i64 (Int.tmod (wrap64 (bt t253 x5_1)) 16)] ?_
            with_reducible refine (spec_l1Hex.calls (Int.tmod (wrap64 (bt t253 x5_1)) 16) t258 _ A13.out).mono ?_
            rintro e w' ⟨rfl, ⟨nd, rfl⟩⟩
            refine ⟨_, rfl, ?_⟩
            refine hK.out _ _ trivial (fun hHeld => ?_)
            clear hK K
            refine norm_ (a' := ?_) ?_ ?_
            rotate_left
            · show Act.put _ (some 27) _ = _
              simp only [Act.put, List.setIfInBounds_toArray, List.set_cons_zero, List.set_cons_succ, i64_w, i32_w]
              rfl
            refine oneP_ 13 (some 28) #[true, true, true, true, true, true, true, true, true, true, true, true, true, true, false, false] HT_ (fun K hK => ?_)
            refine Kd.R_lit_step (Kd.int .u8) _ 5 ?hg (N := 28) ?hd (xs := ([t257, t258] : List Int)) (inner := [.int .u8 t257, .int .u8 t258]) (ok := fun _ => True) (okp := fun _ => True) ?hr ?hp (fun _ hk => hk) trivial (Below.refl _ _) (Nat.le_refl _) (by simp) ?_; (case hd => rfl); (case hg => rfl); (case hr => first | (go_simp; done) | (go_simp; rfl)); (case hp => exact (Reps.one (show Kd.M (Kd.int .u8) _ _ _ t257 [.int .u8 t257] from rfl) (Reps.one (show Kd.M (Kd.int .u8) _ _ _ t258 [.int .u8 t258] from rfl) (Reps.none _ _))))
            intro v260 w16 ho17 hb hg_ hnew_
            clear hg_ hnew_
            (first | rw [← Ny259.out] at ho17 | (simp only [Int.reduceToNat] at ho17; rw [← Ny259.out] at ho17))
            have HO261 := Aside0.mk (Kd.R_lower (Kd.R_new' ho17 (Kd.R_lt (kdU_ HO_4.out))) (below_size bel_))
            replace HO_4 := Aside0.mk (Kd.R_elder' (kdU_ HO_4.out) (Kd.R_base ho17) hb)
            replace BK252 := blkBel_ BK252.out hb
            replace HB := stepB_ hb
            clear hb ho17
            obtain ⟨Ao19, co19, eo19⟩ := Kd.R_slice HO261.out
            (first | subst eo19 | (injection eo19 with f1_ f2_ f3_; have f4_ := f1_.symm; have f5_ := f3_.symm; clear f1_ f2_ f3_; subst f4_; subst f5_))
            refine hK.out _ _ trivial (fun hHeld => ?_)
            clear hK K
            refine norm_ (a' := ?_) ?_ ?_
            rotate_left
            · show Act.put _ (some 28) _ = _
              simp only [Act.put, List.setIfInBounds_toArray, List.set_cons_zero, List.set_cons_succ, i64_w, i32_w]
              rfl
            refine oneP_ 14 (some 29) #[true, true, true, true, true, true, true, true, true, true, true, true, true, true, true, false] HT_ (fun K hK => ?_)
            refine Kd.R_append_rows_step (Kd.int .u8) (w0 := w) w.heap.size (by rfl) (.tmp 15) (.tmp 28) 29 5 (.int .u8 0) 1 rfl Tryd.underlying29 info5 rfl (by decide) (by omega) u4 x4_1 y259 _ _ _ (fun k_ => some k_ ≠ (.slice Ao19 y259.length co19 : Value).ownBlock) (fun _ => False) rfl rfl ?aO ?aR (fun _ _ h => h) (fun _ h => h.elim) ?aF ?aB ?aS ?aL ?_
            (case aR => repeat (first | exact (Kd.R_reads' HO261.out).2.2 | (with_reducible refine Kd.C_alloc ?_ _) | (with_reducible refine Kd.C_drewN ?_ _) | (with_reducible refine Kd.C_drew ?_)))
            (case aB => exact bel_)
            (case aF => exact (fun k_ hk => Kd.fresh' (Kd.R_lt (kdU_ HO261.out)) k_ hk))
            (case aO => exact (by (with_reducible repeat (first | apply Kd.R_alloc | apply Kd.R_drewN | apply Kd.R_drew)); exact Kd.R_mono HO_4.out (fun _ hk => hk.2)))
            (case aS => exact (below_size bel_))
            (case aL => have := LMc14.out; omega)
            intro v263 w18 ho hb hg hat
            rw [← Ny262.out] at ho
            replace BK252 := Aside0.mk (blk_grown (g := gb252) (o := .cells #[.int .u64 a0_0, .int .u64 a0_1, .int .u64 a0_2, .int .u64 a0_3] 24 (0, 0)) (blkU_ BK252.out) hg (Kd.R_ne HO_4.out BK252.out (by decide)))
            replace HO261 := Aside0.mk (Kd.R_after (ok := (fun _ => True)) (kdU_ HO261.out) hg hat)
            replace HB := Aside0.mk (hb)
            have HO264 := Aside0.mk (ho)
            clear HO_4
            clear ho hb hg hat
            refine hK.out _ _ trivial (fun hHeld => ?_)
            clear hK K
            refine norm_ (a' := ?_) ?_ ?_
            rotate_left
            · show Act.put _ (some 29) _ = _
              simp only [Act.put, List.setIfInBounds_toArray, List.set_cons_zero, List.set_cons_succ, i64_w, i32_w]
              rfl
            refine pureP_ 15 (some 4) #[true, true, true, true, true, true, true, true, true, true, true, true, true, true, true, true] HT_ ?_
            refine done_ (done_of HT_.out (by kernel_rfl)) ?_
            try go_wp2
            go_roundg k1
            case measure => have := HK1.out; omega
            case rel => exact ⟨(y262), (wrap64 (x5_1 + 1)), (by first | rfl | (simp; done) | (simp [*]; done)), H', ⟨by have := HK1.out; omega⟩, ⟨by (with_reducible repeat (first | apply Kd.R_alloc | apply Kd.R_drewN | apply Kd.R_drew)); exact Kd.R_mono HO264.out (fun _ hk => trivial)⟩, ⟨blkU_ BK252.out⟩, ⟨bel_⟩⟩
          · rw [if_neg c14] at H
            exact absurd H (by simp)
        · rw [if_neg c9] at H
          exact absurd H (by simp)
      · rw [if_neg c8] at H
        have c8b0 : decide (x5_1 < (t253.size : Int)) = false := decide_eq_false c8
        clear c8
        obtain rfl := Option.some.inj H
        have hcv20 := own_string (P := Tryd.prog) Tryd.underlying29 Tryd.underlying5 Tryd.underlying9 (Kd.own_of_R HO_4.out)
        go_wp2
        go_ret
        exact ⟨rfl_, bel_⟩
end
end Go.Proofs.YtflcbanemolkfaaDoor.B
