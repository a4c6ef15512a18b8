/- What the Go functions loop.example/belfry/spec.l3Path do is what the Lean functions .f of their names here say; condition: .f gives an answer. (Written by the session's program pp.py over the kit's print; Lean checks it.) -/
import Derived.Test.YtflckegggopdnaaZLK
import Derived.Test.YtflckegggopdnaaZLM
import Derived.Test.YtflckegggopdnaaZLGSplit1
import Derived.Test.YtflckegggopdnaaZLGTree1
namespace Go.Proofs.Ytflckegggopdnaa.B
open Go.RowKit Go.Proofs.YtflckegggopdnaaW.PrintWords Go.Proofs.YtflckegggopdnaaW.PrintLast Go.Proofs.YtflckegggopdnaaW.PrintMore
attribute [local go_sem] max2_int min2_int max_two min_two max_three min_three max_four min_four
set_option linter.unusedVariables false
set_option linter.unusedSimpArgs false
section
def spec_l3Path.f : Nat → List ByteArray → Int → Option ((List (S29)))
  | 0, _, _ => none
  | k + 1, l0, a1 => if (l0.length : Int) < 2 then (some (([] : List (S29)))) else ((spec_TreeSplit.f k (l0.length : Int)).bind fun t1416 => (if a1 < t1416 then (if 0 ≤ t1416 then (if t1416 ≤ (l0.length : Int) then ((spec_l3Path.f k (l0.take (t1416 : Int).toNat) a1).bind fun t1418 => ((spec_l2Root.f k (l0.drop (t1416 : Int).toNat)).bind fun bt1422 => (if t1418.length < 4398046511104 then (some (t1418 ++ [(⟨bt1422.1, bt1422.2.1, bt1422.2.2.1, bt1422.2.2.2⟩ : S29)])) else (none)))) else (none)) else (none)) else (if 0 ≤ t1416 then (if t1416 ≤ (l0.length : Int) then ((spec_l3Path.f k (l0.drop (t1416 : Int).toNat) (wrap64 (a1 - t1416))).bind fun t1430 => ((spec_l2Root.f k (l0.take (t1416 : Int).toNat)).bind fun bt1434 => (if t1430.length < 4398046511104 then (some (t1430 ++ [(⟨bt1434.1, bt1434.2.1, bt1434.2.2.1, bt1434.2.2.2⟩ : S29)])) else (none)))) else (none)) else (none))))
def spec_l3Path.T5 : Bool × List (List Nat × List Nat) := (true, [([], []), ([], []), ([0, 1], [0, 1]), ([], []), ([2, 3], [2, 3]), ([], []), ([], []), ([5, 6], [5, 6]), ([7, 4], [7]), ([8], [8]), ([4, 9, 8], [4, 9]), ([10, 10, 0, 1, 2, 3, 4, 5, 6, 7, 8, 9, 10], [10])])
def spec_l3Path.B5 : List Nat := [0, 0, 3, 0, 15, 0, 0, 96, 255, 511, 1023, 2047]
theorem spec_l3Path.tab5 : rtab .any (opsOf Try.f80 5) = spec_l3Path.T5 := by kernel_rfl
theorem spec_l3Path.bits5 : waitsOk spec_l3Path.T5.2 spec_l3Path.B5 = true := by kernel_rfl
def spec_l3Path.T6 : Bool × List (List Nat × List Nat) := (true, [([], []), ([], []), ([0, 1], [0, 1]), ([], []), ([], []), ([3, 4], [3, 4]), ([2, 5], [2, 5]), ([], []), ([], []), ([7, 8], [7, 8]), ([9, 6], [9]), ([10], [10]), ([6, 11, 10], [6, 11]), ([12, 12, 0, 1, 2, 3, 4, 5, 6, 7, 8, 9, 10, 11, 12], [12])])
def spec_l3Path.B6 : List Nat := [0, 0, 3, 0, 0, 24, 63, 0, 0, 384, 1023, 2047, 4095, 8191]
theorem spec_l3Path.tab6 : rtab .any (opsOf Try.f80 6) = spec_l3Path.T6 := by kernel_rfl
theorem spec_l3Path.bits6 : waitsOk spec_l3Path.T6.2 spec_l3Path.B6 = true := by kernel_rfl
set_option maxHeartbeats 8000000 in
set_option maxRecDepth 100000 in
theorem spec_l3Path.calls (k : Nat) : ∀ (A0 : Option Addr) (c0 : Nat) (l0 : List ByteArray) (a1 : Int) (r : List (S29)) (w : World) (hr0 : Kd.C Kd.string w A0 l0.length l0) (hc0 : l0.length ≤ c0) (h : spec_l3Path.f k l0 a1 = some r),
    Calls Try.prog 80 #[.slice A0 l0.length c0, .int .i64 a1] w fun e w' => ∃ v0_ : Value, e = .returned (v0_) ∧ Kd.R k29 29 w' w.heap.size (fun _ => True) v0_ r ∧ Below w.heap.size w w' := by
  induction k using Nat.strongRecOn with
  | _ k ih =>
  intro A0 c0 l0 a1 r w hr0 hc0 h
  cases k with
  | zero => exact absurd h (by simp [spec_l3Path.f])
  | succ k =>
  simp only [spec_l3Path.f] at h
  have HR0 := Aside0.mk hr0
  have HC0 := Aside0.mk hc0
  clear hr0 hc0
  have HB := Aside0.mk (Below.refl w.heap.size w)
  have H : (if (l0.length : Int) < 2 then (some (([] : List (S29)))) else ((spec_TreeSplit.f k (l0.length : Int)).bind fun t1416 => (if a1 < t1416 then (if 0 ≤ t1416 then (if t1416 ≤ (l0.length : Int) then ((spec_l3Path.f k (l0.take (t1416 : Int).toNat) a1).bind fun t1418 => ((spec_l2Root.f k (l0.drop (t1416 : Int).toNat)).bind fun bt1422 => (if t1418.length < 4398046511104 then (some (t1418 ++ [(⟨bt1422.1, bt1422.2.1, bt1422.2.2.1, bt1422.2.2.2⟩ : S29)])) else (none)))) else (none)) else (none)) else (if 0 ≤ t1416 then (if t1416 ≤ (l0.length : Int) then ((spec_l3Path.f k (l0.drop (t1416 : Int).toNat) (wrap64 (a1 - t1416))).bind fun t1430 => ((spec_l2Root.f k (l0.take (t1416 : Int).toNat)).bind fun bt1434 => (if t1430.length < 4398046511104 then (some (t1430 ++ [(⟨bt1434.1, bt1434.2.1, bt1434.2.2.1, bt1434.2.2.2⟩ : S29)])) else (none)))) else (none)) else (none))))) = some r := h
  clear h
  by_cases c3 : (l0.length : Int) < 2
  · rw [if_pos c3] at H
    have c3b0 : decide ((l0.length : Int) < 2) = true := decide_eq_true c3
    have c3b1 : decide (l0.length < 2) = true := decide_eq_true (by omega)
    clear c3
    obtain ⟨y1413, hy1413⟩ : ∃ y_ : List (S29), y_ = (([] : List (S29))) := ⟨_, rfl⟩
    replace H : (some y1413) = some r := by first | (rw [hy1413]; with_reducible exact H) | (have H2_ := (Option.bind_some _ _).symm.trans H; rw [hy1413]; with_reducible exact H2_) | (have H2_ := (Option.bind_some _ _).symm.trans H; with_reducible exact H2_) | with_reducible exact H | (rw [hy1413]; exact H) | exact H
    have Ny1413 := Aside0.mk hy1413
    clear hy1413
    obtain rfl := Option.some.inj H
    go_enter Try.func80, Try.ntmps80
    go_wp2_with (first | ((with_reducible refine gate_dst (N := 9) rfl ?_); refine Kd.R_lit k29 _ 29 ?hg (N := 9) ?hd (xs := ([] : List (S29))) (inner := []) (ok := fun _ => True) (okp := fun _ => True) ?hr ?hp (fun _ hk => hk) trivial (Below.refl _ _) (Nat.le_refl _) (by simp) ?_; (case hd => rfl); (case hg => rfl); (case hr => first | (go_simp; done) | (go_simp; rfl)); (case hp => exact (Reps.none _ _)); intro v1414 w4 ho5 hb hg_ hnew_; clear hg_ hnew_; (first | rw [← Ny1413.out] at ho5 | (simp only [Int.reduceToNat] at ho5; rw [← Ny1413.out] at ho5)); have HO1415 := Aside0.mk (Kd.R_lower ho5 (below_size bel_)); replace HB := stepB_ hb; clear hb ho5))
    go_ret
    exact ⟨_, rfl_, by (with_reducible repeat (first | apply Kd.R_alloc | apply Kd.R_drewN | apply Kd.R_drew)); exact HO1415.out, bel_⟩
  · rw [if_neg c3] at H
    have c3b0 : decide ((l0.length : Int) < 2) = false := decide_eq_false c3
    have c3b1 : decide (l0.length < 2) = false := decide_eq_false (by omega)
    clear c3
    obtain ⟨t1416, A6, H⟩ := bnd_ H
    by_cases c7 : a1 < t1416
    · rw [if_pos c7] at H
      have c7b0 : decide (a1 < t1416) = true := decide_eq_true c7
      clear c7
      by_cases c8 : 0 ≤ t1416
      · rw [if_pos c8] at H
        have c8b0 := eq_true c8
        have c8b1 : decide (0 ≤ t1416) = true := decide_eq_true c8
        clear c8
        by_cases c9 : t1416 ≤ (l0.length : Int)
        · rw [if_pos c9] at H
          have c9b0 := eq_true c9
          have c9b1 : decide (t1416 ≤ (l0.length : Int)) = true := decide_eq_true c9
          clear c9
          obtain ⟨t1418, A10, H⟩ := bnd_ H
          have c11b0 := eq_true (ofd_ : 0 ≤ t1416)
          have c12b0 := eq_true (ofd_ : t1416 ≤ (l0.length : Int))
          obtain ⟨⟨t1422, t1423, t1424, t1425⟩, A13, H⟩ := bnd_ H
          dsimp only at H
          by_cases c14 : t1418.length < 4398046511104
          · rw [if_pos c14] at H
            have LMc14 := Aside0.mk c14
            clear c14
            obtain ⟨y1426, hy1426⟩ : ∃ y_ : List (S29), y_ = (t1418 ++ [(⟨t1422, t1423, t1424, t1425⟩ : S29)]) := ⟨_, rfl⟩
            replace H : (some y1426) = some r := by first | (rw [hy1426]; with_reducible exact H) | (have H2_ := (Option.bind_some _ _).symm.trans H; rw [hy1426]; with_reducible exact H2_) | (have H2_ := (Option.bind_some _ _).symm.trans H; with_reducible exact H2_) | with_reducible exact H | (rw [hy1426]; exact H) | exact H
            have Ny1426 := Aside0.mk hy1426
            clear hy1426
            obtain rfl := Option.some.inj H
            go_enter Try.func80, Try.ntmps80
            try go_wp2_with (first | ((with_reducible refine gate_callee (f := 88) rfl ?_); refine goL_ (some 12) Try.func88 #[.int .i64 (l0.length : Int)] ?_; (with_reducible refine (spec_TreeSplit.calls k (l0.length : Int) t1416 _ A6.out).mono ?_); rintro e wz_ ⟨rfl, hd_⟩; refine ⟨_, rfl, ?_⟩; replace HB := drawnB_ HB.out hd_; clear hd_))
            replace HB := Aside0.mk (below_drew1 HB.out)
            obtain ⟨i016, hi016, _, hsz16, _⟩ := info_parts info9
            obtain ⟨hcut16, hA16, hC16⟩ := print_take_of (P := Try.prog) Value.string (⟨#[]⟩ : ByteArray) 61 9 .i64 Try.underlying61 hi016 hsz16 A0 c0 l0 t1416 (ofd_) (ofd_) HC0.out
            have HR1417 := Aside0.mk (Kd.C_of_reads (h1 := fun _ => rfl) (hA16 _ (Kd.reads_of_C HR0.out)))
            have HC1417 := Aside0.mk hC16
            clear hA16 hC16 hi016 hsz16
            obtain ⟨i017, hi017, _, hsz17, _⟩ := info_parts info9
            obtain ⟨A17, hcut17, hA17, hC17⟩ := print_drop_of (P := Try.prog) Value.string (⟨#[]⟩ : ByteArray) 61 9 .i64 Try.underlying61 hi017 hsz17 A0 c0 l0 t1416 (ofd_) (ofd_) HC0.out
            have HR1421 := Aside0.mk (Kd.C_of_reads (h1 := fun _ => rfl) (hA17 _ (Kd.reads_of_C HR0.out)))
            have HC1421 := Aside0.mk hC17
            clear hA17 hC17 hi017 hsz17
            refine start_ (n := 12) (S := fun w' => True) (ds := []) #[false, false, false, false, false, false, false, false, false, false, false, false] (by kernel_rfl) rfl rfl trivial (fun hHeld => ?_); refine with_tabW spec_l3Path.tab5 spec_l3Path.bits5 (fun HT_ HW_ => ?_)
            generalize wz_.drew = w15 at HB HR1417 HR1421 hHeld ⊢
            refine pureP_ 0 (some 16) #[true, false, false, false, false, false, false, false, false, false, false, false] HT_ ?_
            refine pureP_ 1 (some 17) #[true, true, false, false, false, false, false, false, false, false, false, false] HT_ ?_
            refine pureP_ 2 (some 18) #[true, true, true, false, false, false, false, false, false, false, false, false] HT_ ?_
            refine pureP_ 3 (some 19) #[true, true, true, true, false, false, false, false, false, false, false, false] HT_ ?_
            refine pureP_ 5 (some 21) #[true, true, true, true, false, true, false, false, false, false, false, false] HT_ ?_
            refine pureP_ 6 (some 22) #[true, true, true, true, false, true, true, false, false, false, false, false] HT_ ?_
            refine pureP_ 7 (some 23) #[true, true, true, true, false, true, true, true, false, false, false, false] HT_ ?_
            refine oneP_ 4 (some 20) #[true, true, true, true, true, true, true, true, false, false, false, false] HT_ (fun K hK => ?_)
            refine goes_ Try.func80 (by kernel_rfl) rfl #[.slice A0 (l0.take (t1416 : Int).toNat).length c0, .int .i64 a1] (by rfl) rfl rfl (by (try simp only [List.map_toArray, List.map_cons, List.map_nil]); first | done | (rw [show (l0.take (t1416 : Int).toNat).length = t1416.toNat from (by rw [List.length_take]; have h_ : (t1416 : Int) ≤ (l0.length : Int) := ofd_; omega)] <;> rfl) | rfl | (simp only [List.length_drop, List.length_take]; rfl)) ?_
            with_reducible refine (ih k (by omega) _ _ (l0.take (t1416 : Int).toNat) a1 t1418 _ ?side1 ?side2 A10.out).mono ?_
            (case side1 => repeat (first | exact (Kd.C_below HR1417.out HB.out) | (with_reducible refine Kd.C_alloc ?_ _) | (with_reducible refine Kd.C_drewN ?_ _) | (with_reducible refine Kd.C_drew ?_)))
            (case side2 => exact HC1417.out)
            rintro e w18 ⟨v1419, rfl, ho0, hb⟩
            refine ⟨_, rfl, ?_⟩
            have HO1420 := Aside0.mk (Kd.R_lower ho0 (below_size bel_))
            replace HB := stepB_ hb
            (try clear hb); (try clear hk); (try clear ho0)
            refine hK.out _ _ trivial (fun hHeld => ?_)
            clear hK K
            refine norm_ (a' := ?_) ?_ ?_
            rotate_left
            · show Act.put _ (some 20) _ = _
              simp only [Act.put, List.setIfInBounds_toArray, List.set_cons_zero, List.set_cons_succ, i64_w, i32_w]
              rfl
            refine oneP_ 8 (some 24) #[true, true, true, true, true, true, true, true, true, false, false, false] HT_ (fun K hK => ?_)
            refine goes_ Try.func121 (by kernel_rfl) rfl #[.slice A17 (l0.drop (t1416 : Int).toNat).length (c0 - t1416.toNat)] (by rfl) rfl rfl (by (try simp only [List.map_toArray, List.map_cons, List.map_nil]); first | done | (rw [show (l0.drop (t1416 : Int).toNat).length = (l0.length - t1416.toNat) from List.length_drop] <;> rfl) | rfl | (simp only [List.length_drop, List.length_take]; rfl)) ?_
            with_reducible refine (spec_l2Root.calls k _ _ (l0.drop (t1416 : Int).toNat) t1422 t1423 t1424 t1425 _ ?side1 ?side2 A13.out).mono ?_
            (case side1 => repeat (first | exact (Kd.C_below HR1421.out HB.out) | (with_reducible refine Kd.C_alloc ?_ _) | (with_reducible refine Kd.C_drewN ?_ _) | (with_reducible refine Kd.C_drew ?_)))
            (case side2 => exact HC1421.out)
            rintro e w19 ⟨rfl, hb⟩
            refine ⟨_, rfl, ?_⟩
            replace HO1420 := Aside0.mk (Kd.R_below (kdU_ HO1420.out) hb)
            replace HB := stepB_ hb
            (try clear hb); (try clear hk)
            refine hK.out _ _ trivial (fun hHeld => ?_)
            clear hK K
            refine norm_ (a' := ?_) ?_ ?_
            rotate_left
            · show Act.put _ (some 24) _ = _
              simp only [Act.put, List.setIfInBounds_toArray, List.set_cons_zero, List.set_cons_succ, i64_w, i32_w]
              rfl
            refine oneP_ 9 (some 25) #[true, true, true, true, true, true, true, true, true, true, false, false] HT_ (fun K hK => ?_)
            refine value_ (w1 := ?_) (v := ?_) (by rfl) rfl ?_ ?_
            rotate_left 2
            · go_simp
              constructor
              · rfl
              · rfl
            refine hK.out _ _ trivial (fun hHeld => ?_)
            clear hK K
            refine norm_ (a' := ?_) ?_ ?_
            rotate_left
            · show Act.put _ (some 25) _ = _
              simp only [Act.put, List.setIfInBounds_toArray, List.set_cons_zero, List.set_cons_succ, i64_w, i32_w]
              rfl
            refine oneP_ 10 (some 26) #[true, true, true, true, true, true, true, true, true, true, true, false] HT_ (fun K hK => ?_)
            refine Kd.R_append_step k29 (w0 := w) w.heap.size (by rfl) (.tmp 20) (.tmp 25) 49 29 (.agg #[(.int .u64 0), (.int .u64 0), (.int .u64 0), (.int .u64 0)]) 32 rfl Try.underlying49 info29 rfl (by decide) (by omega) v1419 t1418 (⟨t1422, t1423, t1424, t1425⟩ : S29) [.int .u64 t1422, .int .u64 t1423, .int .u64 t1424, .int .u64 t1425] (fun _ => True) (fun _ => False) rfl rfl ?aP (fun _ hk => hk.elim) ?aF ?aO ?aB ?aS ?aL ?_
            (case aP => exact k29_mkM _ _ _ (⟨t1422, t1423, t1424, t1425⟩ : S29))
            (case aB => exact bel_)
            (case aF => exact (fun _ _ => trivial))
            (case aO => exact (kdU_ HO1420.out))
            (case aS => exact (below_size bel_))
            (case aL => have := LMc14.out; omega)
            intro v1427 w20 ho hb hg hat
            rw [← Ny1426.out] at ho
            replace HB := Aside0.mk (hb)
            have HO1428 := Aside0.mk (ho)
            clear HO1420
            clear ho hb hg hat
            refine hK.out _ _ trivial (fun hHeld => ?_)
            clear hK K
            refine norm_ (a' := ?_) ?_ ?_
            rotate_left
            · show Act.put _ (some 26) _ = _
              simp only [Act.put, List.setIfInBounds_toArray, List.set_cons_zero, List.set_cons_succ, i64_w, i32_w]
              rfl
            refine pureP_ 11 (some 4) #[true, true, true, true, true, true, true, true, true, true, true, true] HT_ ?_
            refine done_ (done_of HT_.out (by kernel_rfl)) ?_
            try go_wp2
            go_ret
            exact ⟨_, rfl_, by (with_reducible repeat (first | apply Kd.R_alloc | apply Kd.R_drewN | apply Kd.R_drew)); exact HO1428.out, bel_⟩
          · rw [if_neg c14] at H
            exact absurd H (by simp)
        · rw [if_neg c9] at H
          exact absurd H (by simp)
      · rw [if_neg c8] at H
        exact absurd H (by simp)
    · rw [if_neg c7] at H
      have c7b0 : decide (a1 < t1416) = false := decide_eq_false c7
      clear c7
      by_cases c21 : 0 ≤ t1416
      · rw [if_pos c21] at H
        have c21b0 := eq_true c21
        have c21b1 : decide (0 ≤ t1416) = true := decide_eq_true c21
        clear c21
        by_cases c22 : t1416 ≤ (l0.length : Int)
        · rw [if_pos c22] at H
          have c22b0 := eq_true c22
          have c22b1 : decide (t1416 ≤ (l0.length : Int)) = true := decide_eq_true c22
          clear c22
          obtain ⟨t1430, A23, H⟩ := bnd_ H
          have c24b0 := eq_true (ofd_ : 0 ≤ t1416)
          have c25b0 := eq_true (ofd_ : t1416 ≤ (l0.length : Int))
          obtain ⟨⟨t1434, t1435, t1436, t1437⟩, A26, H⟩ := bnd_ H
          dsimp only at H
          by_cases c27 : t1430.length < 4398046511104
          · rw [if_pos c27] at H
            have LMc27 := Aside0.mk c27
            clear c27
            obtain ⟨y1438, hy1438⟩ : ∃ y_ : List (S29), y_ = (t1430 ++ [(⟨t1434, t1435, t1436, t1437⟩ : S29)]) := ⟨_, rfl⟩
            replace H : (some y1438) = some r := by first | (rw [hy1438]; with_reducible exact H) | (have H2_ := (Option.bind_some _ _).symm.trans H; rw [hy1438]; with_reducible exact H2_) | (have H2_ := (Option.bind_some _ _).symm.trans H; with_reducible exact H2_) | with_reducible exact H | (rw [hy1438]; exact H) | exact H
            have Ny1438 := Aside0.mk hy1438
            clear hy1438
            obtain rfl := Option.some.inj H
            go_enter Try.func80, Try.ntmps80
            try go_wp2_with (first | ((with_reducible refine gate_callee (f := 88) rfl ?_); refine goL_ (some 12) Try.func88 #[.int .i64 (l0.length : Int)] ?_; (with_reducible refine (spec_TreeSplit.calls k (l0.length : Int) t1416 _ A6.out).mono ?_); rintro e wz_ ⟨rfl, hd_⟩; refine ⟨_, rfl, ?_⟩; replace HB := drawnB_ HB.out hd_; clear hd_))
            replace HB := Aside0.mk (below_drew1 HB.out)
            obtain ⟨i029, hi029, _, hsz29, _⟩ := info_parts info9
            obtain ⟨A29, hcut29, hA29, hC29⟩ := print_drop_of (P := Try.prog) Value.string (⟨#[]⟩ : ByteArray) 61 9 .i64 Try.underlying61 hi029 hsz29 A0 c0 l0 t1416 (ofd_) (ofd_) HC0.out
            have HR1429 := Aside0.mk (Kd.C_of_reads (h1 := fun _ => rfl) (hA29 _ (Kd.reads_of_C HR0.out)))
            have HC1429 := Aside0.mk hC29
            clear hA29 hC29 hi029 hsz29
            obtain ⟨i030, hi030, _, hsz30, _⟩ := info_parts info9
            obtain ⟨hcut30, hA30, hC30⟩ := print_take_of (P := Try.prog) Value.string (⟨#[]⟩ : ByteArray) 61 9 .i64 Try.underlying61 hi030 hsz30 A0 c0 l0 t1416 (ofd_) (ofd_) HC0.out
            have HR1433 := Aside0.mk (Kd.C_of_reads (h1 := fun _ => rfl) (hA30 _ (Kd.reads_of_C HR0.out)))
            have HC1433 := Aside0.mk hC30
            clear hA30 hC30 hi030 hsz30
            refine start_ (n := 14) (S := fun w' => True) (ds := []) #[false, false, false, false, false, false, false, false, false, false, false, false, false, false] (by kernel_rfl) rfl rfl trivial (fun hHeld => ?_); refine with_tabW spec_l3Path.tab6 spec_l3Path.bits6 (fun HT_ HW_ => ?_)
            generalize wz_.drew = w28 at HB HR1429 HR1433 hHeld ⊢
            refine pureP_ 0 (some 27) #[true, false, false, false, false, false, false, false, false, false, false, false, false, false] HT_ ?_
            refine pureP_ 1 (some 28) #[true, true, false, false, false, false, false, false, false, false, false, false, false, false] HT_ ?_
            refine pureP_ 2 (some 29) #[true, true, true, false, false, false, false, false, false, false, false, false, false, false] HT_ ?_
            refine pureP_ 3 (some 30) #[true, true, true, true, false, false, false, false, false, false, false, false, false, false] HT_ ?_
            refine pureP_ 4 (some 31) #[true, true, true, true, true, false, false, false, false, false, false, false, false, false] HT_ ?_
            refine pureP_ 5 (some 32) #[true, true, true, true, true, true, false, false, false, false, false, false, false, false] HT_ ?_
            refine pureP_ 7 (some 34) #[true, true, true, true, true, true, false, true, false, false, false, false, false, false] HT_ ?_
            refine pureP_ 8 (some 35) #[true, true, true, true, true, true, false, true, true, false, false, false, false, false] HT_ ?_
            refine pureP_ 9 (some 36) #[true, true, true, true, true, true, false, true, true, true, false, false, false, false] HT_ ?_
            refine oneP_ 6 (some 33) #[true, true, true, true, true, true, true, true, true, true, false, false, false, false] HT_ (fun K hK => ?_)
            refine goes_ Try.func80 (by kernel_rfl) rfl #[.slice A29 (l0.drop (t1416 : Int).toNat).length (c0 - t1416.toNat), .int .i64 (wrap64 (a1 - t1416))] (by rfl) rfl rfl (by (try simp only [List.map_toArray, List.map_cons, List.map_nil]); first | done | (rw [show (l0.drop (t1416 : Int).toNat).length = (l0.length - t1416.toNat) from List.length_drop] <;> rfl) | rfl | (simp only [List.length_drop, List.length_take]; rfl)) ?_
            with_reducible refine (ih k (by omega) _ _ (l0.drop (t1416 : Int).toNat) (wrap64 (a1 - t1416)) t1430 _ ?side1 ?side2 A23.out).mono ?_
            (case side1 => repeat (first | exact (Kd.C_below HR1429.out HB.out) | (with_reducible refine Kd.C_alloc ?_ _) | (with_reducible refine Kd.C_drewN ?_ _) | (with_reducible refine Kd.C_drew ?_)))
            (case side2 => exact HC1429.out)
            rintro e w31 ⟨v1431, rfl, ho0, hb⟩
            refine ⟨_, rfl, ?_⟩
            have HO1432 := Aside0.mk (Kd.R_lower ho0 (below_size bel_))
            replace HB := stepB_ hb
            (try clear hb); (try clear hk); (try clear ho0)
            refine hK.out _ _ trivial (fun hHeld => ?_)
            clear hK K
            refine norm_ (a' := ?_) ?_ ?_
            rotate_left
            · show Act.put _ (some 33) _ = _
              simp only [Act.put, List.setIfInBounds_toArray, List.set_cons_zero, List.set_cons_succ, i64_w, i32_w]
              rfl
            refine oneP_ 10 (some 37) #[true, true, true, true, true, true, true, true, true, true, true, false, false, false] HT_ (fun K hK => ?_)
            refine goes_ Try.func121 (by kernel_rfl) rfl #[.slice A0 (l0.take (t1416 : Int).toNat).length c0] (by rfl) rfl rfl (by (try simp only [List.map_toArray, List.map_cons, List.map_nil]); first | done | (rw [show (l0.take (t1416 : Int).toNat).length = t1416.toNat from (by rw [List.length_take]; have h_ : (t1416 : Int) ≤ (l0.length : Int) := ofd_; omega)] <;> rfl) | rfl | (simp only [List.length_drop, List.length_take]; rfl)) ?_
            with_reducible refine (spec_l2Root.calls k _ _ (l0.take (t1416 : Int).toNat) t1434 t1435 t1436 t1437 _ ?side1 ?side2 A26.out).mono ?_
            (case side1 => repeat (first | exact (Kd.C_below HR1433.out HB.out) | (with_reducible refine Kd.C_alloc ?_ _) | (with_reducible refine Kd.C_drewN ?_ _) | (with_reducible refine Kd.C_drew ?_)))
            (case side2 => exact HC1433.out)
            rintro e w32 ⟨rfl, hb⟩
            refine ⟨_, rfl, ?_⟩
            replace HO1432 := Aside0.mk (Kd.R_below (kdU_ HO1432.out) hb)
            replace HB := stepB_ hb
            (try clear hb); (try clear hk)
            refine hK.out _ _ trivial (fun hHeld => ?_)
            clear hK K
            refine norm_ (a' := ?_) ?_ ?_
            rotate_left
            · show Act.put _ (some 37) _ = _
              simp only [Act.put, List.setIfInBounds_toArray, List.set_cons_zero, List.set_cons_succ, i64_w, i32_w]
              rfl
            refine oneP_ 11 (some 38) #[true, true, true, true, true, true, true, true, true, true, true, true, false, false] HT_ (fun K hK => ?_)
            refine value_ (w1 := ?_) (v := ?_) (by rfl) rfl ?_ ?_
            rotate_left 2
            · go_simp
              constructor
              · rfl
              · rfl
            refine hK.out _ _ trivial (fun hHeld => ?_)
            clear hK K
            refine norm_ (a' := ?_) ?_ ?_
            rotate_left
            · show Act.put _ (some 38) _ = _
              simp only [Act.put, List.setIfInBounds_toArray, List.set_cons_zero, List.set_cons_succ, i64_w, i32_w]
              rfl
            refine oneP_ 12 (some 39) #[true, true, true, true, true, true, true, true, true, true, true, true, true, false] HT_ (fun K hK => ?_)
            refine Kd.R_append_step k29 (w0 := w) w.heap.size (by rfl) (.tmp 33) (.tmp 38) 49 29 (.agg #[(.int .u64 0), (.int .u64 0), (.int .u64 0), (.int .u64 0)]) 32 rfl Try.underlying49 info29 rfl (by decide) (by omega) v1431 t1430 (⟨t1434, t1435, t1436, t1437⟩ : S29) [.int .u64 t1434, .int .u64 t1435, .int .u64 t1436, .int .u64 t1437] (fun _ => True) (fun _ => False) rfl rfl ?aP (fun _ hk => hk.elim) ?aF ?aO ?aB ?aS ?aL ?_
            (case aP => exact k29_mkM _ _ _ (⟨t1434, t1435, t1436, t1437⟩ : S29))
            (case aB => exact bel_)
            (case aF => exact (fun _ _ => trivial))
            (case aO => exact (kdU_ HO1432.out))
            (case aS => exact (below_size bel_))
            (case aL => have := LMc27.out; omega)
            intro v1439 w33 ho hb hg hat
            rw [← Ny1438.out] at ho
            replace HB := Aside0.mk (hb)
            have HO1440 := Aside0.mk (ho)
            clear HO1432
            clear ho hb hg hat
            refine hK.out _ _ trivial (fun hHeld => ?_)
            clear hK K
            refine norm_ (a' := ?_) ?_ ?_
            rotate_left
            · show Act.put _ (some 39) _ = _
              simp only [Act.put, List.setIfInBounds_toArray, List.set_cons_zero, List.set_cons_succ, i64_w, i32_w]
              rfl
            refine pureP_ 13 (some 4) #[true, true, true, true, true, true, true, true, true, true, true, true, true, true] HT_ ?_
            refine done_ (done_of HT_.out (by kernel_rfl)) ?_
            try go_wp2
            go_ret
            exact ⟨_, rfl_, by (with_reducible repeat (first | apply Kd.R_alloc | apply Kd.R_drewN | apply Kd.R_drew)); exact HO1440.out, bel_⟩
          · rw [if_neg c27] at H
            exact absurd H (by simp)
        · rw [if_neg c22] at H
          exact absurd H (by simp)
      · rw [if_neg c21] at H
        exact absurd H (by simp)
end
end Go.Proofs.Ytflckegggopdnaa.B
