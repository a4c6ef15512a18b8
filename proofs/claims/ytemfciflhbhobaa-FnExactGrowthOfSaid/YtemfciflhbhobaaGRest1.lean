/- What the Go functions loop.example/belfry/spec.l3Digests, loop.example/belfry/spec.l3RestRoots do is what the Lean functions .f of their names here say; condition: .f gives an answer. (Written by the session's program pp.py over the kit's print; Lean checks it.) -/
import Derived.Test.YtemfciflhbhobaaK
import Derived.Test.YtemfciflhbhobaaM
import Derived.Test.YtemfciflhbhobaaGSplit1
import Derived.Test.YtemfciflhbhobaaGTree1
namespace Go.Proofs.Ytemfciflhbhobaa.B
open Go.RowKit Go.Proofs.YtemfciflhbhobaaW.PrintWords Go.Proofs.YtemfciflhbhobaaW.PrintLast Go.Proofs.YtemfciflhbhobaaW.PrintMore
attribute [local go_sem] max2_int min2_int max_two min_two max_three min_three max_four min_four   -- for this text's walks alone
set_option linter.unusedVariables false
set_option linter.unusedSimpArgs false

section
/-! ### spec_l3Digests: function 130 -/
mutual
def spec_l3Digests.l0 : Nat → List (S29) → List (S29) → List (S29) → Int → Option ((List (S29)))
  | 0, _, _, _, _ => none
  | k + 1, x0, x1, x5, x6 => if x6 < (x0.length : Int) then (if 0 ≤ x6 then (if x5.length < 4398046511104 then (spec_l3Digests.l0 k x0 x1 (x5 ++ [(⟨(rd_T29 x0 x6).f0, (rd_T29 x0 x6).f1, (rd_T29 x0 x6).f2, (rd_T29 x0 x6).f3⟩ : S29)]) (wrap64 (x6 + 1))) else (none)) else (none)) else (spec_l3Digests.l1 k x1 x5 0)
def spec_l3Digests.l1 : Nat → List (S29) → List (S29) → Int → Option ((List (S29)))
  | 0, _, _, _ => none
  | k + 1, x1, x5, x7 => if x7 < (x1.length : Int) then (if 0 ≤ x7 then (if x5.length < 4398046511104 then (spec_l3Digests.l1 k x1 (x5 ++ [(⟨(rd_T29 x1 x7).f0, (rd_T29 x1 x7).f1, (rd_T29 x1 x7).f2, (rd_T29 x1 x7).f3⟩ : S29)]) (wrap64 (x7 + 1))) else (none)) else (none)) else (some x5)
end
def spec_l3Digests.f (k : Nat) (l0 : List (S29)) (l1 : List (S29)) : Option ((List (S29))) := spec_l3Digests.l0 k l0 l1 (([] : List (S29))) 0
theorem spec_l3Digests.mono_l : ∀ k, (∀ y0 y1 y2 y3, LeO (spec_l3Digests.l0 k y0 y1 y2 y3) (spec_l3Digests.l0 (k + 1) y0 y1 y2 y3)) ∧ (∀ y0 y1 y2, LeO (spec_l3Digests.l1 k y0 y1 y2) (spec_l3Digests.l1 (k + 1) y0 y1 y2))
  | 0 => ⟨fun _ _ _ _ r h => by simp [spec_l3Digests.l0] at h, fun _ _ _ r h => by simp [spec_l3Digests.l1] at h⟩
  | k + 1 => by
    obtain ⟨ih0, ih1⟩ := spec_l3Digests.mono_l k
    refine ⟨?_, ?_⟩
    · intro y0 y1 y2 y3
      unfold spec_l3Digests.l0
      repeat' first | (with_reducible first | exact ih0 _ _ _ _ | exact ih1 _ _ _ | exact LeO.refl _ | exact LeO.none _ | refine LeO.ite ?_ ?_ | refine LeO.bind ?_ (fun _ => ?_)) | exact ih0 _ _ _ _ | exact ih1 _ _ _ | exact LeO.none _ | refine LeO.ite ?_ ?_ | refine LeO.bind ?_ (fun _ => ?_)
    · intro y0 y1 y2
      unfold spec_l3Digests.l1
      repeat' first | (with_reducible first | exact ih0 _ _ _ _ | exact ih1 _ _ _ | exact LeO.refl _ | exact LeO.none _ | refine LeO.ite ?_ ?_ | refine LeO.bind ?_ (fun _ => ?_)) | exact ih0 _ _ _ _ | exact ih1 _ _ _ | exact LeO.none _ | refine LeO.ite ?_ ?_ | refine LeO.bind ?_ (fun _ => ?_)
theorem spec_l3Digests.mono : ∀ a0 a1 k, LeO (spec_l3Digests.f k a0 a1) (spec_l3Digests.f (k + 1) a0 a1) := by
  intro a0 a1 k
  obtain ⟨ih0, ih1⟩ := spec_l3Digests.mono_l k
  unfold spec_l3Digests.f
  repeat' first | (with_reducible first | exact ih0 _ _ _ _ | exact ih1 _ _ _ | exact LeO.refl _ | exact LeO.none _ | refine LeO.ite ?_ ?_ | refine LeO.bind ?_ (fun _ => ?_)) | exact ih0 _ _ _ _ | exact ih1 _ _ _ | exact LeO.none _ | refine LeO.ite ?_ ?_ | refine LeO.bind ?_ (fun _ => ?_)
set_option maxHeartbeats 8000000 in
set_option maxRecDepth 100000 in
theorem spec_l3Digests.calls (k : Nat) (A0 : Option Addr) (c0 : Nat) (l0 : List (S29)) (A1 : Option Addr) (c1 : Nat) (l1 : List (S29)) (r : List (S29)) (w : World) (hr0 : Kd.C k29 w A0 l0.length l0) (hc0 : l0.length ≤ c0) (hr1 : Kd.C k29 w A1 l1.length l1) (hc1 : l1.length ≤ c1) (h : spec_l3Digests.f k l0 l1 = some r) :
    Calls Try.prog 130 #[.slice A0 l0.length c0, .slice A1 l1.length c1] w fun e w' => ∃ v0_ : Value, e = .returned (v0_) ∧ Kd.R k29 29 w' w.heap.size (fun _ => True) v0_ r ∧ Below w.heap.size w w' := by
  have hu29 := Try.underlying29
  have HR0 := Aside0.mk hr0
  have HC0 := Aside0.mk hc0
  clear hr0 hc0
  have HR1 := Aside0.mk hr1
  have HC1 := Aside0.mk hc1
  clear hr1 hc1
  have HB := Aside0.mk (Below.refl w.heap.size w)
  have H : (spec_l3Digests.l0 k l0 l1 (([] : List (S29))) 0) = some r := h
  clear h
  obtain ⟨y546, hy546⟩ : ∃ y_ : List (S29), y_ = (([] : List (S29))) := ⟨_, rfl⟩
  replace H : (spec_l3Digests.l0 k l0 l1 y546 0) = some r := by first | (rw [hy546]; with_reducible exact H) | (have H2_ := (Option.bind_some _ _).symm.trans H; rw [hy546]; with_reducible exact H2_) | (have H2_ := (Option.bind_some _ _).symm.trans H; with_reducible exact H2_) | with_reducible exact H | (rw [hy546]; exact H) | exact H
  have Ny546 := Aside0.mk hy546
  clear hy546
  have H' := Aside0.mk H
  clear H
  go_enter Try.func130, Try.ntmps130
  go_wp2_with (first | ((with_reducible refine gate_dst (N := 8) rfl ?_); refine Kd.R_lit k29 _ 29 ?hg (N := 8) ?hd (xs := ([] : List (S29))) (inner := []) (ok := fun _ => True) (okp := fun _ => True) ?hr ?hp (fun _ hk => hk) trivial (Below.refl _ _) (Nat.le_refl _) (by simp) ?_; (case hd => rfl); (case hg => rfl); (case hr => first | (go_simp; done) | (go_simp; rfl)); (case hp => exact (Reps.none _ _)); intro v547 w3 ho4 hb hg_ hnew_; clear hg_ hnew_; (first | rw [← Ny546.out] at ho4 | (simp only [Int.reduceToNat] at ho4; rw [← Ny546.out] at ho4)); have HO548 := Aside0.mk (Kd.R_lower ho4 (below_size bel_)); replace HB := stepB_ hb; clear hb ho4))
  go_loopg [5, 6] k (fun kq v5 v6 w' => ∃ (x5_1 : List (S29)) (x6_1 : Int), v6 = .int .i64 x6_1 ∧ Aside0 (spec_l3Digests.l0 kq l0 l1 x5_1 x6_1 = some r) ∧ Aside0 (kq ≤ k) ∧ Aside0 (Kd.R k29 29 w' w.heap.size (fun _ => True) v5 x5_1) ∧ Aside0 (Below w.heap.size w w'))
  case atStart => exact ⟨(y546), (0), (by first | rfl | (simp; done) | (simp [*]; done)), H', ⟨Nat.le_refl _⟩, ⟨kdU_ HO548.out⟩, ⟨bel_⟩⟩
  case round =>
    clear H'
    (try clear c1)
    obtain ⟨x5_1, x6_1, rfl, HA, HK1, HO_5, HB⟩ := hrel
    cases gk with
    | zero => exact absurd HA.out (by simp [spec_l3Digests.l0])
    | succ k1 =>
      have H := HA.out
      clear HA
      simp only [spec_l3Digests.l0] at H
      by_cases c5 : x6_1 < (l0.length : Int)
      · rw [if_pos c5] at H
        have c5b0 : decide (x6_1 < (l0.length : Int)) = true := decide_eq_true c5
        clear c5
        by_cases c6 : 0 ≤ x6_1
        · rw [if_pos c6] at H
          have c6b0 : decide (0 ≤ x6_1) = true := decide_eq_true c6
          clear c6
          by_cases c7 : x5_1.length < 4398046511104
          · rw [if_pos c7] at H
            have LMc7 := Aside0.mk c7
            clear c7
            obtain ⟨y550, hy550⟩ : ∃ y_ : List (S29), y_ = (x5_1 ++ [(⟨(rd_T29 l0 x6_1).f0, (rd_T29 l0 x6_1).f1, (rd_T29 l0 x6_1).f2, (rd_T29 l0 x6_1).f3⟩ : S29)]) := ⟨_, rfl⟩
            replace H : (spec_l3Digests.l0 k1 l0 l1 y550 (wrap64 (x6_1 + 1))) = some r := by first | (rw [hy550]; with_reducible exact H) | (have H2_ := (Option.bind_some _ _).symm.trans H; rw [hy550]; with_reducible exact H2_) | (have H2_ := (Option.bind_some _ _).symm.trans H; with_reducible exact H2_) | with_reducible exact H | (rw [hy550]; exact H) | exact H
            have Ny550 := Aside0.mk hy550
            clear hy550
            have H' := Aside0.mk H
            clear H
            have p549 : 0 ≤ (x6_1 : Int) := ofd_
            have q549 : x6_1 < (l0.length : Int) := ofd_
            obtain ⟨ad549, e549, hx549_0, hx549_1, hx549_2, hx549_3⟩ := at_T29 HR0.out x6_1 p549 q549
            cases e549
            replace hx549_0 := pw_cell_below HB.out hx549_0
            replace hx549_1 := pw_cell_below HB.out hx549_1
            replace hx549_2 := pw_cell_below HB.out hx549_2
            replace hx549_3 := pw_cell_below HB.out hx549_3
            replace p549 := eq_true p549
            replace q549 := eq_true q549
            go_wp2_with (first | ((with_reducible refine gate_builtin (b := .append) (xs := #[.tmp 15, .tmp 20]) rfl ?_); at_builtin; refine Kd.R_append k29 (w0 := w) w.heap.size rfl (.tmp 15) (.tmp 20) 49 29 (.agg #[(.int .u64 0), (.int .u64 0), (.int .u64 0), (.int .u64 0)]) 32 rfl Try.underlying49 info29 rfl (by decide) (by omega) u5 x5_1 (⟨(rd_T29 l0 x6_1).f0, (rd_T29 l0 x6_1).f1, (rd_T29 l0 x6_1).f2, (rd_T29 l0 x6_1).f3⟩ : S29) [.int .u64 ((rd_T29 l0 x6_1).f0), .int .u64 ((rd_T29 l0 x6_1).f1), .int .u64 ((rd_T29 l0 x6_1).f2), .int .u64 ((rd_T29 l0 x6_1).f3)] (fun _ => True) (fun _ => False) rfl rfl ?aP (fun _ hk => hk.elim) ?aF ?aO ?aB ?aS ?aL ?_; (case aP => exact k29_mkM _ _ _ (⟨(rd_T29 l0 x6_1).f0, (rd_T29 l0 x6_1).f1, (rd_T29 l0 x6_1).f2, (rd_T29 l0 x6_1).f3⟩ : S29)); (case aB => exact bel_); (case aF => exact (fun _ _ => trivial)); (case aO => exact (kdU_ HO_5.out)); (case aS => exact (below_size bel_)); (case aL => have := LMc7.out; omega); intro v551 w8 ho hb hg hat; rw [← Ny550.out] at ho; replace HB := Aside0.mk (hb); have HO552 := Aside0.mk (ho); clear HO_5; clear ho hb hg hat))
            go_roundg k1
            case measure => have := HK1.out; omega
            case rel => exact ⟨(y550), (wrap64 (x6_1 + 1)), (by first | rfl | (simp; done) | (simp [*]; done)), H', ⟨by have := HK1.out; omega⟩, ⟨kdU_ HO552.out⟩, ⟨bel_⟩⟩
          · rw [if_neg c7] at H
            exact absurd H (by simp)
        · rw [if_neg c6] at H
          exact absurd H (by simp)
      · rw [if_neg c5] at H
        have c5b0 : decide (x6_1 < (l0.length : Int)) = false := decide_eq_false c5
        clear c5
        have H' := Aside0.mk H
        clear H
        go_wp2
        go_loopg [5, 7] k1 (fun kq v5 v7 w' => ∃ (x5_2 : List (S29)) (x7_2 : Int), v7 = .int .i64 x7_2 ∧ Aside0 (spec_l3Digests.l1 kq l1 x5_2 x7_2 = some r) ∧ Aside0 (kq ≤ k1) ∧ Aside0 (Kd.R k29 29 w' w.heap.size (fun _ => True) v5 x5_2) ∧ Aside0 (Below w.heap.size w w'))
        case atStart => exact ⟨(x5_1), (0), (by first | rfl | (simp; done) | (simp [*]; done)), H', ⟨Nat.le_refl _⟩, ⟨kdU_ HO_5.out⟩, ⟨bel_⟩⟩
        case round =>
          clear H'
          (try clear c1); (try clear c5); (try clear c5b0); (try clear c6); (try clear c6b0); (try clear c7); (try clear hx549_0); (try clear hx549_1); (try clear hx549_2); (try clear hx549_3); (try clear p549); (try clear q549)
          obtain ⟨x5_2, x7_2, rfl, HA, HK2, HO_5, HB⟩ := hrel
          cases gk with
          | zero => exact absurd HA.out (by simp [spec_l3Digests.l1])
          | succ k2 =>
            have H := HA.out
            clear HA
            simp only [spec_l3Digests.l1] at H
            by_cases c9 : x7_2 < (l1.length : Int)
            · rw [if_pos c9] at H
              have c9b0 : decide (x7_2 < (l1.length : Int)) = true := decide_eq_true c9
              clear c9
              by_cases c10 : 0 ≤ x7_2
              · rw [if_pos c10] at H
                have c10b0 : decide (0 ≤ x7_2) = true := decide_eq_true c10
                clear c10
                by_cases c11 : x5_2.length < 4398046511104
                · rw [if_pos c11] at H
                  have LMc11 := Aside0.mk c11
                  clear c11
                  obtain ⟨y554, hy554⟩ : ∃ y_ : List (S29), y_ = (x5_2 ++ [(⟨(rd_T29 l1 x7_2).f0, (rd_T29 l1 x7_2).f1, (rd_T29 l1 x7_2).f2, (rd_T29 l1 x7_2).f3⟩ : S29)]) := ⟨_, rfl⟩
                  replace H : (spec_l3Digests.l1 k2 l1 y554 (wrap64 (x7_2 + 1))) = some r := by first | (rw [hy554]; with_reducible exact H) | (have H2_ := (Option.bind_some _ _).symm.trans H; rw [hy554]; with_reducible exact H2_) | (have H2_ := (Option.bind_some _ _).symm.trans H; with_reducible exact H2_) | with_reducible exact H | (rw [hy554]; exact H) | exact H
                  have Ny554 := Aside0.mk hy554
                  clear hy554
                  have H' := Aside0.mk H
                  clear H
                  have p553 : 0 ≤ (x7_2 : Int) := ofd_
                  have q553 : x7_2 < (l1.length : Int) := ofd_
                  obtain ⟨ad553, e553, hx553_0, hx553_1, hx553_2, hx553_3⟩ := at_T29 HR1.out x7_2 p553 q553
                  cases e553
                  replace hx553_0 := pw_cell_below HB.out hx553_0
                  replace hx553_1 := pw_cell_below HB.out hx553_1
                  replace hx553_2 := pw_cell_below HB.out hx553_2
                  replace hx553_3 := pw_cell_below HB.out hx553_3
                  replace p553 := eq_true p553
                  replace q553 := eq_true q553
                  go_wp2_with (first | ((with_reducible refine gate_builtin (b := .append) (xs := #[.tmp 28, .tmp 33]) rfl ?_); at_builtin; refine Kd.R_append k29 (w0 := w) w.heap.size rfl (.tmp 28) (.tmp 33) 49 29 (.agg #[(.int .u64 0), (.int .u64 0), (.int .u64 0), (.int .u64 0)]) 32 rfl Try.underlying49 info29 rfl (by decide) (by omega) u5 x5_2 (⟨(rd_T29 l1 x7_2).f0, (rd_T29 l1 x7_2).f1, (rd_T29 l1 x7_2).f2, (rd_T29 l1 x7_2).f3⟩ : S29) [.int .u64 ((rd_T29 l1 x7_2).f0), .int .u64 ((rd_T29 l1 x7_2).f1), .int .u64 ((rd_T29 l1 x7_2).f2), .int .u64 ((rd_T29 l1 x7_2).f3)] (fun _ => True) (fun _ => False) rfl rfl ?aP (fun _ hk => hk.elim) ?aF ?aO ?aB ?aS ?aL ?_; (case aP => exact k29_mkM _ _ _ (⟨(rd_T29 l1 x7_2).f0, (rd_T29 l1 x7_2).f1, (rd_T29 l1 x7_2).f2, (rd_T29 l1 x7_2).f3⟩ : S29)); (case aB => exact bel_); (case aF => exact (fun _ _ => trivial)); (case aO => exact (kdU_ HO_5.out)); (case aS => exact (below_size bel_)); (case aL => have := LMc11.out; omega); intro v555 w12 ho hb hg hat; rw [← Ny554.out] at ho; replace HB := Aside0.mk (hb); have HO556 := Aside0.mk (ho); clear HO_5; clear ho hb hg hat))
                  go_roundg k2
                  case measure => have := HK1.out; have := HK2.out; omega
                  case rel => exact ⟨(y554), (wrap64 (x7_2 + 1)), (by first | rfl | (simp; done) | (simp [*]; done)), H', ⟨by have := HK1.out; have := HK2.out; omega⟩, ⟨kdU_ HO556.out⟩, ⟨bel_⟩⟩
                · rw [if_neg c11] at H
                  exact absurd H (by simp)
              · rw [if_neg c10] at H
                exact absurd H (by simp)
            · rw [if_neg c9] at H
              have c9b0 : decide (x7_2 < (l1.length : Int)) = false := decide_eq_false c9
              clear c9
              obtain rfl := Option.some.inj H
              go_wp2
              go_ret
              exact ⟨_, rfl_, by (with_reducible repeat (first | apply Kd.R_alloc | apply Kd.R_drewN | apply Kd.R_drew)); exact HO_5.out, bel_⟩

end
section
/-! ### spec_l3RestRoots: function 131 -/
def spec_l3RestRoots.f : Nat → List ByteArray → Int → Int → Int → Option ((List (S29)))
  | 0, _, _, _, _ => none
  | k + 1, l0, a1, a2, a3 => if a2 ≤ a3 then (some (([] : List (S29)))) else (if a1 ≥ a3 then (if 0 ≤ a1 then (if a1 ≤ a2 then (if a2 ≤ (l0.length : Int) then ((spec_l2Root.f k ((l0.take (a2 : Int).toNat).drop (a1 : Int).toNat)).bind fun bt1526 => (some (([(⟨bt1526.1, bt1526.2.1, bt1526.2.2.1, bt1526.2.2.2⟩ : S29)] : List (S29))))) else (none)) else (none)) else (none)) else ((spec_TreeSplit.f k (wrap64 (a2 - a1))).bind fun t1533 => ((spec_l3RestRoots.f k l0 a1 (wrap64 (a1 + t1533)) a3).bind fun t1534 => ((spec_l3RestRoots.f k l0 (wrap64 (a1 + t1533)) a2 a3).bind fun t1537 => ((spec_l3Digests.f k t1534 t1537).bind fun t1540 => (some t1540))))))
theorem spec_l3RestRoots.mono_l : ∀ k, (∀ y0 y1 y2 y3, LeO (spec_l3RestRoots.f k y0 y1 y2 y3) (spec_l3RestRoots.f (k + 1) y0 y1 y2 y3))
  | 0 => fun _ _ _ _ r h => by simp [spec_l3RestRoots.f] at h
  | k + 1 => by
    have ih0 := spec_l3RestRoots.mono_l k
    · intro y0 y1 y2 y3
      unfold spec_l3RestRoots.f
      repeat' first | (with_reducible first | exact ih0 _ _ _ _ | exact spec_TreeSplit.mono _ _ | exact spec_l2Root.mono _ _ | exact spec_l3Digests.mono _ _ _ | exact LeO.refl _ | exact LeO.none _ | refine LeO.ite ?_ ?_ | refine LeO.bind ?_ (fun _ => ?_)) | exact ih0 _ _ _ _ | exact LeO.none _ | refine LeO.ite ?_ ?_ | refine LeO.bind ?_ (fun _ => ?_)
theorem spec_l3RestRoots.mono : ∀ a0 a1 a2 a3 k, LeO (spec_l3RestRoots.f k a0 a1 a2 a3) (spec_l3RestRoots.f (k + 1) a0 a1 a2 a3) := by
  intro a0 a1 a2 a3 k
  have ih0 := spec_l3RestRoots.mono_l k
  exact ih0 a0 a1 a2 a3
set_option maxHeartbeats 8000000 in
set_option maxRecDepth 100000 in
theorem spec_l3RestRoots.calls (k : Nat) : ∀ (A0 : Option Addr) (c0 : Nat) (l0 : List ByteArray) (a1 : Int) (a2 : Int) (a3 : Int) (r : List (S29)) (w : World) (hr0 : Kd.C Kd.string w A0 l0.length l0) (hc0 : l0.length ≤ c0) (h : spec_l3RestRoots.f k l0 a1 a2 a3 = some r),
    Calls Try.prog 131 #[.slice A0 l0.length c0, .int .i64 a1, .int .i64 a2, .int .i64 a3] w fun e w' => ∃ v0_ : Value, e = .returned (v0_) ∧ Kd.R k29 29 w' w.heap.size (fun _ => True) v0_ r ∧ Below w.heap.size w w' := by
  induction k using Nat.strongRecOn with
  | _ k ih =>
  intro A0 c0 l0 a1 a2 a3 r w hr0 hc0 h
  cases k with
  | zero => exact absurd h (by simp [spec_l3RestRoots.f])
  | succ k =>
  simp only [spec_l3RestRoots.f] at h
  have HR0 := Aside0.mk hr0
  have HC0 := Aside0.mk hc0
  clear hr0 hc0
  have HB := Aside0.mk (Below.refl w.heap.size w)
  have H : (if a2 ≤ a3 then (some (([] : List (S29)))) else (if a1 ≥ a3 then (if 0 ≤ a1 then (if a1 ≤ a2 then (if a2 ≤ (l0.length : Int) then ((spec_l2Root.f k ((l0.take (a2 : Int).toNat).drop (a1 : Int).toNat)).bind fun bt1526 => (some (([(⟨bt1526.1, bt1526.2.1, bt1526.2.2.1, bt1526.2.2.2⟩ : S29)] : List (S29))))) else (none)) else (none)) else (none)) else ((spec_TreeSplit.f k (wrap64 (a2 - a1))).bind fun t1533 => ((spec_l3RestRoots.f k l0 a1 (wrap64 (a1 + t1533)) a3).bind fun t1534 => ((spec_l3RestRoots.f k l0 (wrap64 (a1 + t1533)) a2 a3).bind fun t1537 => ((spec_l3Digests.f k t1534 t1537).bind fun t1540 => (some t1540))))))) = some r := h
  clear h
  by_cases c5 : a2 ≤ a3
  · rw [if_pos c5] at H
    have c5b0 : decide (a2 ≤ a3) = true := decide_eq_true c5
    clear c5
    obtain ⟨y1522, hy1522⟩ : ∃ y_ : List (S29), y_ = (([] : List (S29))) := ⟨_, rfl⟩
    replace H : (some y1522) = some r := by first | (rw [hy1522]; with_reducible exact H) | (have H2_ := (Option.bind_some _ _).symm.trans H; rw [hy1522]; with_reducible exact H2_) | (have H2_ := (Option.bind_some _ _).symm.trans H; with_reducible exact H2_) | with_reducible exact H | (rw [hy1522]; exact H) | exact H
    have Ny1522 := Aside0.mk hy1522
    clear hy1522
    obtain rfl := Option.some.inj H
    go_enter Try.func131, Try.ntmps131
    go_wp2_with (first | ((with_reducible refine gate_dst (N := 13) rfl ?_); refine Kd.R_lit k29 _ 29 ?hg (N := 13) ?hd (xs := ([] : List (S29))) (inner := []) (ok := fun _ => True) (okp := fun _ => True) ?hr ?hp (fun _ hk => hk) trivial (Below.refl _ _) (Nat.le_refl _) (by simp) ?_; (case hd => rfl); (case hg => rfl); (case hr => first | (go_simp; done) | (go_simp; rfl)); (case hp => exact (Reps.none _ _)); intro v1523 w6 ho7 hb hg_ hnew_; clear hg_ hnew_; (first | rw [← Ny1522.out] at ho7 | (simp only [Int.reduceToNat] at ho7; rw [← Ny1522.out] at ho7)); have HO1524 := Aside0.mk (Kd.R_lower ho7 (below_size bel_)); replace HB := stepB_ hb; clear hb ho7))
    go_ret
    exact ⟨_, rfl_, by (with_reducible repeat (first | apply Kd.R_alloc | apply Kd.R_drewN | apply Kd.R_drew)); exact HO1524.out, bel_⟩
  · rw [if_neg c5] at H
    have c5b0 : decide (a2 ≤ a3) = false := decide_eq_false c5
    clear c5
    by_cases c8 : a1 ≥ a3
    · rw [if_pos c8] at H
      have c8b0 : decide (a3 ≤ a1) = true := decide_eq_true c8
      clear c8
      by_cases c9 : 0 ≤ a1
      · rw [if_pos c9] at H
        have c9b0 := eq_true c9
        have c9b1 : decide (0 ≤ a1) = true := decide_eq_true c9
        clear c9
        by_cases c10 : a1 ≤ a2
        · rw [if_pos c10] at H
          have c10b0 := eq_true c10
          have c10b1 : decide (a1 ≤ a2) = true := decide_eq_true c10
          clear c10
          by_cases c11 : a2 ≤ (l0.length : Int)
          · rw [if_pos c11] at H
            have c11b0 := eq_true c11
            have c11b1 : decide (a2 ≤ (l0.length : Int)) = true := decide_eq_true c11
            clear c11
            obtain ⟨⟨t1526, t1527, t1528, t1529⟩, A12, H⟩ := bnd_ H
            dsimp only at H
            obtain ⟨y1530, hy1530⟩ : ∃ y_ : List (S29), y_ = (([(⟨t1526, t1527, t1528, t1529⟩ : S29)] : List (S29))) := ⟨_, rfl⟩
            replace H : (some y1530) = some r := by first | (rw [hy1530]; with_reducible exact H) | (have H2_ := (Option.bind_some _ _).symm.trans H; rw [hy1530]; with_reducible exact H2_) | (have H2_ := (Option.bind_some _ _).symm.trans H; with_reducible exact H2_) | with_reducible exact H | (rw [hy1530]; exact H) | exact H
            have Ny1530 := Aside0.mk hy1530
            clear hy1530
            obtain rfl := Option.some.inj H
            obtain ⟨i013, hi013, _, hsz13, _⟩ := info_parts info9
            obtain ⟨A13, hcut13, hA13, hC13⟩ := print_mid_of (P := Try.prog) Value.string (⟨#[]⟩ : ByteArray) 60 9 .i64 .i64 Try.underlying60 hi013 hsz13 A0 c0 l0 a1 a2 (ofd_) (by first | omega | exact ofd_) (ofd_) HC0.out
            have HR1525 := Aside0.mk (Kd.C_of_reads (h1 := fun _ => rfl) (hA13 _ (Kd.reads_of_C HR0.out)))
            have HC1525 := Aside0.mk hC13
            clear hA13 hC13 hi013 hsz13
            go_enter Try.func131, Try.ntmps131
            go_wp2_with (first | ((with_reducible refine gate_callee (f := 97) rfl ?_); refine goesL_ (some 21) rfl rfl Try.func97 (by kernel_rfl) rfl #[.slice A13 ((l0.take (a2 : Int).toNat).drop (a1 : Int).toNat).length (c0 - a1.toNat)] rfl (by (try simp only [List.map_toArray, List.map_cons, List.map_nil]); first | done | (rw [show ((l0.take (a2 : Int).toNat).drop (a1 : Int).toNat).length = (a2.toNat - a1.toNat) from (by rw [List.length_drop, List.length_take]; have h_ : (a2 : Int) ≤ (l0.length : Int) := ofd_; omega)] <;> rfl) | rfl | (simp only [List.length_drop, List.length_take]; rfl)) ?_; (with_reducible refine (spec_l2Root.calls k _ _ ((l0.take (a2 : Int).toNat).drop (a1 : Int).toNat) t1526 t1527 t1528 t1529 _ ?side1 ?side2 A12.out).mono ?_); (case side1 => repeat (first | exact HR1525.out | (with_reducible refine Kd.C_alloc ?_ _) | (with_reducible refine Kd.C_drewN ?_ _) | (with_reducible refine Kd.C_drew ?_))); (case side2 => exact HC1525.out); rintro e w14 ⟨rfl, hb⟩; refine ⟨_, rfl, ?_⟩; replace HB := stepB_ hb; (try clear hb); (try clear hk)) | ((with_reducible refine gate_dst (N := 22) rfl ?_); refine Kd.R_lit k29 _ 29 ?hg (N := 22) ?hd (xs := ([(⟨t1526, t1527, t1528, t1529⟩ : S29)] : List (S29))) (inner := [.int .u64 t1526, .int .u64 t1527, .int .u64 t1528, .int .u64 t1529]) (ok := fun _ => True) (okp := fun _ => True) ?hr ?hp (fun _ hk => hk) trivial (Below.refl _ _) (Nat.le_refl _) (by simp) ?_; (case hd => rfl); (case hg => rfl); (case hr => first | (go_simp; done) | (go_simp; rfl)); (case hp => exact (Reps.c4 (show Kd.M k29 _ _ _ (⟨t1526, t1527, t1528, t1529⟩ : S29) [.int .u64 t1526, .int .u64 t1527, .int .u64 t1528, .int .u64 t1529] from (k29_mkM _ _ _ (⟨t1526, t1527, t1528, t1529⟩ : S29) )) (Reps.none _ _))); intro v1531 w15 ho16 hb hg_ hnew_; clear hg_ hnew_; (first | rw [← Ny1530.out] at ho16 | (simp only [Int.reduceToNat] at ho16; rw [← Ny1530.out] at ho16)); have HO1532 := Aside0.mk (Kd.R_lower ho16 (below_size bel_)); replace HB := stepB_ hb; clear hb ho16))
            go_ret
            exact ⟨_, rfl_, by (with_reducible repeat (first | apply Kd.R_alloc | apply Kd.R_drewN | apply Kd.R_drew)); exact HO1532.out, bel_⟩
          · rw [if_neg c11] at H
            exact absurd H (by simp)
        · rw [if_neg c10] at H
          exact absurd H (by simp)
      · rw [if_neg c9] at H
        exact absurd H (by simp)
    · rw [if_neg c8] at H
      have c8b0 : decide (a3 ≤ a1) = false := decide_eq_false c8
      clear c8
      obtain ⟨t1533, A17, H⟩ := bnd_ H
      obtain ⟨t1534, A18, H⟩ := bnd_ H
      obtain ⟨t1537, A19, H⟩ := bnd_ H
      obtain ⟨t1540, A20, H⟩ := bnd_ H
      obtain rfl := Option.some.inj H
      go_enter Try.func131, Try.ntmps131
      go_wp2_with (first | ((with_reducible refine gate_callee (f := 55) rfl ?_); refine goL_ (some 27) Try.func55 #[.int .i64 (wrap64 (a2 - a1))] ?_; (with_reducible refine (spec_TreeSplit.calls k (wrap64 (a2 - a1)) t1533 _ A17.out).mono ?_); rintro e w' ⟨rfl, ⟨nd, rfl⟩⟩; refine ⟨_, rfl, ?_⟩) | ((with_reducible refine gate_callee (f := 131) rfl ?_); refine goL_ (some 33) Try.func131 #[.slice A0 l0.length c0, .int .i64 a1, .int .i64 (wrap64 (a1 + t1533)), .int .i64 a3] ?_; (with_reducible refine (ih k (by omega) _ _ l0 a1 (wrap64 (a1 + t1533)) a3 t1534 _ ?side1 ?side2 A18.out).mono ?_); (case side1 => repeat (first | exact HR0.out | (with_reducible refine Kd.C_alloc ?_ _) | (with_reducible refine Kd.C_drewN ?_ _) | (with_reducible refine Kd.C_drew ?_))); (case side2 => exact HC0.out); rintro e w21 ⟨v1535, rfl, ho0, hb⟩; refine ⟨_, rfl, ?_⟩; have HO1536 := Aside0.mk (Kd.R_lower ho0 (below_size bel_)); replace HB := stepB_ hb; (try clear hb); (try clear hk); (try clear ho0)) | ((with_reducible refine gate_callee (f := 131) rfl ?_); refine goL_ (some 38) Try.func131 #[.slice A0 l0.length c0, .int .i64 (wrap64 (a1 + t1533)), .int .i64 a2, .int .i64 a3] ?_; (with_reducible refine (ih k (by omega) _ _ l0 (wrap64 (a1 + t1533)) a2 a3 t1537 _ ?side1 ?side2 A19.out).mono ?_); (case side1 => repeat (first | exact (Kd.C_below HR0.out HB.out) | (with_reducible refine Kd.C_alloc ?_ _) | (with_reducible refine Kd.C_drewN ?_ _) | (with_reducible refine Kd.C_drew ?_))); (case side2 => exact HC0.out); rintro e w22 ⟨v1538, rfl, ho0, hb⟩; refine ⟨_, rfl, ?_⟩; have HO1539 := Aside0.mk (Kd.R_lower (Kd.R_new' ho0 (Kd.R_lt (kdU_ HO1536.out))) (below_size bel_)); replace HO1536 := Aside0.mk (Kd.R_elder' (kdU_ HO1536.out) (Kd.R_base ho0) hb); replace HB := stepB_ hb; (try clear hb); (try clear hk); (try clear ho0); obtain ⟨Ao23, co23, eo23⟩ := Kd.R_slice HO1536.out; subst eo23; obtain ⟨Ao24, co24, eo24⟩ := Kd.R_slice HO1539.out; subst eo24) | ((with_reducible refine gate_callee (f := 130) rfl ?_); refine goL_ (some 39) Try.func130 #[.slice Ao23 t1534.length co23, .slice Ao24 t1537.length co24] ?_; (with_reducible refine (spec_l3Digests.calls k _ _ t1534 _ _ t1537 t1540 _ ?side1 ?side2 ?side3 ?side4 A20.out).mono ?_); (case side1 => repeat (first | exact (Kd.R_reads' HO1536.out).2.2 | (with_reducible refine Kd.C_alloc ?_ _) | (with_reducible refine Kd.C_drewN ?_ _) | (with_reducible refine Kd.C_drew ?_))); (case side2 => exact (Kd.R_reads' HO1536.out).2.1); (case side3 => repeat (first | exact (Kd.R_reads' HO1539.out).2.2 | (with_reducible refine Kd.C_alloc ?_ _) | (with_reducible refine Kd.C_drewN ?_ _) | (with_reducible refine Kd.C_drew ?_))); (case side4 => exact (Kd.R_reads' HO1539.out).2.1); rintro e w25 ⟨v1541, rfl, ho0, hb⟩; refine ⟨_, rfl, ?_⟩; have HO1542 := Aside0.mk (Kd.R_lower (Kd.R_new' (Kd.R_new' ho0 (Kd.R_lt (kdU_ HO1536.out))) (Kd.R_lt (kdU_ HO1539.out))) (below_size bel_)); replace HO1536 := Aside0.mk (Kd.R_elder' (kdU_ HO1536.out) (Kd.R_base ho0) hb); replace HO1539 := Aside0.mk (Kd.R_elder' (kdU_ HO1539.out) (Kd.R_base ho0) hb); replace HB := stepB_ hb; (try clear hb); (try clear hk); (try clear ho0)))
      go_ret
      exact ⟨_, rfl_, by (with_reducible repeat (first | apply Kd.R_alloc | apply Kd.R_drewN | apply Kd.R_drew)); exact Kd.R_mono HO1542.out (fun _ hk => trivial), bel_⟩

end
end Go.Proofs.Ytemfciflhbhobaa.B
