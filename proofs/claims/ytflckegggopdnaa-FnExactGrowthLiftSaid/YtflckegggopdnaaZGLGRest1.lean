/- What the Go functions loop.example/belfry/spec.l3Digests do is what the Lean functions .f of their names here say; condition: .f gives an answer. (Written by the session's program pp.py over the kit's print; Lean checks it.) -/
import Derived.Test.YtflckegggopdnaaZGLK
import Derived.Test.YtflckegggopdnaaZGLM
namespace Go.Proofs.Ytflckegggopdnaa.B
open Go.RowKit Go.Proofs.YtflckegggopdnaaW.PrintWords Go.Proofs.YtflckegggopdnaaW.PrintLast Go.Proofs.YtflckegggopdnaaW.PrintMore
attribute [local go_sem] max2_int min2_int max_two min_two max_three min_three max_four min_four
set_option linter.unusedVariables false
set_option linter.unusedSimpArgs false
section
mutual
def spec_l3Digests.l0 : Nat → List (S29) → List (S29) → List (S29) → Int → Option ((List (S29)))
  | 0, _, _, _, _ => none
  | k + 1, x0, x1, x5, x6 => if x6 < (x0.length : Int) then (if 0 ≤ x6 then (if x5.length < 4398046511104 then (spec_l3Digests.l0 k x0 x1 (x5 ++ [(⟨(rd_T29 x0 x6).f0, (rd_T29 x0 x6).f1, (rd_T29 x0 x6).f2, (rd_T29 x0 x6).f3⟩ : S29)]) (wrap64 (x6 + 1))) else (none)) else (none)) else (spec_l3Digests.l1 k x1 x5 0)
def spec_l3Digests.l1 : Nat → List (S29) → List (S29) → Int → Option ((List (S29)))
  | 0, _, _, _ => none
  | k + 1, x1, x5, x7 => if x7 < (x1.length : Int) then (if 0 ≤ x7 then (if x5.length < 4398046511104 then (spec_l3Digests.l1 k x1 (x5 ++ [(⟨(rd_T29 x1 x7).f0, (rd_T29 x1 x7).f1, (rd_T29 x1 x7).f2, (rd_T29 x1 x7).f3⟩ : S29)]) (wrap64 (x7 + 1))) else (none)) else (none)) else (some x5)
end
def spec_l3Digests.f (k : Nat) (l0 : List (S29)) (l1 : List (S29)) : Option ((List (S29))) := spec_l3Digests.l0 k l0 l1 (([] : List (S29))) 0
set_option maxHeartbeats 8000000 in
set_option maxRecDepth 100000 in
theorem spec_l3Digests.calls (k : Nat) (A0 : Option Addr) (c0 : Nat) (l0 : List (S29)) (A1 : Option Addr) (c1 : Nat) (l1 : List (S29)) (r : List (S29)) (w : World) (hr0 : Kd.C k29 w A0 l0.length l0) (hc0 : l0.length ≤ c0) (hr1 : Kd.C k29 w A1 l1.length l1) (hc1 : l1.length ≤ c1) (h : spec_l3Digests.f k l0 l1 = some r) :
    Calls Try.prog 82 #[.slice A0 l0.length c0, .slice A1 l1.length c1] w fun e w' => ∃ v0_ : Value, e = .returned (v0_) ∧ Kd.R k29 29 w' w.heap.size (fun _ => True) v0_ r ∧ Below w.heap.size w w' := by
  have hu29 := Try.underlying29
  have HR0 := Aside0.mk hr0
  have HC0 := Aside0.mk hc0
  clear hr0 hc0
  have HR1 := Aside0.mk hr1
  have HC1 := Aside0.mk hc1
  clear hr1 hc1
  have HB := Aside0.mk (Below.refl w.heap.size w)
  have H : (spec_l3Digests.l0 k l0 l1 (([] : List (S29))) 0) = some r := h
  clear h
  obtain ⟨y557, hy557⟩ : ∃ y_ : List (S29), y_ = (([] : List (S29))) := ⟨_, rfl⟩
  replace H : (spec_l3Digests.l0 k l0 l1 y557 0) = some r := by first | (rw [hy557]; with_reducible exact H) | (have H2_ := (Option.bind_some _ _).symm.trans H; rw [hy557]; with_reducible exact H2_) | (have H2_ := (Option.bind_some _ _).symm.trans H; with_reducible exact H2_) | with_reducible exact H | (rw [hy557]; exact H) | exact H
  have Ny557 := Aside0.mk hy557
  clear hy557
  have H' := Aside0.mk H
  clear H
  go_enter Try.func82, Try.ntmps82
  go_wp2_with (first | ((with_reducible refine gate_dst (N := 8) rfl ?_); refine Kd.R_lit k29 _ 29 ?hg (N := 8) ?hd (xs := ([] : List (S29))) (inner := []) (ok := fun _ => True) (okp := fun _ => True) ?hr ?hp (fun _ hk => hk) trivial (Below.refl _ _) (Nat.le_refl _) (by simp) ?_; (case hd => rfl); (case hg => rfl); (case hr => first | (go_simp; done) | (go_simp; rfl)); (case hp => exact (Reps.none _ _)); intro v558 w3 ho4 hb hg_ hnew_; clear hg_ hnew_; (first | rw [← Ny557.out] at ho4 | (simp only [Int.reduceToNat] at ho4; rw [← Ny557.out] at ho4)); have HO559 := Aside0.mk (Kd.R_lower ho4 (below_size bel_)); replace HB := stepB_ hb; clear hb ho4))
  go_loopg [5, 6] k (fun kq v5 v6 w' => ∃ (x5_1 : List (S29)) (x6_1 : Int), v6 = .int .i64 x6_1 ∧ Aside0 (spec_l3Digests.l0 kq l0 l1 x5_1 x6_1 = some r) ∧ Aside0 (kq ≤ k) ∧ Aside0 (Kd.R k29 29 w' w.heap.size (fun _ => True) v5 x5_1) ∧ Aside0 (Below w.heap.size w w'))
  case atStart => exact ⟨(y557), (0), (by first | rfl | (simp; done) | (simp [*]; done)), H', ⟨Nat.le_refl _⟩, ⟨kdU_ HO559.out⟩, ⟨bel_⟩⟩
  case round =>
    clear H'
    (try clear c1)
    obtain ⟨x5_1, x6_1, rfl, HA, HK1, HO_5, HB⟩ := hrel
    cases gk with
    | zero => exact absurd HA.out (by simp [spec_l3Digests.l0])
    | succ k1 =>
      have H := HA.out
      clear HA
      simp only [spec_l3Digests.l0] at H
      by_cases c5 : x6_1 < (l0.length : Int)
      · rw [if_pos c5] at H
        have c5b0 : decide (x6_1 < (l0.length : Int)) = true := decide_eq_true c5
        clear c5
        by_cases c6 : 0 ≤ x6_1
        · rw [if_pos c6] at H
          have c6b0 : decide (0 ≤ x6_1) = true := decide_eq_true c6
          clear c6
          by_cases c7 : x5_1.length < 4398046511104
          · rw [if_pos c7] at H
            have LMc7 := Aside0.mk c7
            clear c7
            obtain ⟨y561, hy561⟩ : ∃ y_ : List (S29), y_ = (x5_1 ++ [(⟨(rd_T29 l0 x6_1).f0, (rd_T29 l0 x6_1).f1, (rd_T29 l0 x6_1).f2, (rd_T29 l0 x6_1).f3⟩ : S29)]) := ⟨_, rfl⟩
            replace H : (spec_l3Digests.l0 k1 l0 l1 y561 (wrap64 (x6_1 + 1))) = some r := by first | (rw [hy561]; with_reducible exact H) | (have H2_ := (Option.bind_some _ _).symm.trans H; rw [hy561]; with_reducible exact H2_) | (have H2_ := (Option.bind_some _ _).symm.trans H; with_reducible exact H2_) | with_reducible exact H | (rw [hy561]; exact H) | exact H
            have Ny561 := Aside0.mk hy561
            clear hy561
            have H' := Aside0.mk H
            clear H
            have p560 : 0 ≤ (x6_1 : Int) := ofd_
            have q560 : x6_1 < (l0.length : Int) := ofd_
            obtain ⟨ad560, e560, hx560_0, hx560_1, hx560_2, hx560_3⟩ := at_T29 HR0.out x6_1 p560 q560
            cases e560
            replace hx560_0 := pw_cell_below HB.out hx560_0
            replace hx560_1 := pw_cell_below HB.out hx560_1
            replace hx560_2 := pw_cell_below HB.out hx560_2
            replace hx560_3 := pw_cell_below HB.out hx560_3
            replace p560 := eq_true p560
            replace q560 := eq_true q560
            go_wp2_with (first | ((with_reducible refine gate_builtin (b := .append) (xs := #[.tmp 15, .tmp 20]) rfl ?_); at_builtin; refine Kd.R_append k29 (w0 := w) w.heap.size rfl (.tmp 15) (.tmp 20) 49 29 (.agg #[(.int .u64 0), (.int .u64 0), (.int .u64 0), (.int .u64 0)]) 32 rfl Try.underlying49 info29 rfl (by decide) (by omega) u5 x5_1 (⟨(rd_T29 l0 x6_1).f0, (rd_T29 l0 x6_1).f1, (rd_T29 l0 x6_1).f2, (rd_T29 l0 x6_1).f3⟩ : S29) [.int .u64 ((rd_T29 l0 x6_1).f0), .int .u64 ((rd_T29 l0 x6_1).f1), .int .u64 ((rd_T29 l0 x6_1).f2), .int .u64 ((rd_T29 l0 x6_1).f3)] (fun _ => True) (fun _ => False) rfl rfl ?aP (fun _ hk => hk.elim) ?aF ?aO ?aB ?aS ?aL ?_; (case aP => exact k29_mkM _ _ _ (⟨(rd_T29 l0 x6_1).f0, (rd_T29 l0 x6_1).f1, (rd_T29 l0 x6_1).f2, (rd_T29 l0 x6_1).f3⟩ : S29)); (case aB => exact bel_); (case aF => exact (fun _ _ => trivial)); (case aO => exact (kdU_ HO_5.out)); (case aS => exact (below_size bel_)); (case aL => have := LMc7.out; omega); intro v562 w8 ho hb hg hat; rw [← Ny561.out] at ho; replace HB := Aside0.mk (hb); have HO563 := Aside0.mk (ho); clear HO_5; clear ho hb hg hat))
            go_roundg k1
            case measure => have := HK1.out; omega
            case rel => exact ⟨(y561), (wrap64 (x6_1 + 1)), (by first | rfl | (simp; done) | (simp [*]; done)), H', ⟨by have := HK1.out; omega⟩, ⟨kdU_ HO563.out⟩, ⟨bel_⟩⟩
          · rw [if_neg c7] at H
            exact absurd H (by simp)
        · rw [if_neg c6] at H
          exact absurd H (by simp)
      · rw [if_neg c5] at H
        have c5b0 : decide (x6_1 < (l0.length : Int)) = false := decide_eq_false c5
        clear c5
        have H' := Aside0.mk H
        clear H
        go_wp2
        go_loopg [5, 7] k1 (fun kq v5 v7 w' => ∃ (x5_2 : List (S29)) (x7_2 : Int), v7 = .int .i64 x7_2 ∧ Aside0 (spec_l3Digests.l1 kq l1 x5_2 x7_2 = some r) ∧ Aside0 (kq ≤ k1) ∧ Aside0 (Kd.R k29 29 w' w.heap.size (fun _ => True) v5 x5_2) ∧ Aside0 (Below w.heap.size w w'))
        case atStart => exact ⟨(x5_1), (0), (by first | rfl | (simp; done) | (simp [*]; done)), H', ⟨Nat.le_refl _⟩, ⟨kdU_ HO_5.out⟩, ⟨bel_⟩⟩
        case round =>
          clear H'
          (try clear c1); (try clear c5); (try clear c5b0); (try clear c6); (try clear c6b0); (try clear c7); (try clear hx560_0); (try clear hx560_1); (try clear hx560_2); (try clear hx560_3); (try clear p560); (try clear q560)
          obtain ⟨x5_2, x7_2, rfl, HA, HK2, HO_5, HB⟩ := hrel
          cases gk with
          | zero => exact absurd HA.out (by simp [spec_l3Digests.l1])
          | succ k2 =>
            have H := HA.out
            clear HA
            simp only [spec_l3Digests.l1] at H
            by_cases c9 : x7_2 < (l1.length : Int)
            · rw [if_pos c9] at H
              have c9b0 : decide (x7_2 < (l1.length : Int)) = true := decide_eq_true c9
              clear c9
              by_cases c10 : 0 ≤ x7_2
              · rw [if_pos c10] at H
                have c10b0 : decide (0 ≤ x7_2) = true := decide_eq_true c10
                clear c10
                by_cases c11 : x5_2.length < 4398046511104
                · rw [if_pos c11] at H
                  have LMc11 := Aside0.mk c11
                  clear c11
                  obtain ⟨y565, hy565⟩ : ∃ y_ : List (S29), y_ = (x5_2 ++ [(⟨(rd_T29 l1 x7_2).f0, (rd_T29 l1 x7_2).f1, (rd_T29 l1 x7_2).f2, (rd_T29 l1 x7_2).f3⟩ : S29)]) := ⟨_, rfl⟩
                  replace H : (spec_l3Digests.l1 k2 l1 y565 (wrap64 (x7_2 + 1))) = some r := by first | (rw [hy565]; with_reducible exact H) | (have H2_ := (Option.bind_some _ _).symm.trans H; rw [hy565]; with_reducible exact H2_) | (have H2_ := (Option.bind_some _ _).symm.trans H; with_reducible exact H2_) | with_reducible exact H | (rw [hy565]; exact H) | exact H
                  have Ny565 := Aside0.mk hy565
                  clear hy565
                  have H' := Aside0.mk H
                  clear H
                  have p564 : 0 ≤ (x7_2 : Int) := ofd_
                  have q564 : x7_2 < (l1.length : Int) := ofd_
                  obtain ⟨ad564, e564, hx564_0, hx564_1, hx564_2, hx564_3⟩ := at_T29 HR1.out x7_2 p564 q564
                  cases e564
                  replace hx564_0 := pw_cell_below HB.out hx564_0
                  replace hx564_1 := pw_cell_below HB.out hx564_1
                  replace hx564_2 := pw_cell_below HB.out hx564_2
                  replace hx564_3 := pw_cell_below HB.out hx564_3
                  replace p564 := eq_true p564
                  replace q564 := eq_true q564
                  go_wp2_with (first | ((with_reducible refine gate_builtin (b := .append) (xs := #[.tmp 28, .tmp 33]) rfl ?_); at_builtin; refine Kd.R_append k29 (w0 := w) w.heap.size rfl (.tmp 28) (.tmp 33) 49 29 (.agg #[(.int .u64 0), (.int .u64 0), (.int .u64 0), (.int .u64 0)]) 32 rfl Try.underlying49 info29 rfl (by decide) (by omega) u5 x5_2 (⟨(rd_T29 l1 x7_2).f0, (rd_T29 l1 x7_2).f1, (rd_T29 l1 x7_2).f2, (rd_T29 l1 x7_2).f3⟩ : S29) [.int .u64 ((rd_T29 l1 x7_2).f0), .int .u64 ((rd_T29 l1 x7_2).f1), .int .u64 ((rd_T29 l1 x7_2).f2), .int .u64 ((rd_T29 l1 x7_2).f3)] (fun _ => True) (fun _ => False) rfl rfl ?aP (fun _ hk => hk.elim) ?aF ?aO ?aB ?aS ?aL ?_; (case aP => exact k29_mkM _ _ _ (⟨(rd_T29 l1 x7_2).f0, (rd_T29 l1 x7_2).f1, (rd_T29 l1 x7_2).f2, (rd_T29 l1 x7_2).f3⟩ : S29)); (case aB => exact bel_); (case aF => exact (fun _ _ => trivial)); (case aO => exact (kdU_ HO_5.out)); (case aS => exact (below_size bel_)); (case aL => have := LMc11.out; omega); intro v566 w12 ho hb hg hat; rw [← Ny565.out] at ho; replace HB := Aside0.mk (hb); have HO567 := Aside0.mk (ho); clear HO_5; clear ho hb hg hat))
                  go_roundg k2
                  case measure => have := HK1.out; have := HK2.out; omega
                  case rel => exact ⟨(y565), (wrap64 (x7_2 + 1)), (by first | rfl | (simp; done) | (simp [*]; done)), H', ⟨by have := HK1.out; have := HK2.out; omega⟩, ⟨kdU_ HO567.out⟩, ⟨bel_⟩⟩
                · rw [if_neg c11] at H
                  exact absurd H (by simp)
              · rw [if_neg c10] at H
                exact absurd H (by simp)
            · rw [if_neg c9] at H
              have c9b0 : decide (x7_2 < (l1.length : Int)) = false := decide_eq_false c9
              clear c9
              obtain rfl := Option.some.inj H
              go_wp2
              go_ret
              exact ⟨_, rfl_, by (with_reducible repeat (first | apply Kd.R_alloc | apply Kd.R_drewN | apply Kd.R_drew)); exact HO_5.out, bel_⟩
end
end Go.Proofs.Ytflckegggopdnaa.B
