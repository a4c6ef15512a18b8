/- What the Go functions loop.example/belfry/spec.PeaksAdd do is what the Lean functions .f of their names here say; condition: .f gives an answer. (Written by the session's program pp.py over the kit's print; Lean checks it.) -/
import Derived.Test.YtemfciflhbhobaaK
import Derived.Test.YtemfciflhbhobaaM
import Derived.Test.YtemfciflhbhobaaGCount1
import Derived.Test.YtemfciflhbhobaaGSpecPair1
import Derived.Test.YtemfciflhbhobaaGSplit1
namespace Go.Proofs.Ytemfciflhbhobaa.B
open Go.RowKit Go.Proofs.YtemfciflhbhobaaW.PrintWords Go.Proofs.YtemfciflhbhobaaW.PrintLast Go.Proofs.YtemfciflhbhobaaW.PrintMore
attribute [local go_sem] max2_int min2_int max_two min_two max_three min_three max_four min_four   -- for this text's walks alone
set_option linter.unusedVariables false
set_option linter.unusedSimpArgs false

section
/-! ### spec_PeaksAdd: function 57 -/
mutual
def spec_PeaksAdd.j0 : Nat → Int → List (S29) → ByteArray → List (S29) → Bool → Option ((List (S29)) × Bool)
  | 0, _, _, _, _, _ => none
  | k + 1, x0, x1, x2, x8, x26 => if x26 = true then (some (x8, false)) else (spec_PeaksAdd.l0 k x0 x1 x2 x8 0)
def spec_PeaksAdd.l0 : Nat → Int → List (S29) → ByteArray → List (S29) → Int → Option ((List (S29)) × Bool)
  | 0, _, _, _, _, _ => none
  | k + 1, x0, x1, x2, x8, x9 => if x9 < (x1.length : Int) then (if 0 ≤ x9 then (if x8.length < 4398046511104 then (spec_PeaksAdd.l0 k x0 x1 x2 (x8 ++ [(⟨(rd_T29 x1 x9).f0, (rd_T29 x1 x9).f1, (rd_T29 x1 x9).f2, (rd_T29 x1 x9).f3⟩ : S29)]) (wrap64 (x9 + 1))) else (none)) else (none)) else ((spec_HashLeaf.f k x2).bind fun bt1256 => (spec_PeaksAdd.l1 k x0 x8 bt1256.1 bt1256.2.1 bt1256.2.2.1 bt1256.2.2.2))
def spec_PeaksAdd.l1 : Nat → Int → List (S29) → Int → Int → Int → Int → Option ((List (S29)) × Bool)
  | 0, _, _, _, _, _, _ => none
  | k + 1, x0, x8, x1261000, x1261001, x1261002, x1261003 => if (Int.tmod x0 2) = 1 then (if 0 ≤ (wrap64 ((x8.length : Int) - 1)) then (if (wrap64 ((x8.length : Int) - 1)) < (x8.length : Int) then ((spec_HashPair.f k ((rd_T29 x8 (wrap64 ((x8.length : Int) - 1))).f0) ((rd_T29 x8 (wrap64 ((x8.length : Int) - 1))).f1) ((rd_T29 x8 (wrap64 ((x8.length : Int) - 1))).f2) ((rd_T29 x8 (wrap64 ((x8.length : Int) - 1))).f3) x1261000 x1261001 x1261002 x1261003).bind fun bt1262 => (if (wrap64 ((x8.length : Int) - 1)) ≤ (x8.length : Int) then (spec_PeaksAdd.l1 k (wrap64 (Int.tdiv x0 2)) (x8.take ((wrap64 ((x8.length : Int) - 1)) : Int).toNat) bt1262.1 bt1262.2.1 bt1262.2.2.1 bt1262.2.2.2) else (none))) else (none)) else (none)) else (if x8.length < 4398046511104 then (some ((x8 ++ [(⟨x1261000, x1261001, x1261002, x1261003⟩ : S29)]), true)) else (none))
end
def spec_PeaksAdd.f (k : Nat) (a0 : Int) (l1 : List (S29)) (a2 : ByteArray) : Option ((List (S29)) × Bool) := (some (([] : List (S29)) : List (S29))).bind fun y1247 => ((spec_l1In.f a0 0 255).bind fun t1250 => (if t1250 = true then ((spec_PeaksCount.f k a0).bind fun t1251 => (if (l1.length : Int) = t1251 then (spec_PeaksAdd.j0 k a0 l1 a2 y1247 (decide ((a2.size : Int) > 40))) else (spec_PeaksAdd.j0 k a0 l1 a2 y1247 true))) else (spec_PeaksAdd.j0 k a0 l1 a2 y1247 true)))
theorem spec_PeaksAdd.mono_l : ∀ k, (∀ y0 y1 y2 y3 y4, LeO (spec_PeaksAdd.j0 k y0 y1 y2 y3 y4) (spec_PeaksAdd.j0 (k + 1) y0 y1 y2 y3 y4)) ∧ (∀ y0 y1 y2 y3 y4, LeO (spec_PeaksAdd.l0 k y0 y1 y2 y3 y4) (spec_PeaksAdd.l0 (k + 1) y0 y1 y2 y3 y4)) ∧ (∀ y0 y1 y2 y3 y4 y5, LeO (spec_PeaksAdd.l1 k y0 y1 y2 y3 y4 y5) (spec_PeaksAdd.l1 (k + 1) y0 y1 y2 y3 y4 y5))
  | 0 => ⟨fun _ _ _ _ _ r h => by simp [spec_PeaksAdd.j0] at h, fun _ _ _ _ _ r h => by simp [spec_PeaksAdd.l0] at h, fun _ _ _ _ _ _ r h => by simp [spec_PeaksAdd.l1] at h⟩
  | k + 1 => by
    obtain ⟨ih0, ih1, ih2⟩ := spec_PeaksAdd.mono_l k
    refine ⟨?_, ?_, ?_⟩
    · intro y0 y1 y2 y3 y4
      unfold spec_PeaksAdd.j0
      repeat' first | (with_reducible first | exact ih0 _ _ _ _ _ | exact ih1 _ _ _ _ _ | exact ih2 _ _ _ _ _ _ | exact spec_HashLeaf.mono _ _ | exact spec_HashPair.mono _ _ _ _ _ _ _ _ _ | exact spec_PeaksCount.mono _ _ | exact LeO.refl _ | exact LeO.none _ | refine LeO.ite ?_ ?_ | refine LeO.bind ?_ (fun _ => ?_)) | exact ih0 _ _ _ _ _ | exact ih1 _ _ _ _ _ | exact ih2 _ _ _ _ _ _ | exact LeO.none _ | refine LeO.ite ?_ ?_ | refine LeO.bind ?_ (fun _ => ?_)
    · intro y0 y1 y2 y3 y4
      unfold spec_PeaksAdd.l0
      repeat' first | (with_reducible first | exact ih0 _ _ _ _ _ | exact ih1 _ _ _ _ _ | exact ih2 _ _ _ _ _ _ | exact spec_HashLeaf.mono _ _ | exact spec_HashPair.mono _ _ _ _ _ _ _ _ _ | exact spec_PeaksCount.mono _ _ | exact LeO.refl _ | exact LeO.none _ | refine LeO.ite ?_ ?_ | refine LeO.bind ?_ (fun _ => ?_)) | exact ih0 _ _ _ _ _ | exact ih1 _ _ _ _ _ | exact ih2 _ _ _ _ _ _ | exact LeO.none _ | refine LeO.ite ?_ ?_ | refine LeO.bind ?_ (fun _ => ?_)
    · intro y0 y1 y2 y3 y4 y5
      unfold spec_PeaksAdd.l1
      repeat' first | (with_reducible first | exact ih0 _ _ _ _ _ | exact ih1 _ _ _ _ _ | exact ih2 _ _ _ _ _ _ | exact spec_HashLeaf.mono _ _ | exact spec_HashPair.mono _ _ _ _ _ _ _ _ _ | exact spec_PeaksCount.mono _ _ | exact LeO.refl _ | exact LeO.none _ | refine LeO.ite ?_ ?_ | refine LeO.bind ?_ (fun _ => ?_)) | exact ih0 _ _ _ _ _ | exact ih1 _ _ _ _ _ | exact ih2 _ _ _ _ _ _ | exact LeO.none _ | refine LeO.ite ?_ ?_ | refine LeO.bind ?_ (fun _ => ?_)
theorem spec_PeaksAdd.mono : ∀ a0 a1 a2 k, LeO (spec_PeaksAdd.f k a0 a1 a2) (spec_PeaksAdd.f (k + 1) a0 a1 a2) := by
  intro a0 a1 a2 k
  obtain ⟨ih0, ih1, ih2⟩ := spec_PeaksAdd.mono_l k
  unfold spec_PeaksAdd.f
  repeat' first | (with_reducible first | exact ih0 _ _ _ _ _ | exact ih1 _ _ _ _ _ | exact ih2 _ _ _ _ _ _ | exact spec_HashLeaf.mono _ _ | exact spec_HashPair.mono _ _ _ _ _ _ _ _ _ | exact spec_PeaksCount.mono _ _ | exact LeO.refl _ | exact LeO.none _ | refine LeO.ite ?_ ?_ | refine LeO.bind ?_ (fun _ => ?_)) | exact ih0 _ _ _ _ _ | exact ih1 _ _ _ _ _ | exact ih2 _ _ _ _ _ _ | exact LeO.none _ | refine LeO.ite ?_ ?_ | refine LeO.bind ?_ (fun _ => ?_)
def spec_PeaksAdd.T10 : Bool × List (List Nat × List Nat) := (true, [([], []), ([], []), ([1], [1]), ([2], [2]), ([0, 3], [0, 3]), ([4], [4]), ([], []), ([5, 6], [5, 6]), ([7, 7, 0, 1, 2, 3, 4, 5, 6, 7], [7])])
def spec_PeaksAdd.B10 : List Nat := [0, 0, 2, 6, 15, 31, 0, 127, 255]
theorem spec_PeaksAdd.tab10 : rtab .any (opsOf Try.f57 10) = spec_PeaksAdd.T10 := by kernel_rfl
theorem spec_PeaksAdd.bits10 : waitsOk spec_PeaksAdd.T10.2 spec_PeaksAdd.B10 = true := by kernel_rfl
set_option maxHeartbeats 8000000 in
set_option maxRecDepth 100000 in
theorem spec_PeaksAdd.calls (k : Nat) (a0 : Int) (A1 : Option Addr) (c1 : Nat) (l1 : List (S29)) (a2 : ByteArray) (r1 : List (S29)) (r2 : Bool) (w : World) (hr1 : Kd.C k29 w A1 l1.length l1) (hc1 : l1.length ≤ c1) (h : spec_PeaksAdd.f k a0 l1 a2 = some (r1, r2)) :
    Calls Try.prog 57 #[.int .i64 a0, .slice A1 l1.length c1, .string a2] w fun e w' => ∃ v0_ : Value, e = .returned (.tuple #[v0_, .bool r2]) ∧ Kd.R k29 29 w' w.heap.size (fun _ => True) v0_ r1 ∧ Below w.heap.size w w' := by
  have hu29 := Try.underlying29
  have HR1 := Aside0.mk hr1
  have HC1 := Aside0.mk hc1
  clear hr1 hc1
  have HB := Aside0.mk (Below.refl w.heap.size w)
  have H : ((some (([] : List (S29)) : List (S29))).bind fun y1247 => ((spec_l1In.f a0 0 255).bind fun t1250 => (if t1250 = true then ((spec_PeaksCount.f k a0).bind fun t1251 => (if (l1.length : Int) = t1251 then (spec_PeaksAdd.j0 k a0 l1 a2 y1247 (decide ((a2.size : Int) > 40))) else (spec_PeaksAdd.j0 k a0 l1 a2 y1247 true))) else (spec_PeaksAdd.j0 k a0 l1 a2 y1247 true)))) = some (r1, r2) := h
  clear h
  obtain ⟨y1247, hy1247⟩ : ∃ y_ : List (S29), y_ = (([] : List (S29))) := ⟨_, rfl⟩
  replace H : ((spec_l1In.f a0 0 255).bind fun t1250 => (if t1250 = true then ((spec_PeaksCount.f k a0).bind fun t1251 => (if (l1.length : Int) = t1251 then (spec_PeaksAdd.j0 k a0 l1 a2 y1247 (decide ((a2.size : Int) > 40))) else (spec_PeaksAdd.j0 k a0 l1 a2 y1247 true))) else (spec_PeaksAdd.j0 k a0 l1 a2 y1247 true))) = some (r1, r2) := by first | (rw [hy1247]; with_reducible exact H) | (have H2_ := (Option.bind_some _ _).symm.trans H; rw [hy1247]; with_reducible exact H2_) | (have H2_ := (Option.bind_some _ _).symm.trans H; with_reducible exact H2_) | with_reducible exact H | (rw [hy1247]; exact H) | exact H
  have Ny1247 := Aside0.mk hy1247
  clear hy1247
  have HC4 := Aside0.mk H
  clear H
  go_enter Try.func57, Try.ntmps57
  go_upto_region 2 with (first | ((with_reducible refine gate_dst (N := 11) rfl ?_); (try (refine gate_guard (by rfl) ?_; dsimp only)); refine Kd.R_lit k29 _ 29 ?hg (N := 11) ?hd (xs := ([] : List (S29))) (inner := []) (ok := fun _ => True) (okp := fun _ => True) ?hr ?hp (fun _ hk => hk) trivial (Below.refl _ _) (Nat.le_refl _) (by simp) ?_; (case hd => rfl); (case hg => rfl); (case hr => first | (go_simp; done) | (go_simp; rfl)); (case hp => exact (Reps.none _ _)); intro v1248 w5 ho6 hb hg_ hnew_; clear hg_ hnew_; (first | rw [← Ny1247.out] at ho6 | (simp only [Int.reduceToNat] at ho6; rw [← Ny1247.out] at ho6)); have HO1249 := Aside0.mk (Kd.R_lower ho6 (below_size bel_)); replace HB := stepB_ hb; clear hb ho6))
  (try simp only [Act.put, List.setIfInBounds_toArray, List.set_cons_zero, List.set_cons_succ])
  go_cut [26] (fun v26 wc => ∃ (kq : Nat) (x26_3 : Bool), v26 = .bool x26_3 ∧ Aside0 (spec_PeaksAdd.j0 kq a0 l1 a2 y1247 x26_3 = some (r1, r2)) ∧ Aside0 (kq ≤ k) ∧ Aside0 (Kd.R k29 29 wc w.heap.size (fun _ => True) v1248 y1247) ∧ Aside0 (Below w.heap.size w wc))
  case first =>
    have H := HC4.out
    clear HC4
    obtain ⟨t1250, A7, H⟩ := bnd_ H
    by_cases c8 : t1250 = true
    · subst c8
      rw [if_pos rfl] at H
      obtain ⟨t1251, A9, H⟩ := bnd_ H
      by_cases c10 : (l1.length : Int) = t1251
      · rw [if_pos c10] at H
        have c10b0 : ((l1.length : Int) == t1251) = true := beq_iff_eq.mpr c10
        have c10b1 : ((l1.length : Int) != t1251) = false := bne_eq_false_iff_eq.mpr c10
        clear c10
        (first | rw [c10b0] | (simp only [i64_w, i32_w]; rw [c10b0]) | skip)
        have H' := Aside0.mk H
        clear H
        go_wp2_with (first | ((with_reducible refine gate_callee (f := 109) rfl ?_); refine goL_ (some 13) Try.func109 #[.int .i64 a0, .int .i64 0, .int .i64 255] ?_; (with_reducible refine (spec_l1In.calls a0 0 255 true _ A7.out).mono ?_); rintro e w' ⟨rfl, ⟨nd, rfl⟩⟩; refine ⟨_, rfl, ?_⟩) | (go_at_call 79; (with_reducible refine (spec_PeaksCount.calls k a0 t1251 _ A9.out).mono ?_); rintro e w' ⟨rfl, ⟨nd, rfl⟩⟩))
        go_meet
        case rel => exact ⟨_, (decide ((a2.size : Int) > 40)), (by first | rfl | (simp; done) | (simp [*]; done)), H', ⟨by first | omega | exact Nat.le_refl _⟩, ⟨kdU_ HO1249.out⟩, ⟨bel_⟩⟩
      · rw [if_neg c10] at H
        have c10b0 : ((l1.length : Int) == t1251) = false := beq_eq_false_iff_ne.mpr c10
        have c10b1 : ((l1.length : Int) != t1251) = true := bne_iff_ne.mpr c10
        (first | rw [c10b0] | (simp only [i64_w, i32_w]; rw [c10b0]) | skip)
        have H' := Aside0.mk H
        clear H
        go_wp2_with (first | ((with_reducible refine gate_callee (f := 109) rfl ?_); refine goL_ (some 13) Try.func109 #[.int .i64 a0, .int .i64 0, .int .i64 255] ?_; (with_reducible refine (spec_l1In.calls a0 0 255 true _ A7.out).mono ?_); rintro e w' ⟨rfl, ⟨nd, rfl⟩⟩; refine ⟨_, rfl, ?_⟩) | (go_at_call 79; (with_reducible refine (spec_PeaksCount.calls k a0 t1251 _ A9.out).mono ?_); rintro e w' ⟨rfl, ⟨nd, rfl⟩⟩))
        go_meet
        case rel => exact ⟨_, (true), (by first | rfl | (simp; done) | (simp [*]; done)), H', ⟨by first | omega | exact Nat.le_refl _⟩, ⟨kdU_ HO1249.out⟩, ⟨bel_⟩⟩
    · replace c8 := Bool.eq_false_iff.mpr c8
      subst c8
      rw [if_neg (show ¬ (false = true) by decide)] at H
      have H' := Aside0.mk H
      clear H
      go_wp2_with (first | ((with_reducible refine gate_callee (f := 109) rfl ?_); refine goL_ (some 13) Try.func109 #[.int .i64 a0, .int .i64 0, .int .i64 255] ?_; (with_reducible refine (spec_l1In.calls a0 0 255 false _ A7.out).mono ?_); rintro e w' ⟨rfl, ⟨nd, rfl⟩⟩; refine ⟨_, rfl, ?_⟩))
      go_meet
      case rel => exact ⟨_, (true), (by first | rfl | (simp; done) | (simp [*]; done)), H', ⟨by first | omega | exact Nat.le_refl _⟩, ⟨kdU_ HO1249.out⟩, ⟨bel_⟩⟩
  case rest =>
    clear HC4
    (try clear c1); (try clear c8); (try clear c10); (try clear c10b0); (try clear c10b1)
    obtain ⟨kq, x26_3, rfl, HA, HJ3, HO_8, HB⟩ := hcut
    cases kq with
    | zero => exact absurd HA.out (by simp [spec_PeaksAdd.j0])
    | succ kj3 =>
      have H := HA.out
      clear HA
      simp only [spec_PeaksAdd.j0] at H
      by_cases c11 : x26_3 = true
      · subst c11
        rw [if_pos rfl] at H
        simp only [Option.some.injEq, Prod.mk.injEq] at H
        obtain ⟨rfl, rfl⟩ := H
        go_wp2
        go_ret2
        exact ⟨_, rfl_, by (with_reducible repeat (first | apply Kd.R_alloc | apply Kd.R_drewN | apply Kd.R_drew)); exact HO_8.out, bel_⟩
      · replace c11 := Bool.eq_false_iff.mpr c11
        subst c11
        rw [if_neg (show ¬ (false = true) by decide)] at H
        have H' := Aside0.mk H
        clear H
        go_wp2
        go_loopg [8, 9] kj3 (fun kq v8 v9 w' => ∃ (x8_2 : List (S29)) (x9_2 : Int), v9 = .int .i64 x9_2 ∧ Aside0 (spec_PeaksAdd.l0 kq a0 l1 a2 x8_2 x9_2 = some (r1, r2)) ∧ Aside0 (kq ≤ kj3) ∧ Aside0 (Kd.R k29 29 w' w.heap.size (fun _ => True) v8 x8_2) ∧ Aside0 (Below w.heap.size w w'))
        case atStart => exact ⟨(y1247), (0), (by first | rfl | (simp; done) | (simp [*]; done)), H', ⟨Nat.le_refl _⟩, ⟨kdU_ HO_8.out⟩, ⟨bel_⟩⟩
        case round =>
          clear H'
          (try clear c1); (try clear c8); (try clear c10); (try clear c10b0); (try clear c10b1); (try clear c11)
          obtain ⟨x8_2, x9_2, rfl, HA, HK2, HO_8, HB⟩ := hrel
          cases gk with
          | zero => exact absurd HA.out (by simp [spec_PeaksAdd.l0])
          | succ k2 =>
            have H := HA.out
            clear HA
            simp only [spec_PeaksAdd.l0] at H
            by_cases c12 : x9_2 < (l1.length : Int)
            · rw [if_pos c12] at H
              have c12b0 : decide (x9_2 < (l1.length : Int)) = true := decide_eq_true c12
              clear c12
              by_cases c13 : 0 ≤ x9_2
              · rw [if_pos c13] at H
                have c13b0 : decide (0 ≤ x9_2) = true := decide_eq_true c13
                clear c13
                by_cases c14 : x8_2.length < 4398046511104
                · rw [if_pos c14] at H
                  have LMc14 := Aside0.mk c14
                  clear c14
                  obtain ⟨y1253, hy1253⟩ : ∃ y_ : List (S29), y_ = (x8_2 ++ [(⟨(rd_T29 l1 x9_2).f0, (rd_T29 l1 x9_2).f1, (rd_T29 l1 x9_2).f2, (rd_T29 l1 x9_2).f3⟩ : S29)]) := ⟨_, rfl⟩
                  replace H : (spec_PeaksAdd.l0 k2 a0 l1 a2 y1253 (wrap64 (x9_2 + 1))) = some (r1, r2) := by first | (rw [hy1253]; with_reducible exact H) | (have H2_ := (Option.bind_some _ _).symm.trans H; rw [hy1253]; with_reducible exact H2_) | (have H2_ := (Option.bind_some _ _).symm.trans H; with_reducible exact H2_) | with_reducible exact H | (rw [hy1253]; exact H) | exact H
                  have Ny1253 := Aside0.mk hy1253
                  clear hy1253
                  have H' := Aside0.mk H
                  clear H
                  have p1252 : 0 ≤ (x9_2 : Int) := ofd_
                  have q1252 : x9_2 < (l1.length : Int) := ofd_
                  obtain ⟨ad1252, e1252, hx1252_0, hx1252_1, hx1252_2, hx1252_3⟩ := at_T29 HR1.out x9_2 p1252 q1252
                  cases e1252
                  replace hx1252_0 := pw_cell_below HB.out hx1252_0
                  replace hx1252_1 := pw_cell_below HB.out hx1252_1
                  replace hx1252_2 := pw_cell_below HB.out hx1252_2
                  replace hx1252_3 := pw_cell_below HB.out hx1252_3
                  replace p1252 := eq_true p1252
                  replace q1252 := eq_true q1252
                  go_wp2_with (first | ((with_reducible refine gate_builtin (b := .append) (xs := #[.tmp 34, .tmp 39]) rfl ?_); (try (refine gate_guard (by rfl) ?_; dsimp only)); at_builtin; refine Kd.R_append k29 (w0 := w) w.heap.size rfl (.tmp 34) (.tmp 39) 49 29 (.agg #[(.int .u64 0), (.int .u64 0), (.int .u64 0), (.int .u64 0)]) 32 rfl Try.underlying49 info29 rfl (by decide) (by omega) u8 x8_2 (⟨(rd_T29 l1 x9_2).f0, (rd_T29 l1 x9_2).f1, (rd_T29 l1 x9_2).f2, (rd_T29 l1 x9_2).f3⟩ : S29) [.int .u64 ((rd_T29 l1 x9_2).f0), .int .u64 ((rd_T29 l1 x9_2).f1), .int .u64 ((rd_T29 l1 x9_2).f2), .int .u64 ((rd_T29 l1 x9_2).f3)] (fun _ => True) (fun _ => False) rfl rfl ?aP (fun _ hk => hk.elim) ?aF ?aO ?aB ?aS ?aL ?_; (case aP => exact k29_mkM _ _ _ (⟨(rd_T29 l1 x9_2).f0, (rd_T29 l1 x9_2).f1, (rd_T29 l1 x9_2).f2, (rd_T29 l1 x9_2).f3⟩ : S29)); (case aB => exact bel_); (case aF => exact (fun _ _ => trivial)); (case aO => exact (kdU_ HO_8.out)); (case aS => exact (below_size bel_)); (case aL => have := LMc14.out; omega); intro v1254 w15 ho hb hg hat; rw [← Ny1253.out] at ho; replace HB := Aside0.mk (hb); have HO1255 := Aside0.mk (ho); clear HO_8; clear ho hb hg hat))
                  go_roundg k2
                  case measure => have := HJ3.out; have := HK2.out; omega
                  case rel => exact ⟨(y1253), (wrap64 (x9_2 + 1)), (by first | rfl | (simp; done) | (simp [*]; done)), H', ⟨by have := HJ3.out; have := HK2.out; omega⟩, ⟨kdU_ HO1255.out⟩, ⟨bel_⟩⟩
                · rw [if_neg c14] at H
                  exact absurd H (by simp)
              · rw [if_neg c13] at H
                exact absurd H (by simp)
            · rw [if_neg c12] at H
              have c12b0 : decide (x9_2 < (l1.length : Int)) = false := decide_eq_false c12
              clear c12
              obtain ⟨⟨t1256, t1257, t1258, t1259⟩, A16, H⟩ := bnd_ H
              dsimp only at H
              have H' := Aside0.mk H
              clear H
              go_wp2_with (first | ((with_reducible refine gate_callee (f := 102) rfl ?_); refine goL_ (some 42) Try.func102 #[.string a2] ?_; (with_reducible refine (spec_HashLeaf.calls k2 a2 t1256 t1257 t1258 t1259 _ A16.out).mono ?_); rintro e w17 ⟨rfl, hb⟩; refine ⟨_, rfl, ?_⟩; replace HO_8 := Aside0.mk (Kd.R_below (kdU_ HO_8.out) hb); replace HB := stepB_ hb; (try clear hb); (try clear hk)) | ((with_reducible refine gate_dst (N := 10) rfl ?_); (try (refine gate_guard (by rfl) ?_; dsimp only)); refine boxE_ (cs := #[.int .u64 0, .int .u64 0, .int .u64 0, .int .u64 0]) (t := 29) ?_; intro gb1260 hg w18 hbox hb; replace HO_8 := Aside0.mk (Kd.R_below (Kd.R_elderB (kdU_ HO_8.out) gb1260 (Nat.le_of_eq hg.symm)) hb); have BK1260 := Aside0.mk (hbox); have GW1260 := sizeB_ hg; have GE1260 := sizeB_ hg; replace HB := stepB_ hb; clear hb hbox hg; obtain ⟨hcz19_0, hcz19_1, hcz19_2, hcz19_3, hfz19_0, hfz19_1, hfz19_2, hfz19_3⟩ := cz4_ BK1260.out))
              go_loopg [0, 8] k2 (fun kq v0 v8 w' => ∃ (x0_3 : Int) (x8_3 : List (S29)) (x1261000_3 : Int) (x1261001_3 : Int) (x1261002_3 : Int) (x1261003_3 : Int), v0 = .int .i64 x0_3 ∧ Aside0 (spec_PeaksAdd.l1 kq x0_3 x8_3 x1261000_3 x1261001_3 x1261002_3 x1261003_3 = some (r1, r2)) ∧ Aside0 (kq ≤ k2) ∧ Aside0 (Kd.R k29 29 w' w.heap.size (fun k_ => k_ ≠ gb1260) v8 x8_3) ∧ Aside0 (w'.heap[gb1260]? = some (.cells #[.int .u64 x1261000_3, .int .u64 x1261001_3, .int .u64 x1261002_3, .int .u64 x1261003_3] 29 (0, 0))) ∧ Aside0 (Below w.heap.size w w'))
              case atStart => exact ⟨(a0), (x8_2), (t1256), (t1257), (t1258), (t1259), (by first | rfl | (simp; done) | (simp [*]; done)), H', ⟨Nat.le_refl _⟩, ⟨by (with_reducible repeat (first | apply Kd.R_alloc | apply Kd.R_drewN | apply Kd.R_drew)); exact Kd.R_mono (Kd.R_far (p := ⟨gb1260, 3, none⟩) (Kd.R_far (p := ⟨gb1260, 2, none⟩) (Kd.R_far (p := ⟨gb1260, 1, none⟩) (Kd.R_far (p := ⟨gb1260, 0, none⟩) (Kd.R_mono HO_8.out (fun k_ hk => (⟨hk, hk.2⟩ : _ ∧ k_ ≠ gb1260))) (fun _ hk => hk.2) (.int .u64 t1256)) (fun _ hk => hk.2) (.int .u64 t1257)) (fun _ hk => hk.2) (.int .u64 t1258)) (fun _ hk => hk.2) (.int .u64 t1259)) (fun _ hk => hk.1.2)⟩, ⟨blkF_ BK1260.out⟩, ⟨bel_⟩⟩
              case round =>
                clear H'
                (try clear c1); (try clear c8); (try clear c10); (try clear c10b0); (try clear c10b1); (try clear c11); (try clear c12); (try clear c12b0); (try clear c13); (try clear c13b0); (try clear c14); (try clear hcz19_0); (try clear hcz19_1); (try clear hcz19_2); (try clear hcz19_3); (try clear hfz19_0); (try clear hfz19_1); (try clear hfz19_2); (try clear hfz19_3); (try clear hx1252_0); (try clear hx1252_1); (try clear hx1252_2); (try clear hx1252_3); (try clear p1252); (try clear q1252)
                obtain ⟨x0_3, x8_3, x1261000_3, x1261001_3, x1261002_3, x1261003_3, rfl, HA, HK3, HO_8, BK1260, HB⟩ := hrel
                cases gk with
                | zero => exact absurd HA.out (by simp [spec_PeaksAdd.l1])
                | succ k3 =>
                  have H := HA.out
                  clear HA
                  simp only [spec_PeaksAdd.l1] at H
                  by_cases c20 : (Int.tmod x0_3 2) = 1
                  · rw [if_pos c20] at H
                    have c20b0 : ((Int.tmod x0_3 2) == 1) = true := beq_iff_eq.mpr c20
                    have c20b1 : ((Int.tmod x0_3 2) != 1) = false := bne_eq_false_iff_eq.mpr c20
                    clear c20
                    obtain ⟨ji21, hji21⟩ : ∃ j_ : Int, (wrap64 ((x8_3.length : Int) - 1)) = j_ := ⟨_, rfl⟩
                    replace H : (if 0 ≤ (ji21) then (if (ji21) < (x8_3.length : Int) then ((spec_HashPair.f k3 ((rd_T29 x8_3 (ji21)).f0) ((rd_T29 x8_3 (ji21)).f1) ((rd_T29 x8_3 (ji21)).f2) ((rd_T29 x8_3 (ji21)).f3) x1261000_3 x1261001_3 x1261002_3 x1261003_3).bind fun bt1262 => (if (ji21) ≤ (x8_3.length : Int) then (spec_PeaksAdd.l1 k3 (wrap64 (Int.tdiv x0_3 2)) (x8_3.take ((ji21) : Int).toNat) bt1262.1 bt1262.2.1 bt1262.2.2.1 bt1262.2.2.2) else (none))) else (none)) else (none)) = some (r1, r2) := by first | (rw [hji21] at H; exact H) | (simp only [hji21] at H ⊢; exact H)
                    have hji21w : (IntKind.i64.wrap ((x8_3.length : Int) - 1)) = ji21 := (i64_w _).trans hji21
                    by_cases c22 : 0 ≤ (ji21)
                    · rw [if_pos c22] at H
                      have c22b0 : decide (0 ≤ (ji21)) = true := decide_eq_true c22
                      clear c22
                      by_cases c23 : (ji21) < (x8_3.length : Int)
                      · rw [if_pos c23] at H
                        have c23b0 : decide ((ji21) < (x8_3.length : Int)) = true := decide_eq_true c23
                        clear c23
                        obtain ⟨⟨t1262, t1263, t1264, t1265⟩, A24, H⟩ := bnd_ H
                        dsimp only at H
                        by_cases c25 : (ji21) ≤ (x8_3.length : Int)
                        · rw [if_pos c25] at H
                          have c25b0 := eq_true c25
                          have c25b1 : decide ((ji21) ≤ (x8_3.length : Int)) = true := decide_eq_true c25
                          clear c25
                          obtain ⟨y1266, hy1266⟩ : ∃ y_ : List (S29), y_ = (x8_3.take ((ji21) : Int).toNat) := ⟨_, rfl⟩
                          replace H : (spec_PeaksAdd.l1 k3 (wrap64 (Int.tdiv x0_3 2)) y1266 t1262 t1263 t1264 t1265) = some (r1, r2) := by first | (rw [hy1266]; with_reducible exact H) | (have H2_ := (Option.bind_some _ _).symm.trans H; rw [hy1266]; with_reducible exact H2_) | (have H2_ := (Option.bind_some _ _).symm.trans H; with_reducible exact H2_) | with_reducible exact H | (rw [hy1266]; exact H) | exact H
                          have Ny1266 := Aside0.mk hy1266
                          clear hy1266
                          have H' := Aside0.mk H
                          clear H
                          try go_wp2
                          replace HO_8 := Aside0.mk (Kd.R_drew HO_8.out)
                          replace BK1260 := Aside0.mk (blk_drew BK1260.out)
                          replace HB := Aside0.mk (below_drew1 HB.out)
                          obtain ⟨Ao27, co27, eo27⟩ := Kd.R_slice HO_8.out
                          (first | subst eo27 | (injection eo27 with f1_ f2_ f3_; have f4_ := f1_.symm; have f5_ := f3_.symm; clear f1_ f2_ f3_; subst f4_; subst f5_))
                          have p1261 : 0 ≤ ((ji21) : Int) := ofd_
                          have q1261 : (ji21) < (x8_3.length : Int) := ofd_
                          obtain ⟨ad1261, e1261, hx1261_0, hx1261_1, hx1261_2, hx1261_3⟩ := at_T29 (Kd.R_reads' HO_8.out).2.2 (ji21) p1261 q1261
                          cases e1261
                          replace p1261 := eq_true p1261
                          replace q1261 := eq_true q1261
                          refine start_ (n := 9) (S := fun w' => w'.cell? ⟨gb1260, 0, none⟩ = some (.int .u64 x1261000_3) ∧ w'.cell? ⟨gb1260, 1, none⟩ = some (.int .u64 x1261001_3) ∧ w'.cell? ⟨gb1260, 2, none⟩ = some (.int .u64 x1261002_3) ∧ w'.cell? ⟨gb1260, 3, none⟩ = some (.int .u64 x1261003_3) ∧ w'.cell? (ad1261.add (((ji21)).toNat * 4)) = some (.int .u64 ((rd_T29 x8_3 (ji21)).f0)) ∧ w'.cell? ⟨(ad1261.add (((ji21)).toNat * 4)).block, (ad1261.add (((ji21)).toNat * 4)).off + 1, none⟩ = some (.int .u64 ((rd_T29 x8_3 (ji21)).f1)) ∧ w'.cell? ⟨(ad1261.add (((ji21)).toNat * 4)).block, (ad1261.add (((ji21)).toNat * 4)).off + 2, none⟩ = some (.int .u64 ((rd_T29 x8_3 (ji21)).f2)) ∧ w'.cell? ⟨(ad1261.add (((ji21)).toNat * 4)).block, (ad1261.add (((ji21)).toNat * 4)).off + 3, none⟩ = some (.int .u64 ((rd_T29 x8_3 (ji21)).f3))) (ds := [8]) #[false, false, false, false, false, false, false, false, false] (by kernel_rfl) rfl rfl ⟨(blk_cell BK1260.out 0).trans rfl, (blk_cell BK1260.out 1).trans rfl, (blk_cell BK1260.out 2).trans rfl, (blk_cell BK1260.out 3).trans rfl, hx1261_0, hx1261_1, hx1261_2, hx1261_3⟩ (fun hHeld => ?_); refine with_tabW spec_PeaksAdd.tab10 spec_PeaksAdd.bits10 (fun HT_ HW_ => ?_)
                          generalize wr.drew = w26 at HO_8 BK1260 HB hx1261_0 hx1261_1 hx1261_2 hx1261_3 hHeld ⊢
                          refine pureP_ 0 (some 46) #[true, false, false, false, false, false, false, false, false] HT_ ?_
                          refine pureP_ 1 (some 47) #[true, true, false, false, false, false, false, false, false] HT_ ?_
                          refine pureP_ 2 (some 48) #[true, true, true, false, false, false, false, false, false] HT_ ?_
                          refine pureP_ 3 (some 49) #[true, true, true, true, false, false, false, false, false] HT_ ?_
                          refine pureP_ 4 (some 50) #[true, true, true, true, true, false, false, false, false] HT_ ?_
                          refine takeP_ 5 (some 51) #[true, true, true, true, true, true, false, false, false] HT_ HW_ hHeld ?_
                          refine takeP_ 6 (some 52) #[true, true, true, true, true, true, true, false, false] HT_ HW_ hHeld ?_
                          refine oneP_ 7 (some 53) #[true, true, true, true, true, true, true, true, false] HT_ (fun K hK => ?_)
                          refine goes_ Try.func112 (by kernel_rfl) rfl #[.agg #[.int .u64 ((rd_T29 x8_3 (ji21)).f0), .int .u64 ((rd_T29 x8_3 (ji21)).f1), .int .u64 ((rd_T29 x8_3 (ji21)).f2), .int .u64 ((rd_T29 x8_3 (ji21)).f3)], .agg #[.int .u64 x1261000_3, .int .u64 x1261001_3, .int .u64 x1261002_3, .int .u64 x1261003_3]] (by rfl) rfl rfl (by (try simp only [List.map_toArray, List.map_cons, List.map_nil]); first | done | (simp only [hji21]; rfl) | rfl | (simp only [List.length_drop, List.length_take]; rfl)) ?_
                          with_reducible refine (spec_HashPair.calls k3 ((rd_T29 x8_3 (ji21)).f0) ((rd_T29 x8_3 (ji21)).f1) ((rd_T29 x8_3 (ji21)).f2) ((rd_T29 x8_3 (ji21)).f3) x1261000_3 x1261001_3 x1261002_3 x1261003_3 t1262 t1263 t1264 t1265 _ A24.out).mono ?_
                          rintro e w28 ⟨rfl, hb⟩
                          have HS4_ := (hb.cell (World.block_lt_of_cell? _ _ (hHeld.2.2.2.2.1))).trans (hHeld.2.2.2.2.1)
                          have HS5_ := (hb.cell (World.block_lt_of_cell? _ _ (hHeld.2.2.2.2.2.1))).trans (hHeld.2.2.2.2.2.1)
                          have HS6_ := (hb.cell (World.block_lt_of_cell? _ _ (hHeld.2.2.2.2.2.2.1))).trans (hHeld.2.2.2.2.2.2.1)
                          have HS7_ := (hb.cell (World.block_lt_of_cell? _ _ (hHeld.2.2.2.2.2.2.2))).trans (hHeld.2.2.2.2.2.2.2)
                          refine ⟨_, rfl, ?_⟩
                          replace HO_8 := Aside0.mk (Kd.R_below (kdU_ HO_8.out) hb)
                          replace BK1260 := blkBel_ BK1260.out hb
                          replace HB := stepB_ hb
                          (try clear hb); (try clear hk)
                          refine hK.out _ _ ⟨(blk_cell BK1260.out 0).trans rfl, (blk_cell BK1260.out 1).trans rfl, (blk_cell BK1260.out 2).trans rfl, (blk_cell BK1260.out 3).trans rfl, HS4_, HS5_, HS6_, HS7_⟩ (fun hHeld => ?_)
                          clear hK K
                          refine norm_ (a' := ?_) ?_ ?_
                          rotate_left
                          · show Act.put _ (some 53) _ = _
                            simp only [Act.put, List.setIfInBounds_toArray, List.set_cons_zero, List.set_cons_succ, i64_w, i32_w]
                            rfl
                          refine last_ (i := 8) (N := none) #[true, true, true, true, true, true, true, true, true] rfl rfl (one_of HT_.out (by kernel_rfl)) (by decide) (fun K hK => ?_)
                          have hs29 : w28.cell? ⟨gb1260, 0, none⟩ = some (.int .u64 x1261000_3) := (blk_cell BK1260.out 0).trans rfl
                          have hfs29 := blk_frozen BK1260.out 0
                          have hs30 : w28.cell? ⟨gb1260, 1, none⟩ = some (.int .u64 x1261001_3) := (blk_cell BK1260.out 1).trans rfl
                          have hfs30 := blk_frozen BK1260.out 1
                          have hs31 : w28.cell? ⟨gb1260, 2, none⟩ = some (.int .u64 x1261002_3) := (blk_cell BK1260.out 2).trans rfl
                          have hfs31 := blk_frozen BK1260.out 2
                          have hs32 : w28.cell? ⟨gb1260, 3, none⟩ = some (.int .u64 x1261003_3) := (blk_cell BK1260.out 3).trans rfl
                          have hfs32 := blk_frozen BK1260.out 3
                          refine skip_ (w1 := ?_) (by rfl) rfl ?_ ?_
                          rotate_left
                          · go_simp
                            rfl
                          refine hK.out _ _ ?_
                          clear hK K
                          refine done_ (done_of HT_.out (by kernel_rfl)) ?_
                          have n0_ : Aside0 (Kd.R k29 29 ((((w28.setCell ⟨gb1260, 0, none⟩ (.int .u64 t1262)).setCell ⟨gb1260, 1, none⟩ (.int .u64 t1263)).setCell ⟨gb1260, 2, none⟩ (.int .u64 t1264)).setCell ⟨gb1260, 3, none⟩ (.int .u64 t1265)) w.heap.size (fun k_ => k_ ≠ gb1260) (.slice (some ad1261) x8_3.length co27) x8_3) := ⟨by (with_reducible repeat (first | apply Kd.R_alloc | apply Kd.R_drewN | apply Kd.R_drew)); exact Kd.R_mono (Kd.R_far (p := ⟨gb1260, 3, none⟩) (Kd.R_far (p := ⟨gb1260, 2, none⟩) (Kd.R_far (p := ⟨gb1260, 1, none⟩) (Kd.R_far (p := ⟨gb1260, 0, none⟩) (Kd.R_mono HO_8.out (fun k_ hk => (⟨hk, hk⟩ : _ ∧ k_ ≠ gb1260))) (fun _ hk => hk.2) (.int .u64 t1262)) (fun _ hk => hk.2) (.int .u64 t1263)) (fun _ hk => hk.2) (.int .u64 t1264)) (fun _ hk => hk.2) (.int .u64 t1265)) (fun _ hk => hk.1)⟩
                          have n1_ : Aside0 (((((w28.setCell ⟨gb1260, 0, none⟩ (.int .u64 t1262)).setCell ⟨gb1260, 1, none⟩ (.int .u64 t1263)).setCell ⟨gb1260, 2, none⟩ (.int .u64 t1264)).setCell ⟨gb1260, 3, none⟩ (.int .u64 t1265)).heap[gb1260]? = some (.cells #[.int .u64 t1262, .int .u64 t1263, .int .u64 t1264, .int .u64 t1265] 29 (0, 0))) := ⟨blkF_ BK1260.out⟩
                          have n2_ : Aside0 (Below w.heap.size w ((((w28.setCell ⟨gb1260, 0, none⟩ (.int .u64 t1262)).setCell ⟨gb1260, 1, none⟩ (.int .u64 t1263)).setCell ⟨gb1260, 2, none⟩ (.int .u64 t1264)).setCell ⟨gb1260, 3, none⟩ (.int .u64 t1265))) := ⟨bel_⟩
                          (try clear HO_8); (try clear BK1260); (try clear HB)
                          generalize ((((w28.setCell ⟨gb1260, 0, none⟩ (.int .u64 t1262)).setCell ⟨gb1260, 1, none⟩ (.int .u64 t1263)).setCell ⟨gb1260, 2, none⟩ (.int .u64 t1264)).setCell ⟨gb1260, 3, none⟩ (.int .u64 t1265)) = w33 at n0_ n1_ n2_ ⊢
                          have HO_8 := n0_
                          have BK1260 := n1_
                          have HB := n2_
                          clear n0_ n1_ n2_
                          have q34 : ((ji21) : Int) ≤ ((x8_3.length : Int) : Int) := ofd_
                          obtain ⟨i034, hi034, _, hsz34, _⟩ := info_parts info29
                          have hcut34 := cut_to (P := Try.prog) 49 29 .i64 Try.underlying49 hi034 (some ad1261) x8_3.length co27 (ji21) (ofd_) q34 (Kd.R_reads' HO_8.out).2.1
                          have hr34 := Kd.R_take (m := ((ji21) : Int).toNat) HO_8.out (by omega)
                          have hy34 : y1266.length = ((ji21) : Int).toNat := (by rw [Ny1266.out, List.length_take]; omega)
                          rw [← Ny1266.out] at hr34
                          rw [← hy34] at hr34 hcut34
                          clear hy34 hi034 hsz34 HO_8
                          have HO1268 := Aside0.mk hr34
                          clear hr34
                          replace q34 := eq_true q34
                          try go_wp2
                          go_roundg k3
                          case measure => have := HJ3.out; have := HK2.out; have := HK3.out; omega
                          case rel => exact ⟨(wrap64 (Int.tdiv x0_3 2)), (y1266), (t1262), (t1263), (t1264), (t1265), (by first | rfl | (simp; done) | (simp [*]; done)), H', ⟨by have := HJ3.out; have := HK2.out; have := HK3.out; omega⟩, ⟨kdU_ HO1268.out⟩, ⟨blkU_ BK1260.out⟩, ⟨bel_⟩⟩
                        · rw [if_neg c25] at H
                          exact absurd H (by simp)
                      · rw [if_neg c23] at H
                        exact absurd H (by simp)
                    · rw [if_neg c22] at H
                      exact absurd H (by simp)
                  · rw [if_neg c20] at H
                    have c20b0 : ((Int.tmod x0_3 2) == 1) = false := beq_eq_false_iff_ne.mpr c20
                    have c20b1 : ((Int.tmod x0_3 2) != 1) = true := bne_iff_ne.mpr c20
                    by_cases c35 : x8_3.length < 4398046511104
                    · rw [if_pos c35] at H
                      have LMc35 := Aside0.mk c35
                      clear c35
                      obtain ⟨y1269, hy1269⟩ : ∃ y_ : List (S29), y_ = (x8_3 ++ [(⟨x1261000_3, x1261001_3, x1261002_3, x1261003_3⟩ : S29)]) := ⟨_, rfl⟩
                      replace H : (some (y1269, true)) = some (r1, r2) := by first | (rw [hy1269]; with_reducible exact H) | (have H2_ := (Option.bind_some _ _).symm.trans H; rw [hy1269]; with_reducible exact H2_) | (have H2_ := (Option.bind_some _ _).symm.trans H; with_reducible exact H2_) | with_reducible exact H | (rw [hy1269]; exact H) | exact H
                      have Ny1269 := Aside0.mk hy1269
                      clear hy1269
                      simp only [Option.some.injEq, Prod.mk.injEq] at H
                      obtain ⟨rfl, rfl⟩ := H
                      obtain ⟨hcz36_0, hcz36_1, hcz36_2, hcz36_3, hfz36_0, hfz36_1, hfz36_2, hfz36_3⟩ := cz4_ BK1260.out
                      go_wp2_with (first | ((with_reducible refine gate_builtin (b := .append) (xs := #[.tmp 61, .tmp 63]) rfl ?_); (try (refine gate_guard (by rfl) ?_; dsimp only)); at_builtin; refine Kd.R_append k29 (w0 := w) w.heap.size rfl (.tmp 61) (.tmp 63) 49 29 (.agg #[(.int .u64 0), (.int .u64 0), (.int .u64 0), (.int .u64 0)]) 32 rfl Try.underlying49 info29 rfl (by decide) (by omega) u8 x8_3 (⟨x1261000_3, x1261001_3, x1261002_3, x1261003_3⟩ : S29) [.int .u64 x1261000_3, .int .u64 x1261001_3, .int .u64 x1261002_3, .int .u64 x1261003_3] (fun k_ => k_ ≠ gb1260) (fun _ => False) rfl rfl ?aP (fun _ hk => hk.elim) ?aF ?aO ?aB ?aS ?aL ?_; (case aP => exact k29_mkM _ _ _ (⟨x1261000_3, x1261001_3, x1261002_3, x1261003_3⟩ : S29)); (case aB => exact bel_); (case aF => exact (fun k_ hk => Kd.freshB (g := gb1260) (o := .cells #[.int .u64 x1261000_3, .int .u64 x1261001_3, .int .u64 x1261002_3, .int .u64 x1261003_3] 29 (0, 0)) (blkU_ BK1260.out) k_ hk)); (case aO => exact (kdU_ HO_8.out)); (case aS => exact (below_size bel_)); (case aL => have := LMc35.out; omega); intro v1270 w37 ho hb hg hat; rw [← Ny1269.out] at ho; replace BK1260 := Aside0.mk (blk_grown (g := gb1260) (o := .cells #[.int .u64 x1261000_3, .int .u64 x1261001_3, .int .u64 x1261002_3, .int .u64 x1261003_3] 29 (0, 0)) (blkU_ BK1260.out) hg (Kd.R_away HO_8.out (fun _ hk => hk))); replace HB := Aside0.mk (hb); have HO1271 := Aside0.mk (ho); clear HO_8; clear ho hb hg hat))
                      go_ret2
                      exact ⟨_, rfl_, by (with_reducible repeat (first | apply Kd.R_alloc | apply Kd.R_drewN | apply Kd.R_drew)); exact Kd.R_mono HO1271.out (fun _ hk => trivial), bel_⟩
                    · rw [if_neg c35] at H
                      exact absurd H (by simp)

end
end Go.Proofs.Ytemfciflhbhobaa.B
