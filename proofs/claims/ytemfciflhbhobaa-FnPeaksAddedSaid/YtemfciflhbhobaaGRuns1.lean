/- What the Go functions loop.example/belfry/spec.l2Half, loop.example/belfry/spec.TreePeaks, loop.example/belfry/impl.TreePeaks do is what the Lean functions .f of their names here say; condition: .f gives an answer. (Written by the session's program pp.py over the kit's print; Lean checks it.) -/
import Derived.Test.YtemfciflhbhobaaK
import Derived.Test.YtemfciflhbhobaaM
import Derived.Test.YtemfciflhbhobaaGTree1
import Derived.Test.YtemfciflhbhobaaHCopiedD
namespace Go.Proofs.Ytemfciflhbhobaa.B
open Go.RowKit Go.Proofs.YtemfciflhbhobaaW.PrintWords Go.Proofs.YtemfciflhbhobaaW.PrintLast Go.Proofs.YtemfciflhbhobaaW.PrintMore
attribute [local go_sem] max2_int min2_int max_two min_two max_three min_three max_four min_four   -- for this text's walks alone
set_option linter.unusedVariables false
set_option linter.unusedSimpArgs false

section
/-! ### spec_l2Half: function 114 -/
def spec_l2Half.l0 : Nat → Int → Int → Option (Int)
  | 0, _, _ => none
  | k + 1, x0, x3 => if (wrap64 (2 * x3)) ≤ x0 then (spec_l2Half.l0 k x0 (wrap64 (2 * x3))) else (some x3)
def spec_l2Half.f (k : Nat) (a0 : Int) : Option (Int) := spec_l2Half.l0 k a0 1
theorem spec_l2Half.mono_l : ∀ k, (∀ y0 y1, LeO (spec_l2Half.l0 k y0 y1) (spec_l2Half.l0 (k + 1) y0 y1))
  | 0 => fun _ _ r h => by simp [spec_l2Half.l0] at h
  | k + 1 => by
    have ih0 := spec_l2Half.mono_l k
    · intro y0 y1
      unfold spec_l2Half.l0
      repeat' first | (with_reducible first | exact ih0 _ _ | exact LeO.refl _ | exact LeO.none _ | refine LeO.ite ?_ ?_ | refine LeO.bind ?_ (fun _ => ?_)) | exact ih0 _ _ | exact LeO.none _ | refine LeO.ite ?_ ?_ | refine LeO.bind ?_ (fun _ => ?_)
theorem spec_l2Half.mono : ∀ a0 k, LeO (spec_l2Half.f k a0) (spec_l2Half.f (k + 1) a0) := by
  intro a0 k
  have ih0 := spec_l2Half.mono_l k
  unfold spec_l2Half.f
  repeat' first | (with_reducible first | exact ih0 _ _ | exact LeO.refl _ | exact LeO.none _ | refine LeO.ite ?_ ?_ | refine LeO.bind ?_ (fun _ => ?_)) | exact ih0 _ _ | exact LeO.none _ | refine LeO.ite ?_ ?_ | refine LeO.bind ?_ (fun _ => ?_)
set_option maxHeartbeats 8000000 in
set_option maxRecDepth 100000 in
theorem spec_l2Half.calls (k : Nat) (a0 : Int) (r : Int) (w : World) (h : spec_l2Half.f k a0 = some r) :
    Calls Try.prog 114 #[.int .i64 a0] w fun e w' => e = .returned (.int .i64 r) ∧ Drawn0 w w' := by
  have H : (spec_l2Half.l0 k a0 1) = some r := h
  clear h
  have H' := Aside0.mk H
  clear H
  go_enter Try.func114, Try.ntmps114
  go_wp2
  go_loopg [3] k (fun kq v3 w' => ∃ (x3_1 : Int), v3 = .int .i64 x3_1 ∧ Aside0 (spec_l2Half.l0 kq a0 x3_1 = some r) ∧ Aside0 (kq ≤ k) ∧ Drawn0 w w')
  case atStart => exact ⟨(1), (by first | rfl | (simp; done) | (simp [*]; done)), H', ⟨Nat.le_refl _⟩, by repeat (first | exact Drawn0.refl _ | apply Drawn0.step)⟩
  case round =>
    clear H'
    obtain ⟨x3_1, rfl, HA, HK1, ⟨m1, rfl⟩⟩ := hrel
    cases gk with
    | zero => exact absurd HA.out (by simp [spec_l2Half.l0])
    | succ k1 =>
      have H := HA.out
      clear HA
      simp only [spec_l2Half.l0] at H
      by_cases c2 : (wrap64 (2 * x3_1)) ≤ a0
      · rw [if_pos c2] at H
        have c2b0 : decide ((wrap64 (2 * x3_1)) ≤ a0) = true := decide_eq_true c2
        clear c2
        have H' := Aside0.mk H
        clear H
        go_wp2
        go_roundg k1
        case measure => have := HK1.out; omega
        case rel => exact ⟨(wrap64 (2 * x3_1)), (by first | rfl | (simp; done) | (simp [*]; done)), H', ⟨by have := HK1.out; omega⟩, by repeat (first | exact Drawn0.refl _ | apply Drawn0.step)⟩
      · rw [if_neg c2] at H
        have c2b0 : decide ((wrap64 (2 * x3_1)) ≤ a0) = false := decide_eq_false c2
        clear c2
        obtain rfl := Option.some.inj H
        go_wp2
        go_ret
        exact ⟨by first | rfl | (simp; done) | (simp [*]; done), by repeat (first | exact Drawn0.refl _ | apply Drawn0.step)⟩

end
section
/-! ### spec_TreePeaks: function 63 -/
def spec_TreePeaks.l0 : Nat → List ByteArray → List (S29) → Int → Option ((List (S29)))
  | 0, _, _, _ => none
  | k + 1, x0, x3, x4 => if x4 < (x0.length : Int) then ((spec_l2Half.f k (wrap64 ((x0.length : Int) - x4))).bind fun t1373 => (if 0 ≤ x4 then (if x4 ≤ (wrap64 (x4 + t1373)) then (if (wrap64 (x4 + t1373)) ≤ (x0.length : Int) then ((spec_l2Root.f k ((x0.take ((wrap64 (x4 + t1373)) : Int).toNat).drop (x4 : Int).toNat)).bind fun bt1375 => (if x3.length < 4398046511104 then (spec_TreePeaks.l0 k x0 (x3 ++ [(⟨bt1375.1, bt1375.2.1, bt1375.2.2.1, bt1375.2.2.2⟩ : S29)]) (wrap64 (x4 + t1373))) else (none))) else (none)) else (none)) else (none))) else (some x3)
def spec_TreePeaks.f (k : Nat) (l0 : List ByteArray) : Option ((List (S29))) := (some (([] : List (S29)) : List (S29))).bind fun y1369 => ((spec_LeavesOk.f k l0).bind fun t1372 => (if t1372 = true then (spec_TreePeaks.l0 k l0 y1369 0) else (some y1369)))
theorem spec_TreePeaks.mono_l : ∀ k, (∀ y0 y1 y2, LeO (spec_TreePeaks.l0 k y0 y1 y2) (spec_TreePeaks.l0 (k + 1) y0 y1 y2))
  | 0 => fun _ _ _ r h => by simp [spec_TreePeaks.l0] at h
  | k + 1 => by
    have ih0 := spec_TreePeaks.mono_l k
    · intro y0 y1 y2
      unfold spec_TreePeaks.l0
      repeat' first | (with_reducible first | exact ih0 _ _ _ | exact spec_LeavesOk.mono _ _ | exact spec_l2Half.mono _ _ | exact spec_l2Root.mono _ _ | exact LeO.refl _ | exact LeO.none _ | refine LeO.ite ?_ ?_ | refine LeO.bind ?_ (fun _ => ?_)) | exact ih0 _ _ _ | exact LeO.none _ | refine LeO.ite ?_ ?_ | refine LeO.bind ?_ (fun _ => ?_)
theorem spec_TreePeaks.mono : ∀ a0 k, LeO (spec_TreePeaks.f k a0) (spec_TreePeaks.f (k + 1) a0) := by
  intro a0 k
  have ih0 := spec_TreePeaks.mono_l k
  unfold spec_TreePeaks.f
  repeat' first | (with_reducible first | exact ih0 _ _ _ | exact spec_LeavesOk.mono _ _ | exact spec_l2Half.mono _ _ | exact spec_l2Root.mono _ _ | exact LeO.refl _ | exact LeO.none _ | refine LeO.ite ?_ ?_ | refine LeO.bind ?_ (fun _ => ?_)) | exact ih0 _ _ _ | exact LeO.none _ | refine LeO.ite ?_ ?_ | refine LeO.bind ?_ (fun _ => ?_)
set_option maxHeartbeats 8000000 in
set_option maxRecDepth 100000 in
theorem spec_TreePeaks.calls (k : Nat) (A0 : Option Addr) (c0 : Nat) (l0 : List ByteArray) (r : List (S29)) (w : World) (hr0 : Kd.C Kd.string w A0 l0.length l0) (hc0 : l0.length ≤ c0) (h : spec_TreePeaks.f k l0 = some r) :
    Calls Try.prog 63 #[.slice A0 l0.length c0] w fun e w' => ∃ v0_ : Value, e = .returned (v0_) ∧ Kd.R k29 29 w' w.heap.size (fun _ => True) v0_ r ∧ Below w.heap.size w w' := by
  have HR0 := Aside0.mk hr0
  have HC0 := Aside0.mk hc0
  clear hr0 hc0
  have HB := Aside0.mk (Below.refl w.heap.size w)
  have H : ((some (([] : List (S29)) : List (S29))).bind fun y1369 => ((spec_LeavesOk.f k l0).bind fun t1372 => (if t1372 = true then (spec_TreePeaks.l0 k l0 y1369 0) else (some y1369)))) = some r := h
  clear h
  obtain ⟨y1369, hy1369⟩ : ∃ y_ : List (S29), y_ = (([] : List (S29))) := ⟨_, rfl⟩
  replace H : ((spec_LeavesOk.f k l0).bind fun t1372 => (if t1372 = true then (spec_TreePeaks.l0 k l0 y1369 0) else (some y1369))) = some r := by first | (rw [hy1369]; with_reducible exact H) | (have H2_ := (Option.bind_some _ _).symm.trans H; rw [hy1369]; with_reducible exact H2_) | (have H2_ := (Option.bind_some _ _).symm.trans H; with_reducible exact H2_) | with_reducible exact H | (rw [hy1369]; exact H) | exact H
  have Ny1369 := Aside0.mk hy1369
  clear hy1369
  obtain ⟨t1372, A2, H⟩ := bnd_ H
  by_cases c3 : t1372 = true
  · subst c3
    rw [if_pos rfl] at H
    have H' := Aside0.mk H
    clear H
    go_enter Try.func63, Try.ntmps63
    go_wp2_with (first | ((with_reducible refine gate_dst (N := 6) rfl ?_); refine Kd.R_lit k29 _ 29 ?hg (N := 6) ?hd (xs := ([] : List (S29))) (inner := []) (ok := fun _ => True) (okp := fun _ => True) ?hr ?hp (fun _ hk => hk) trivial (Below.refl _ _) (Nat.le_refl _) (by simp) ?_; (case hd => rfl); (case hg => rfl); (case hr => first | (go_simp; done) | (go_simp; rfl)); (case hp => exact (Reps.none _ _)); intro v1370 w4 ho5 hb hg_ hnew_; clear hg_ hnew_; (first | rw [← Ny1369.out] at ho5 | (simp only [Int.reduceToNat] at ho5; rw [← Ny1369.out] at ho5)); have HO1371 := Aside0.mk (Kd.R_lower ho5 (below_size bel_)); replace HB := stepB_ hb; clear hb ho5) | ((with_reducible refine gate_callee (f := 53) rfl ?_); refine goL_ (some 8) Try.func53 #[.slice A0 l0.length c0] ?_; (with_reducible refine (spec_LeavesOk.calls k _ _ l0 true _ ?side1 ?side2 A2.out).mono ?_); (case side1 => repeat (first | exact (Kd.C_below HR0.out HB.out) | (with_reducible refine Kd.C_alloc ?_ _) | (with_reducible refine Kd.C_drewN ?_ _) | (with_reducible refine Kd.C_drew ?_))); (case side2 => exact HC0.out); rintro e w' ⟨rfl, ⟨nd, rfl⟩⟩; refine ⟨_, rfl, ?_⟩))
    go_loopg [3, 4] k (fun kq v3 v4 w' => ∃ (x3_1 : List (S29)) (x4_1 : Int), v4 = .int .i64 x4_1 ∧ Aside0 (spec_TreePeaks.l0 kq l0 x3_1 x4_1 = some r) ∧ Aside0 (kq ≤ k) ∧ Aside0 (Kd.R k29 29 w' w.heap.size (fun _ => True) v3 x3_1) ∧ Aside0 (Below w.heap.size w w'))
    case atStart => exact ⟨(y1369), (0), (by first | rfl | (simp; done) | (simp [*]; done)), H', ⟨Nat.le_refl _⟩, ⟨kdU_ HO1371.out⟩, ⟨bel_⟩⟩
    case round =>
      clear H'
      (try clear c3)
      obtain ⟨x3_1, x4_1, rfl, HA, HK1, HO_3, HB⟩ := hrel
      cases gk with
      | zero => exact absurd HA.out (by simp [spec_TreePeaks.l0])
      | succ k1 =>
        have H := HA.out
        clear HA
        simp only [spec_TreePeaks.l0] at H
        by_cases c6 : x4_1 < (l0.length : Int)
        · rw [if_pos c6] at H
          have c6b0 : decide (x4_1 < (l0.length : Int)) = true := decide_eq_true c6
          clear c6
          obtain ⟨t1373, A7, H⟩ := bnd_ H
          by_cases c8 : 0 ≤ x4_1
          · rw [if_pos c8] at H
            have c8b0 := eq_true c8
            have c8b1 : decide (0 ≤ x4_1) = true := decide_eq_true c8
            clear c8
            by_cases c9 : x4_1 ≤ (wrap64 (x4_1 + t1373))
            · rw [if_pos c9] at H
              have c9b0 := eq_true c9
              have c9b1 : decide (x4_1 ≤ (wrap64 (x4_1 + t1373))) = true := decide_eq_true c9
              by_cases c10 : (wrap64 (x4_1 + t1373)) ≤ (l0.length : Int)
              · rw [if_pos c10] at H
                have c10b0 := eq_true c10
                have c10b1 : decide ((wrap64 (x4_1 + t1373)) ≤ (l0.length : Int)) = true := decide_eq_true c10
                obtain ⟨⟨t1375, t1376, t1377, t1378⟩, A11, H⟩ := bnd_ H
                dsimp only at H
                by_cases c12 : x3_1.length < 4398046511104
                · rw [if_pos c12] at H
                  have LMc12 := Aside0.mk c12
                  clear c12
                  obtain ⟨y1379, hy1379⟩ : ∃ y_ : List (S29), y_ = (x3_1 ++ [(⟨t1375, t1376, t1377, t1378⟩ : S29)]) := ⟨_, rfl⟩
                  replace H : (spec_TreePeaks.l0 k1 l0 y1379 (wrap64 (x4_1 + t1373))) = some r := by first | (rw [hy1379]; with_reducible exact H) | (have H2_ := (Option.bind_some _ _).symm.trans H; rw [hy1379]; with_reducible exact H2_) | (have H2_ := (Option.bind_some _ _).symm.trans H; with_reducible exact H2_) | with_reducible exact H | (rw [hy1379]; exact H) | exact H
                  have Ny1379 := Aside0.mk hy1379
                  clear hy1379
                  have H' := Aside0.mk H
                  clear H
                  go_wp2_with (first | ((with_reducible refine gate_callee (f := 114) rfl ?_); refine goL_ (some 19) Try.func114 #[.int .i64 (wrap64 ((l0.length : Int) - x4_1))] ?_; (with_reducible refine (spec_l2Half.calls k1 (wrap64 ((l0.length : Int) - x4_1)) t1373 _ A7.out).mono ?_); rintro e w' ⟨rfl, ⟨nd, rfl⟩⟩; refine ⟨_, rfl, ?_⟩; obtain ⟨i013, hi013, _, hsz13, _⟩ := info_parts info9; obtain ⟨A13, hcut13, hA13, hC13⟩ := print_mid_of (P := Try.prog) Value.string (⟨#[]⟩ : ByteArray) 60 9 .i64 .i64 Try.underlying60 hi013 hsz13 A0 c0 l0 x4_1 (wrap64 (x4_1 + t1373)) (ofd_) (by first | omega | exact ofd_) (ofd_) HC0.out; have HR1374 := Aside0.mk (Kd.C_of_reads (h1 := fun _ => rfl) (hA13 _ (Kd.reads_of_C HR0.out))); have HC1374 := Aside0.mk hC13; clear hA13 hC13 hi013 hsz13) | ((with_reducible refine gate_callee (f := 97) rfl ?_); refine goesL_ (some 27) rfl rfl Try.func97 (by kernel_rfl) rfl #[.slice A13 ((l0.take ((wrap64 (x4_1 + t1373)) : Int).toNat).drop (x4_1 : Int).toNat).length (c0 - x4_1.toNat)] rfl (by (try simp only [List.map_toArray, List.map_cons, List.map_nil]); first | done | (rw [show ((l0.take ((wrap64 (x4_1 + t1373)) : Int).toNat).drop (x4_1 : Int).toNat).length = ((wrap64 (x4_1 + t1373)).toNat - x4_1.toNat) from (by rw [List.length_drop, List.length_take]; have h_ : ((wrap64 (x4_1 + t1373)) : Int) ≤ (l0.length : Int) := ofd_; omega)] <;> rfl) | rfl | (simp only [List.length_drop, List.length_take]; rfl)) ?_; (with_reducible refine (spec_l2Root.calls k1 _ _ ((l0.take ((wrap64 (x4_1 + t1373)) : Int).toNat).drop (x4_1 : Int).toNat) t1375 t1376 t1377 t1378 _ ?side1 ?side2 A11.out).mono ?_); (case side1 => repeat (first | exact (Kd.C_below HR1374.out bel_) | (with_reducible refine Kd.C_alloc ?_ _) | (with_reducible refine Kd.C_drewN ?_ _) | (with_reducible refine Kd.C_drew ?_))); (case side2 => exact HC1374.out); rintro e w14 ⟨rfl, hb⟩; refine ⟨_, rfl, ?_⟩; replace HO_3 := Aside0.mk (Kd.R_below (kdU_ HO_3.out) hb); replace HB := stepB_ hb; (try clear hb); (try clear hk)) | ((with_reducible refine gate_builtin (b := .append) (xs := #[.tmp 20, .tmp 28]) rfl ?_); at_builtin; refine Kd.R_append k29 (w0 := w) w.heap.size rfl (.tmp 20) (.tmp 28) 49 29 (.agg #[(.int .u64 0), (.int .u64 0), (.int .u64 0), (.int .u64 0)]) 32 rfl Try.underlying49 info29 rfl (by decide) (by omega) u3 x3_1 (⟨t1375, t1376, t1377, t1378⟩ : S29) [.int .u64 t1375, .int .u64 t1376, .int .u64 t1377, .int .u64 t1378] (fun _ => True) (fun _ => False) rfl rfl ?aP (fun _ hk => hk.elim) ?aF ?aO ?aB ?aS ?aL ?_; (case aP => exact k29_mkM _ _ _ (⟨t1375, t1376, t1377, t1378⟩ : S29)); (case aB => exact bel_); (case aF => exact (fun _ _ => trivial)); (case aO => exact (kdU_ HO_3.out)); (case aS => exact (below_size bel_)); (case aL => have := LMc12.out; omega); intro v1380 w15 ho hb hg hat; rw [← Ny1379.out] at ho; replace HB := Aside0.mk (hb); have HO1381 := Aside0.mk (ho); clear HO_3; clear ho hb hg hat))
                  go_roundg k1
                  case measure => have := HK1.out; omega
                  case rel => exact ⟨(y1379), (wrap64 (x4_1 + t1373)), (by first | rfl | (simp; done) | (simp [*]; done)), H', ⟨by have := HK1.out; omega⟩, ⟨kdU_ HO1381.out⟩, ⟨bel_⟩⟩
                · rw [if_neg c12] at H
                  exact absurd H (by simp)
              · rw [if_neg c10] at H
                exact absurd H (by simp)
            · rw [if_neg c9] at H
              exact absurd H (by simp)
          · rw [if_neg c8] at H
            exact absurd H (by simp)
        · rw [if_neg c6] at H
          have c6b0 : decide (x4_1 < (l0.length : Int)) = false := decide_eq_false c6
          clear c6
          obtain rfl := Option.some.inj H
          go_wp2
          go_ret
          exact ⟨_, rfl_, by (with_reducible repeat (first | apply Kd.R_alloc | apply Kd.R_drewN | apply Kd.R_drew)); exact HO_3.out, bel_⟩
  · replace c3 := Bool.eq_false_iff.mpr c3
    subst c3
    rw [if_neg (show ¬ (false = true) by decide)] at H
    obtain rfl := Option.some.inj H
    go_enter Try.func63, Try.ntmps63
    go_wp2_with (first | ((with_reducible refine gate_dst (N := 6) rfl ?_); refine Kd.R_lit k29 _ 29 ?hg (N := 6) ?hd (xs := ([] : List (S29))) (inner := []) (ok := fun _ => True) (okp := fun _ => True) ?hr ?hp (fun _ hk => hk) trivial (Below.refl _ _) (Nat.le_refl _) (by simp) ?_; (case hd => rfl); (case hg => rfl); (case hr => first | (go_simp; done) | (go_simp; rfl)); (case hp => exact (Reps.none _ _)); intro v1370 w16 ho17 hb hg_ hnew_; clear hg_ hnew_; (first | rw [← Ny1369.out] at ho17 | (simp only [Int.reduceToNat] at ho17; rw [← Ny1369.out] at ho17)); have HO1371 := Aside0.mk (Kd.R_lower ho17 (below_size bel_)); replace HB := stepB_ hb; clear hb ho17) | ((with_reducible refine gate_callee (f := 53) rfl ?_); refine goL_ (some 8) Try.func53 #[.slice A0 l0.length c0] ?_; (with_reducible refine (spec_LeavesOk.calls k _ _ l0 false _ ?side1 ?side2 A2.out).mono ?_); (case side1 => repeat (first | exact (Kd.C_below HR0.out HB.out) | (with_reducible refine Kd.C_alloc ?_ _) | (with_reducible refine Kd.C_drewN ?_ _) | (with_reducible refine Kd.C_drew ?_))); (case side2 => exact HC0.out); rintro e w' ⟨rfl, ⟨nd, rfl⟩⟩; refine ⟨_, rfl, ?_⟩))
    go_ret
    exact ⟨_, rfl_, by (with_reducible repeat (first | apply Kd.R_alloc | apply Kd.R_drewN | apply Kd.R_drew)); exact HO1371.out, bel_⟩

end
section
/-! ### impl_TreePeaks: function 64 -/
def impl_TreePeaks.l0 : Nat → List ByteArray → List (S29) → Int → Option ((List (S29)))
  | 0, _, _, _ => none
  | k + 1, x0, x3, x4 => if x4 > 0 then (if (x0.length : Int) ≥ x4 then (if 0 ≤ x4 then (if x4 ≤ (x0.length : Int) then ((impl_rootOf.f k (x0.take (x4 : Int).toNat)).bind fun bt1388 => (if x3.length < 4398046511104 then (impl_TreePeaks.l0 k (x0.drop (x4 : Int).toNat) (x3 ++ [(⟨bt1388.1, bt1388.2.1, bt1388.2.2.1, bt1388.2.2.2⟩ : S29)]) (wrap64 (Int.tdiv x4 2))) else (none))) else (none)) else (none)) else (impl_TreePeaks.l0 k x0 x3 (wrap64 (Int.tdiv x4 2)))) else ((impl_Digest.f x3).bind fun t1400 => (some t1400))
def impl_TreePeaks.f (k : Nat) (l0 : List ByteArray) : Option ((List (S29))) := (impl_LeavesOk.f k l0).bind fun t1382 => (if t1382 = true then (impl_TreePeaks.l0 k l0 ([] : List (S29)) 256) else (some ([] : List (S29))))
theorem impl_TreePeaks.mono_l : ∀ k, (∀ y0 y1 y2, LeO (impl_TreePeaks.l0 k y0 y1 y2) (impl_TreePeaks.l0 (k + 1) y0 y1 y2))
  | 0 => fun _ _ _ r h => by simp [impl_TreePeaks.l0] at h
  | k + 1 => by
    have ih0 := impl_TreePeaks.mono_l k
    · intro y0 y1 y2
      unfold impl_TreePeaks.l0
      repeat' first | (with_reducible first | exact ih0 _ _ _ | exact impl_LeavesOk.mono _ _ | exact impl_rootOf.mono _ _ | exact LeO.refl _ | exact LeO.none _ | refine LeO.ite ?_ ?_ | refine LeO.bind ?_ (fun _ => ?_)) | exact ih0 _ _ _ | exact LeO.none _ | refine LeO.ite ?_ ?_ | refine LeO.bind ?_ (fun _ => ?_)
theorem impl_TreePeaks.mono : ∀ a0 k, LeO (impl_TreePeaks.f k a0) (impl_TreePeaks.f (k + 1) a0) := by
  intro a0 k
  have ih0 := impl_TreePeaks.mono_l k
  unfold impl_TreePeaks.f
  repeat' first | (with_reducible first | exact ih0 _ _ _ | exact impl_LeavesOk.mono _ _ | exact impl_rootOf.mono _ _ | exact LeO.refl _ | exact LeO.none _ | refine LeO.ite ?_ ?_ | refine LeO.bind ?_ (fun _ => ?_)) | exact ih0 _ _ _ | exact LeO.none _ | refine LeO.ite ?_ ?_ | refine LeO.bind ?_ (fun _ => ?_)
set_option maxHeartbeats 8000000 in
set_option maxRecDepth 100000 in
theorem impl_TreePeaks.calls (k : Nat) (P0_ : Nat → Prop) (A0 : Option Addr) (c0 : Nat) (l0 : List ByteArray) (r : List (S29)) (w : World) (hs0 : Kd.V Kd.string 9 w w.heap.size (fun k_ => P0_ k_) (.slice A0 l0.length c0) l0) (h : impl_TreePeaks.f k l0 = some r) :
    Calls Try.prog 64 #[.slice A0 l0.length c0] w fun e w' => ∃ v0_ : Value, e = .returned (v0_) ∧ Kd.R k29 29 w' w.heap.size (fun k_ => (w.heap.size ≤ k_)) v0_ r ∧ Below w.heap.size w w' := by
  have HO0 := Aside0.mk (show Kd.V Kd.string 9 w w.heap.size (fun k_ => (P0_ k_ ∨ w.heap.size ≤ k_)) (.slice A0 l0.length c0) l0 from Kd.V_mono hs0 (fun k_ hk => .inl hk))
  have HB := Aside0.mk (Below.refl w.heap.size w)
  have H : ((impl_LeavesOk.f k l0).bind fun t1382 => (if t1382 = true then (impl_TreePeaks.l0 k l0 ([] : List (S29)) 256) else (some ([] : List (S29))))) = some r := h
  clear h
  obtain ⟨t1382, A2, H⟩ := bnd_ H
  by_cases c3 : t1382 = true
  · subst c3
    rw [if_pos rfl] at H
    have H' := Aside0.mk H
    clear H
    go_enter Try.func64, Try.ntmps64
    go_wp2_with (first | ((with_reducible refine gate_callee (f := 98) rfl ?_); refine goL_ (some 6) Try.func98 #[.slice A0 l0.length c0] ?_; (with_reducible refine (impl_LeavesOk.calls k _ _ l0 true _ ?side1 ?side2 A2.out).mono ?_); (case side1 => repeat (first | exact (Kd.V_reads' HO0.out).2.2 | (with_reducible refine Kd.C_alloc ?_ _) | (with_reducible refine Kd.C_drewN ?_ _) | (with_reducible refine Kd.C_drew ?_))); (case side2 => exact (Kd.V_reads' HO0.out).2.1); rintro e w' ⟨rfl, ⟨nd, rfl⟩⟩; refine ⟨_, rfl, ?_⟩))
    go_loopg [0, 3, 4] k (fun kq v0 v3 v4 w' => ∃ (x0_1 : List ByteArray) (x3_1 : List (S29)) (x4_1 : Int), v4 = .int .i64 x4_1 ∧ Aside0 (impl_TreePeaks.l0 kq x0_1 x3_1 x4_1 = some r) ∧ Aside0 (kq ≤ k) ∧ Aside0 (Kd.V Kd.string 9 w' w.heap.size (fun k_ => (P0_ k_ ∨ w.heap.size ≤ k_) ∧ some k_ ≠ (v3 : Value).ownBlock) v0 x0_1) ∧ Aside0 (Kd.R k29 29 w' w.heap.size (fun k_ => (w.heap.size ≤ k_)) v3 x3_1) ∧ Aside0 (Below w.heap.size w w'))
    case atStart => exact ⟨(l0), (([] : List (S29))), (256), (by first | rfl | (simp; done) | (simp [*]; done)), H', ⟨Nat.le_refl _⟩, ⟨by (with_reducible repeat (first | apply Kd.V_alloc | apply Kd.V_drewN | apply Kd.V_drew)); exact Kd.V_mono HO0.out (fun _ hk => ⟨hk, (by simp [Value.ownBlock])⟩)⟩, ⟨by first | exact Kd.R_nil _ _ _ _ _ | exact Kd.N_nil _ _ _ _ _ | exact Kd.V_nil _ _ _ _ _ | exact Kd.Q_nil _ _ _ _ _ | exact Kd.S_nil _ _ _ _ _⟩, ⟨bel_⟩⟩
    case round =>
      clear H'
      (try clear c3)
      obtain ⟨x0_1, x3_1, x4_1, rfl, HA, HK1, HO_0, HO_3, HB⟩ := hrel
      cases gk with
      | zero => exact absurd HA.out (by simp [impl_TreePeaks.l0])
      | succ k1 =>
        have H := HA.out
        clear HA
        simp only [impl_TreePeaks.l0] at H
        by_cases c4 : x4_1 > 0
        · rw [if_pos c4] at H
          have c4b0 : decide (0 < x4_1) = true := decide_eq_true c4
          clear c4
          by_cases c5 : (x0_1.length : Int) ≥ x4_1
          · rw [if_pos c5] at H
            have c5b0 : decide (x4_1 ≤ (x0_1.length : Int)) = true := decide_eq_true c5
            clear c5
            by_cases c6 : 0 ≤ x4_1
            · rw [if_pos c6] at H
              have c6b0 := eq_true c6
              have c6b1 : decide (0 ≤ x4_1) = true := decide_eq_true c6
              clear c6
              by_cases c7 : x4_1 ≤ (x0_1.length : Int)
              · rw [if_pos c7] at H
                have c7b0 := eq_true c7
                have c7b1 : decide (x4_1 ≤ (x0_1.length : Int)) = true := decide_eq_true c7
                clear c7
                obtain ⟨y1383, hy1383⟩ : ∃ y_ : List ByteArray, y_ = (x0_1.take (x4_1 : Int).toNat) := ⟨_, rfl⟩
                replace H : ((impl_rootOf.f k1 y1383).bind fun bt1388 => (if x3_1.length < 4398046511104 then (impl_TreePeaks.l0 k1 (x0_1.drop (x4_1 : Int).toNat) (x3_1 ++ [(⟨bt1388.1, bt1388.2.1, bt1388.2.2.1, bt1388.2.2.2⟩ : S29)]) (wrap64 (Int.tdiv x4_1 2))) else (none))) = some r := by first | (rw [hy1383]; with_reducible exact H) | (have H2_ := (Option.bind_some _ _).symm.trans H; rw [hy1383]; with_reducible exact H2_) | (have H2_ := (Option.bind_some _ _).symm.trans H; with_reducible exact H2_) | with_reducible exact H | (rw [hy1383]; exact H) | exact H
                have Ny1383 := Aside0.mk hy1383
                clear hy1383
                obtain ⟨⟨t1388, t1389, t1390, t1391⟩, A8, H⟩ := bnd_ H
                dsimp only at H
                by_cases c9 : x3_1.length < 4398046511104
                · rw [if_pos c9] at H
                  have LMc9 := Aside0.mk c9
                  clear c9
                  obtain ⟨y1392, hy1392⟩ : ∃ y_ : List (S29), y_ = (x3_1 ++ [(⟨t1388, t1389, t1390, t1391⟩ : S29)]) := ⟨_, rfl⟩
                  replace H : (impl_TreePeaks.l0 k1 (x0_1.drop (x4_1 : Int).toNat) y1392 (wrap64 (Int.tdiv x4_1 2))) = some r := by first | (rw [hy1392]; with_reducible exact H) | (have H2_ := (Option.bind_some _ _).symm.trans H; rw [hy1392]; with_reducible exact H2_) | (have H2_ := (Option.bind_some _ _).symm.trans H; with_reducible exact H2_) | with_reducible exact H | (rw [hy1392]; exact H) | exact H
                  have Ny1392 := Aside0.mk hy1392
                  clear hy1392
                  have c10b0 := eq_true (ofd_ : 0 ≤ x4_1)
                  have c11b0 := eq_true (ofd_ : x4_1 ≤ (x0_1.length : Int))
                  obtain ⟨y1395, hy1395⟩ : ∃ y_ : List ByteArray, y_ = (x0_1.drop (x4_1 : Int).toNat) := ⟨_, rfl⟩
                  replace H : (impl_TreePeaks.l0 k1 y1395 y1392 (wrap64 (Int.tdiv x4_1 2))) = some r := by first | (rw [hy1395]; with_reducible exact H) | (have H2_ := (Option.bind_some _ _).symm.trans H; rw [hy1395]; with_reducible exact H2_) | (have H2_ := (Option.bind_some _ _).symm.trans H; with_reducible exact H2_) | with_reducible exact H | (rw [hy1395]; exact H) | exact H
                  have Ny1395 := Aside0.mk hy1395
                  clear hy1395
                  have H' := Aside0.mk H
                  clear H
                  obtain ⟨Ao12, co12, eo12⟩ := Kd.V_slice HO_0.out
                  subst eo12
                  have q13 : (x4_1 : Int) ≤ ((x0_1.length : Int) : Int) := ofd_
                  obtain ⟨i013, hi013, _, hsz13, _⟩ := info_parts info9
                  have hroom13 : x0_1.length ≤ co12 := (Kd.V_reads' HO_0.out).2.1
                  have hC13 : Kd.F Kd.string _ _ Ao12 x0_1.length x0_1 := (Kd.V_at (base := w.heap.size) HO_0.out).2.2
                  have hcut13 := cut_to (P := Try.prog) 60 9 .i64 Try.underlying60 hi013 Ao12 x0_1.length co12 x4_1 (ofd_) q13 hroom13
                  have hr13 := Kd.F_take (m := (x4_1 : Int).toNat) hC13 (by omega)
                  have hy13 : y1383.length = (x4_1 : Int).toNat := (by rw [Ny1383.out, List.length_take]; omega)
                  rw [← Ny1383.out] at hr13
                  rw [← hy13] at hcut13
                  have HO1387 := Aside0.mk (show Kd.V Kd.string 9 _ w.heap.size _ (.slice Ao12 y1383.length co12) y1383 from Kd.V_mk (by omega) hr13)
                  have HC1387 := Aside0.mk (show y1383.length ≤ co12 from by omega)
                  clear hr13 hC13 hroom13 hi013 hsz13
                  have KY13 := Aside0.mk hy13
                  clear hy13
                  replace q13 := eq_true q13
                  go_wp2_with (first | ((with_reducible refine gate_callee (f := 99) rfl ?_); refine goL_ (some 20) Try.func99 #[.slice Ao12 y1383.length co12] ?_; (with_reducible refine (impl_rootOf.calls k1 _ _ y1383 t1388 t1389 t1390 t1391 _ ?side1 ?side2 A8.out).mono ?_); (case side1 => repeat (first | exact (Kd.V_reads' HO1387.out).2.2 | (with_reducible refine Kd.C_alloc ?_ _) | (with_reducible refine Kd.C_drewN ?_ _) | (with_reducible refine Kd.C_drew ?_))); (case side2 => exact (Kd.V_reads' HO1387.out).2.1); rintro e w14 ⟨rfl, hb⟩; refine ⟨_, rfl, ?_⟩; replace HO_0 := Aside0.mk (Kd.V_below (by (with_reducible repeat (first | apply Kd.V_alloc | apply Kd.V_drewN | apply Kd.V_drew)); exact HO_0.out) hb); replace HO_3 := Aside0.mk (Kd.R_below (kdU_ HO_3.out) hb); replace HO1387 := Aside0.mk (Kd.V_below (by (with_reducible repeat (first | apply Kd.V_alloc | apply Kd.V_drewN | apply Kd.V_drew)); exact HO1387.out) hb); replace HB := stepB_ hb; (try clear hb); (try clear hk)) | ((with_reducible refine gate_builtin (b := .append) (xs := #[.tmp 16, .tmp 21]) rfl ?_); at_builtin; refine Kd.R_append k29 (w0 := w) w.heap.size rfl (.tmp 16) (.tmp 21) 49 29 (.agg #[(.int .u64 0), (.int .u64 0), (.int .u64 0), (.int .u64 0)]) 32 rfl Try.underlying49 info29 rfl (by decide) (by omega) u3 x3_1 (⟨t1388, t1389, t1390, t1391⟩ : S29) [.int .u64 t1388, .int .u64 t1389, .int .u64 t1390, .int .u64 t1391] (fun k_ => (w.heap.size ≤ k_)) (fun _ => False) rfl rfl ?aP (fun _ hk => hk.elim) ?aF ?aO ?aB ?aS ?aL ?_; (case aP => exact k29_mkM _ _ _ (⟨t1388, t1389, t1390, t1391⟩ : S29)); (case aB => exact bel_); (case aF => exact (fun k_ hk => (Nat.le_trans (below_size bel_) hk))); (case aO => exact (kdU_ HO_3.out)); (case aS => exact (below_size bel_)); (case aL => have := LMc9.out; omega); intro v1393 w15 ho hb hg hat; rw [← Ny1392.out] at ho; replace HO_0 := Aside0.mk (Kd.V_afterv (ok := (fun k_ => (P0_ k_ ∨ w.heap.size ≤ k_))) (by (with_reducible repeat (first | apply Kd.V_alloc | apply Kd.V_drewN | apply Kd.V_drew)); exact HO_0.out) hg hat); replace HO1387 := Aside0.mk (Kd.V_afterv (ok := (fun k_ => (P0_ k_ ∨ w.heap.size ≤ k_))) (by (with_reducible repeat (first | apply Kd.V_alloc | apply Kd.V_drewN | apply Kd.V_drew)); exact HO1387.out) hg hat); replace HB := Aside0.mk (hb); have HO1394 := Aside0.mk (ho); clear HO_3; clear ho hb hg hat; have q16 : (x4_1 : Int) ≤ ((x0_1.length : Int) : Int) := ofd_; obtain ⟨i016, hi016, _, hsz16, _⟩ := info_parts info9; have hroom16 : x0_1.length ≤ co12 := (Kd.V_reads' HO_0.out).2.1; have hC16 : Kd.F Kd.string _ _ Ao12 x0_1.length x0_1 := (Kd.V_at (base := w.heap.size) HO_0.out).2.2; have q016 : (0 : Int) ≤ (x4_1 : Int) := ofd_; have hcut16 := cut_from (P := Try.prog) 60 9 .i64 Try.underlying60 hi016 1 hsz16 Ao12 x0_1.length co12 x4_1 q016 q16; have hr16 := Kd.F_cut (m := (x4_1 : Int).toNat) (c := co12) hC16 (by omega) hroom16; obtain ⟨A16, hA16⟩ : ∃ A1, A1 = (if co12 = (x4_1 : Int).toNat then Ao12 else (Ao12 : Option Addr).map (·.add ((x4_1 : Int).toNat * 1))) := ⟨_, rfl⟩; obtain ⟨c16, hc16⟩ : ∃ c1, c1 = co12 - (x4_1 : Int).toNat := ⟨_, rfl⟩; have hy16 : y1395.length = x0_1.length - (x4_1 : Int).toNat := (by rw [Ny1395.out, List.length_drop] <;> omega); rw [show (x0_1).drop (x4_1 : Int).toNat = y1395 from Ny1395.out.symm] at hr16; replace hr16 : Kd.F Kd.string _ _ A16 y1395.length y1395 := (by rw [hA16]; exact hr16); rw [← hy16, ← hA16, ← hc16] at hcut16; have HO1399 := Aside0.mk (show Kd.V Kd.string 9 _ w.heap.size _ (.slice A16 y1395.length c16) y1395 from Kd.V_mk (by rw [hy16, hc16]; exact Nat.sub_le_sub_right hroom16 _) hr16); have HC1399 := Aside0.mk (show y1395.length ≤ c16 from by rw [hy16, hc16]; exact Nat.sub_le_sub_right hroom16 _); clear hr16 hC16 hroom16 hi016 hsz16 hc16; have KY16 := Aside0.mk hy16; have KA16 := Aside0.mk hA16; clear hy16 hA16; replace q16 := eq_true q16))
                  go_roundg k1
                  case measure => have := HK1.out; omega
                  case rel => exact ⟨(y1395), (y1392), (wrap64 (Int.tdiv x4_1 2)), (by first | rfl | (simp; done) | (simp [*]; done)), H', ⟨by have := HK1.out; omega⟩, ⟨by (with_reducible repeat (first | apply Kd.V_alloc | apply Kd.V_drewN | apply Kd.V_drew)); exact HO1399.out⟩, ⟨kdU_ HO1394.out⟩, ⟨bel_⟩⟩
                · rw [if_neg c9] at H
                  exact absurd H (by simp)
              · rw [if_neg c7] at H
                exact absurd H (by simp)
            · rw [if_neg c6] at H
              exact absurd H (by simp)
          · rw [if_neg c5] at H
            have c5b0 : decide (x4_1 ≤ (x0_1.length : Int)) = false := decide_eq_false c5
            clear c5
            have H' := Aside0.mk H
            clear H
            obtain ⟨Ao17, co17, eo17⟩ := Kd.V_slice HO_0.out
            subst eo17
            go_wp2
            go_roundg k1
            case measure => have := HK1.out; omega
            case rel => exact ⟨(x0_1), (x3_1), (wrap64 (Int.tdiv x4_1 2)), (by first | rfl | (simp; done) | (simp [*]; done)), H', ⟨by have := HK1.out; omega⟩, ⟨by (with_reducible repeat (first | apply Kd.V_alloc | apply Kd.V_drewN | apply Kd.V_drew)); exact HO_0.out⟩, ⟨kdU_ HO_3.out⟩, ⟨bel_⟩⟩
        · rw [if_neg c4] at H
          have c4b0 : decide (0 < x4_1) = false := decide_eq_false c4
          clear c4
          obtain ⟨t1400, A18, H⟩ := bnd_ H
          obtain rfl := Option.some.inj H
          obtain ⟨Ao19, co19, eo19⟩ := Kd.R_slice HO_3.out
          subst eo19
          go_wp2_with (first | ((with_reducible refine gate_callee (f := 113) rfl ?_); refine goL_ (some 27) Try.func113 #[.slice Ao19 x3_1.length co19] ?_; (with_reducible refine (impl_Digest.calls _ _ x3_1 t1400 _ ?side1 ?side2 A18.out).mono ?_); (case side1 => repeat (first | exact (Kd.R_reads' HO_3.out).2.2 | (with_reducible refine Kd.C_alloc ?_ _) | (with_reducible refine Kd.C_drewN ?_ _) | (with_reducible refine Kd.C_drew ?_))); (case side2 => exact (Kd.R_reads' HO_3.out).2.1); rintro e w20 ⟨v1401, rfl, ho0, hb⟩; refine ⟨_, rfl, ?_⟩; replace HO_0 := Aside0.mk (Kd.V_elder' (by (with_reducible repeat (first | apply Kd.V_alloc | apply Kd.V_drewN | apply Kd.V_drew)); exact HO_0.out) (Kd.R_base ho0) hb); have HO1402 := Aside0.mk (Kd.R_lower (Kd.R_new' (Kd.R_newM (M := fun k_ => (w.heap.size ≤ k_)) ho0 (below_size bel_) (fun k_ h_ => h_)) (Kd.R_lt (kdU_ HO_3.out))) (below_size bel_)); replace HO_3 := Aside0.mk (Kd.R_elder' (kdU_ HO_3.out) (Kd.R_base ho0) hb); replace HB := stepB_ hb; (try clear hb); (try clear hk); (try clear ho0)))
          go_ret
          exact ⟨_, rfl_, by (with_reducible repeat (first | apply Kd.R_alloc | apply Kd.R_drewN | apply Kd.R_drew)); exact Kd.R_mono HO1402.out (fun _ hk => hk.1.1), bel_⟩
  · replace c3 := Bool.eq_false_iff.mpr c3
    subst c3
    rw [if_neg (show ¬ (false = true) by decide)] at H
    obtain rfl := Option.some.inj H
    go_enter Try.func64, Try.ntmps64
    go_wp2_with (first | ((with_reducible refine gate_callee (f := 98) rfl ?_); refine goL_ (some 6) Try.func98 #[.slice A0 l0.length c0] ?_; (with_reducible refine (impl_LeavesOk.calls k _ _ l0 false _ ?side1 ?side2 A2.out).mono ?_); (case side1 => repeat (first | exact (Kd.V_reads' HO0.out).2.2 | (with_reducible refine Kd.C_alloc ?_ _) | (with_reducible refine Kd.C_drewN ?_ _) | (with_reducible refine Kd.C_drew ?_))); (case side2 => exact (Kd.V_reads' HO0.out).2.1); rintro e w' ⟨rfl, ⟨nd, rfl⟩⟩; refine ⟨_, rfl, ?_⟩))
    go_ret
    exact ⟨_, rfl_, by first | exact Kd.R_nil _ _ _ _ _ | exact Kd.N_nil _ _ _ _ _ | exact Kd.V_nil _ _ _ _ _ | exact Kd.Q_nil _ _ _ _ _ | exact Kd.S_nil _ _ _ _ _, bel_⟩

end
end Go.Proofs.Ytemfciflhbhobaa.B
