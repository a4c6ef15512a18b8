/- What the Go functions loop.example/belfry/spec.l4Behind, loop.example/belfry/spec.l4Down, loop.example/belfry/impl.ClashRow, loop.example/belfry/spec.ClashRow do is what the Lean functions .f of their names here say; condition: .f gives an answer. (Written by the session's program pp.py over the kit's print; Lean checks it.) -/
import Derived.Test.YtemfciflhbhobaaK
import Derived.Test.YtemfciflhbhobaaM
import Derived.Test.YtemfciflhbhobaaGImplPair1
import Derived.Test.YtemfciflhbhobaaGSpecPair1
import Derived.Test.YtemfciflhbhobaaGSplit1
import Derived.Test.YtemfciflhbhobaaGUp1
import Derived.Test.YtemfciflhbhobaaGUp2
import Derived.Test.YtemfciflhbhobaaHCopiedS
namespace Go.Proofs.Ytemfciflhbhobaa.B
open Go.RowKit Go.Proofs.YtemfciflhbhobaaW.PrintWords Go.Proofs.YtemfciflhbhobaaW.PrintLast Go.Proofs.YtemfciflhbhobaaW.PrintMore
attribute [local go_sem] max2_int min2_int max_two min_two max_three min_three max_four min_four   -- for this text's walks alone
set_option linter.unusedVariables false
set_option linter.unusedSimpArgs false

section
/-! ### spec_l4Behind: function 139 -/
def spec_l4Behind.l0 : Nat → List ByteArray → List ByteArray → Int → Option (List ByteArray)
  | 0, _, _, _ => none
  | k + 1, x1, x5, x6 => if x6 < (x1.length : Int) then (if 0 ≤ x6 then (if x5.length < 8796093022208 then (spec_l4Behind.l0 k x1 (x5 ++ [rdOf ByteArray.empty x1 x6]) (wrap64 (x6 + 1))) else (none)) else (none)) else (some x5)
def spec_l4Behind.f (k : Nat) (a0 : ByteArray) (l1 : List ByteArray) : Option (List ByteArray) := spec_l4Behind.l0 k l1 (([a0] : List ByteArray)) 0
theorem spec_l4Behind.mono_l : ∀ k, (∀ y0 y1 y2, LeO (spec_l4Behind.l0 k y0 y1 y2) (spec_l4Behind.l0 (k + 1) y0 y1 y2))
  | 0 => fun _ _ _ r h => by simp [spec_l4Behind.l0] at h
  | k + 1 => by
    have ih0 := spec_l4Behind.mono_l k
    · intro y0 y1 y2
      unfold spec_l4Behind.l0
      repeat' first | (with_reducible first | exact ih0 _ _ _ | exact LeO.refl _ | exact LeO.none _ | refine LeO.ite ?_ ?_ | refine LeO.bind ?_ (fun _ => ?_)) | exact ih0 _ _ _ | exact LeO.none _ | refine LeO.ite ?_ ?_ | refine LeO.bind ?_ (fun _ => ?_)
theorem spec_l4Behind.mono : ∀ a0 a1 k, LeO (spec_l4Behind.f k a0 a1) (spec_l4Behind.f (k + 1) a0 a1) := by
  intro a0 a1 k
  have ih0 := spec_l4Behind.mono_l k
  unfold spec_l4Behind.f
  repeat' first | (with_reducible first | exact ih0 _ _ _ | exact LeO.refl _ | exact LeO.none _ | refine LeO.ite ?_ ?_ | refine LeO.bind ?_ (fun _ => ?_)) | exact ih0 _ _ _ | exact LeO.none _ | refine LeO.ite ?_ ?_ | refine LeO.bind ?_ (fun _ => ?_)
set_option maxHeartbeats 8000000 in
set_option maxRecDepth 100000 in
theorem spec_l4Behind.calls (k : Nat) (a0 : ByteArray) (A1 : Option Addr) (c1 : Nat) (l1 : List ByteArray) (r : List ByteArray) (w : World) (hr1 : Kd.C Kd.string w A1 l1.length l1) (hc1 : l1.length ≤ c1) (h : spec_l4Behind.f k a0 l1 = some r) :
    Calls Try.prog 139 #[.string a0, .slice A1 l1.length c1] w fun e w' => ∃ v0_ : Value, e = .returned (v0_) ∧ Kd.R Kd.string 9 w' w.heap.size (fun _ => True) v0_ r ∧ Below w.heap.size w w' := by
  have HR1 := Aside0.mk hr1
  have HC1 := Aside0.mk hc1
  clear hr1 hc1
  have HB := Aside0.mk (Below.refl w.heap.size w)
  have H : (spec_l4Behind.l0 k l1 (([a0] : List ByteArray)) 0) = some r := h
  clear h
  obtain ⟨y612, hy612⟩ : ∃ y_ : List ByteArray, y_ = (([a0] : List ByteArray)) := ⟨_, rfl⟩
  replace H : (spec_l4Behind.l0 k l1 y612 0) = some r := by first | (rw [hy612]; with_reducible exact H) | (have H2_ := (Option.bind_some _ _).symm.trans H; rw [hy612]; with_reducible exact H2_) | (have H2_ := (Option.bind_some _ _).symm.trans H; with_reducible exact H2_) | with_reducible exact H | (rw [hy612]; exact H) | exact H
  have Ny612 := Aside0.mk hy612
  clear hy612
  have H' := Aside0.mk H
  clear H
  go_enter Try.func139, Try.ntmps139
  go_wp2_with (first | ((with_reducible refine gate_dst (N := 8) rfl ?_); refine Kd.R_lit Kd.string _ 9 ?hg (N := 8) ?hd (xs := ([a0] : List ByteArray)) (inner := [.string a0]) (ok := fun _ => True) (okp := fun _ => True) ?hr ?hp (fun _ hk => hk) trivial (Below.refl _ _) (Nat.le_refl _) (by simp) ?_; (case hd => rfl); (case hg => rfl); (case hr => first | (go_simp; done) | (go_simp; rfl)); (case hp => exact (Reps.one (show Kd.M Kd.string _ _ _ a0 [.string a0] from rfl) (Reps.none _ _))); intro v613 w3 ho4 hb hg_ hnew_; clear hg_ hnew_; (first | rw [← Ny612.out] at ho4 | (simp only [Int.reduceToNat] at ho4; rw [← Ny612.out] at ho4)); have HO614 := Aside0.mk (Kd.R_lower ho4 (below_size bel_)); replace HB := stepB_ hb; clear hb ho4))
  go_loopg [5, 6] k (fun kq v5 v6 w' => ∃ (x5_1 : List ByteArray) (x6_1 : Int), v6 = .int .i64 x6_1 ∧ Aside0 (spec_l4Behind.l0 kq l1 x5_1 x6_1 = some r) ∧ Aside0 (kq ≤ k) ∧ Aside0 (Kd.R Kd.string 9 w' w.heap.size (fun _ => True) v5 x5_1) ∧ Aside0 (Below w.heap.size w w'))
  case atStart => exact ⟨(y612), (0), (by first | rfl | (simp; done) | (simp [*]; done)), H', ⟨Nat.le_refl _⟩, ⟨kdU_ HO614.out⟩, ⟨bel_⟩⟩
  case round =>
    clear H'
    (try clear c1)
    obtain ⟨x5_1, x6_1, rfl, HA, HK1, HO_5, HB⟩ := hrel
    cases gk with
    | zero => exact absurd HA.out (by simp [spec_l4Behind.l0])
    | succ k1 =>
      have H := HA.out
      clear HA
      simp only [spec_l4Behind.l0] at H
      by_cases c5 : x6_1 < (l1.length : Int)
      · rw [if_pos c5] at H
        have c5b0 : decide (x6_1 < (l1.length : Int)) = true := decide_eq_true c5
        clear c5
        by_cases c6 : 0 ≤ x6_1
        · rw [if_pos c6] at H
          have c6b0 : decide (0 ≤ x6_1) = true := decide_eq_true c6
          clear c6
          by_cases c7 : x5_1.length < 8796093022208
          · rw [if_pos c7] at H
            have LMc7 := Aside0.mk c7
            clear c7
            obtain ⟨y616, hy616⟩ : ∃ y_ : List ByteArray, y_ = (x5_1 ++ [rdOf ByteArray.empty l1 x6_1]) := ⟨_, rfl⟩
            replace H : (spec_l4Behind.l0 k1 l1 y616 (wrap64 (x6_1 + 1))) = some r := by first | (rw [hy616]; with_reducible exact H) | (have H2_ := (Option.bind_some _ _).symm.trans H; rw [hy616]; with_reducible exact H2_) | (have H2_ := (Option.bind_some _ _).symm.trans H; with_reducible exact H2_) | with_reducible exact H | (rw [hy616]; exact H) | exact H
            have Ny616 := Aside0.mk hy616
            clear hy616
            have H' := Aside0.mk H
            clear H
            have p615 : 0 ≤ (x6_1 : Int) := ofd_
            have q615 : x6_1 < (l1.length : Int) := ofd_
            obtain ⟨ad615, e615, hx615_0⟩ := Kd.at_string HR1.out x6_1 p615 q615
            cases e615
            replace hx615_0 := pw_cell_below HB.out hx615_0
            replace p615 := eq_true p615
            replace q615 := eq_true q615
            go_wp2_with (first | ((with_reducible refine gate_builtin (b := .append) (xs := #[.tmp 15, .tmp 20]) rfl ?_); at_builtin; refine Kd.R_append Kd.string (w0 := w) w.heap.size rfl (.tmp 15) (.tmp 20) 60 9 (.string ⟨#[]⟩) 16 rfl Try.underlying60 info9 rfl (by decide) (by omega) u5 x5_1 (rdOf ByteArray.empty l1 x6_1) [.string (rdOf ByteArray.empty l1 x6_1)] (fun _ => True) (fun _ => False) rfl rfl ?aP (fun _ hk => hk.elim) ?aF ?aO ?aB ?aS ?aL ?_; (case aP => exact rfl); (case aB => exact bel_); (case aF => exact (fun _ _ => trivial)); (case aO => exact (kdU_ HO_5.out)); (case aS => exact (below_size bel_)); (case aL => have := LMc7.out; omega); intro v617 w8 ho hb hg hat; rw [← Ny616.out] at ho; replace HB := Aside0.mk (hb); have HO618 := Aside0.mk (ho); clear HO_5; clear ho hb hg hat))
            go_roundg k1
            case measure => have := HK1.out; omega
            case rel => exact ⟨(y616), (wrap64 (x6_1 + 1)), (by first | rfl | (simp; done) | (simp [*]; done)), H', ⟨by have := HK1.out; omega⟩, ⟨kdU_ HO618.out⟩, ⟨bel_⟩⟩
          · rw [if_neg c7] at H
            exact absurd H (by simp)
        · rw [if_neg c6] at H
          exact absurd H (by simp)
      · rw [if_neg c5] at H
        have c5b0 : decide (x6_1 < (l1.length : Int)) = false := decide_eq_false c5
        clear c5
        obtain rfl := Option.some.inj H
        go_wp2
        go_ret
        exact ⟨_, rfl_, by (with_reducible repeat (first | apply Kd.R_alloc | apply Kd.R_drewN | apply Kd.R_drew)); exact HO_5.out, bel_⟩

end
section
/-! ### spec_l4Down: function 93 -/
def spec_l4Down.f : Nat → Int → Int → ByteArray → List (S29) → Option (List ByteArray)
  | 0, _, _, _, _ => none
  | k + 1, a0, a1, a2, l3 => if a0 < 2 then ((spec_l1LeafText.f a2).bind fun t619 => (some (([t619] : List ByteArray)))) else ((spec_TreeSplit.f k a0).bind fun t623 => (if 0 ≤ (wrap64 ((l3.length : Int) - 1)) then (if (wrap64 ((l3.length : Int) - 1)) < (l3.length : Int) then (if (wrap64 ((l3.length : Int) - 1)) ≤ (l3.length : Int) then ((some (l3.take ((wrap64 ((l3.length : Int) - 1)) : Int).toNat : List (S29))).bind fun y626 => (if a1 < t623 then ((spec_HashLeaf.f k a2).bind fun bt630 => ((spec_l3Up.f k t623 a1 bt630.1 bt630.2.1 bt630.2.2.1 bt630.2.2.2 y626).bind fun bt634 => ((spec_l1PairText.f k bt634.1 bt634.2.1 bt634.2.2.1 bt634.2.2.2 ((rd_T29 l3 (wrap64 ((l3.length : Int) - 1))).f0) ((rd_T29 l3 (wrap64 ((l3.length : Int) - 1))).f1) ((rd_T29 l3 (wrap64 ((l3.length : Int) - 1))).f2) ((rd_T29 l3 (wrap64 ((l3.length : Int) - 1))).f3)).bind fun t638 => ((spec_l4Down.f k t623 a1 a2 y626).bind fun t639 => ((spec_l4Behind.f k t638 t639).bind fun t642 => (some t642)))))) else ((spec_HashLeaf.f k a2).bind fun bt645 => ((spec_l3Up.f k (wrap64 (a0 - t623)) (wrap64 (a1 - t623)) bt645.1 bt645.2.1 bt645.2.2.1 bt645.2.2.2 y626).bind fun bt649 => ((spec_l1PairText.f k ((rd_T29 l3 (wrap64 ((l3.length : Int) - 1))).f0) ((rd_T29 l3 (wrap64 ((l3.length : Int) - 1))).f1) ((rd_T29 l3 (wrap64 ((l3.length : Int) - 1))).f2) ((rd_T29 l3 (wrap64 ((l3.length : Int) - 1))).f3) bt649.1 bt649.2.1 bt649.2.2.1 bt649.2.2.2).bind fun t653 => ((spec_l4Down.f k (wrap64 (a0 - t623)) (wrap64 (a1 - t623)) a2 y626).bind fun t654 => ((spec_l4Behind.f k t653 t654).bind fun t657 => (some t657)))))))) else (none)) else (none)) else (none)))
theorem spec_l4Down.mono_l : ∀ k, (∀ y0 y1 y2 y3, LeO (spec_l4Down.f k y0 y1 y2 y3) (spec_l4Down.f (k + 1) y0 y1 y2 y3))
  | 0 => fun _ _ _ _ r h => by simp [spec_l4Down.f] at h
  | k + 1 => by
    have ih0 := spec_l4Down.mono_l k
    · intro y0 y1 y2 y3
      unfold spec_l4Down.f
      repeat' first | (with_reducible first | exact ih0 _ _ _ _ | exact spec_HashLeaf.mono _ _ | exact spec_TreeSplit.mono _ _ | exact spec_l1PairText.mono _ _ _ _ _ _ _ _ _ | exact spec_l3Up.mono _ _ _ _ _ _ _ _ | exact spec_l4Behind.mono _ _ _ | exact LeO.refl _ | exact LeO.none _ | refine LeO.ite ?_ ?_ | refine LeO.bind ?_ (fun _ => ?_)) | exact ih0 _ _ _ _ | exact LeO.none _ | refine LeO.ite ?_ ?_ | refine LeO.bind ?_ (fun _ => ?_)
theorem spec_l4Down.mono : ∀ a0 a1 a2 a3 k, LeO (spec_l4Down.f k a0 a1 a2 a3) (spec_l4Down.f (k + 1) a0 a1 a2 a3) := by
  intro a0 a1 a2 a3 k
  have ih0 := spec_l4Down.mono_l k
  exact ih0 a0 a1 a2 a3
def spec_l4Down.T7 : Bool × List (List Nat × List Nat) := (true, [([], []), ([], []), ([], []), ([2], [2]), ([], []), ([0, 1, 3, 4, 3], [0, 1, 3, 4]), ([], []), ([5, 6, 5], [5, 6]), ([], []), ([], []), ([], []), ([], []), ([8, 9, 10, 11, 7], [8, 9, 10, 11]), ([7, 12, 12], [7, 12]), ([13, 13, 0, 1, 2, 3, 4, 5, 6, 7, 8, 9, 10, 11, 12, 13], [13])])
def spec_l4Down.B7 : List Nat := [0, 0, 0, 4, 0, 31, 0, 127, 0, 0, 0, 0, 4095, 8191, 16383]
theorem spec_l4Down.tab7 : rtab .any (opsOf Try.f93 7) = spec_l4Down.T7 := by kernel_rfl
theorem spec_l4Down.bits7 : waitsOk spec_l4Down.T7.2 spec_l4Down.B7 = true := by kernel_rfl
def spec_l4Down.T8 : Bool × List (List Nat × List Nat) := (true, [([], []), ([], []), ([], []), ([1, 2], [1, 2]), ([], []), ([], []), ([4, 5], [4, 5]), ([], []), ([7], [7]), ([], []), ([3, 6, 8, 9, 8], [3, 6, 8, 9]), ([0, 10, 10], [0, 10]), ([], []), ([], []), ([12, 13], [12, 13]), ([], []), ([], []), ([15, 16], [15, 16]), ([], []), ([], []), ([14, 17, 18, 19, 11], [14, 17, 18, 19]), ([11, 20, 20], [11, 20]), ([21, 21, 0, 1, 2, 3, 4, 5, 6, 7, 8, 9, 10, 11, 12, 13, 14, 15, 16, 17, 18, 19, 20, 21], [21])])
def spec_l4Down.B8 : List Nat := [0, 0, 0, 6, 0, 0, 48, 0, 128, 0, 1022, 2047, 0, 0, 12288, 0, 0, 98304, 0, 0, 1048575, 2097151, 4194303]
theorem spec_l4Down.tab8 : rtab .any (opsOf Try.f93 8) = spec_l4Down.T8 := by kernel_rfl
theorem spec_l4Down.bits8 : waitsOk spec_l4Down.T8.2 spec_l4Down.B8 = true := by kernel_rfl
set_option maxHeartbeats 8000000 in
set_option maxRecDepth 100000 in
theorem spec_l4Down.calls (k : Nat) : ∀ (a0 : Int) (a1 : Int) (a2 : ByteArray) (A3 : Option Addr) (c3 : Nat) (l3 : List (S29)) (r : List ByteArray) (w : World) (hr3 : Kd.C k29 w A3 l3.length l3) (hc3 : l3.length ≤ c3) (h : spec_l4Down.f k a0 a1 a2 l3 = some r),
    Calls Try.prog 93 #[.int .i64 a0, .int .i64 a1, .string a2, .slice A3 l3.length c3] w fun e w' => ∃ v0_ : Value, e = .returned (v0_) ∧ Kd.R Kd.string 9 w' w.heap.size (fun _ => True) v0_ r ∧ Below w.heap.size w w' := by
  induction k using Nat.strongRecOn with
  | _ k ih =>
  intro a0 a1 a2 A3 c3 l3 r w hr3 hc3 h
  cases k with
  | zero => exact absurd h (by simp [spec_l4Down.f])
  | succ k =>
  simp only [spec_l4Down.f] at h
  have hu29 := Try.underlying29
  have HR3 := Aside0.mk hr3
  have HC3 := Aside0.mk hc3
  clear hr3 hc3
  have HB := Aside0.mk (Below.refl w.heap.size w)
  have H : (if a0 < 2 then ((spec_l1LeafText.f a2).bind fun t619 => (some (([t619] : List ByteArray)))) else ((spec_TreeSplit.f k a0).bind fun t623 => (if 0 ≤ (wrap64 ((l3.length : Int) - 1)) then (if (wrap64 ((l3.length : Int) - 1)) < (l3.length : Int) then (if (wrap64 ((l3.length : Int) - 1)) ≤ (l3.length : Int) then ((some (l3.take ((wrap64 ((l3.length : Int) - 1)) : Int).toNat : List (S29))).bind fun y626 => (if a1 < t623 then ((spec_HashLeaf.f k a2).bind fun bt630 => ((spec_l3Up.f k t623 a1 bt630.1 bt630.2.1 bt630.2.2.1 bt630.2.2.2 y626).bind fun bt634 => ((spec_l1PairText.f k bt634.1 bt634.2.1 bt634.2.2.1 bt634.2.2.2 ((rd_T29 l3 (wrap64 ((l3.length : Int) - 1))).f0) ((rd_T29 l3 (wrap64 ((l3.length : Int) - 1))).f1) ((rd_T29 l3 (wrap64 ((l3.length : Int) - 1))).f2) ((rd_T29 l3 (wrap64 ((l3.length : Int) - 1))).f3)).bind fun t638 => ((spec_l4Down.f k t623 a1 a2 y626).bind fun t639 => ((spec_l4Behind.f k t638 t639).bind fun t642 => (some t642)))))) else ((spec_HashLeaf.f k a2).bind fun bt645 => ((spec_l3Up.f k (wrap64 (a0 - t623)) (wrap64 (a1 - t623)) bt645.1 bt645.2.1 bt645.2.2.1 bt645.2.2.2 y626).bind fun bt649 => ((spec_l1PairText.f k ((rd_T29 l3 (wrap64 ((l3.length : Int) - 1))).f0) ((rd_T29 l3 (wrap64 ((l3.length : Int) - 1))).f1) ((rd_T29 l3 (wrap64 ((l3.length : Int) - 1))).f2) ((rd_T29 l3 (wrap64 ((l3.length : Int) - 1))).f3) bt649.1 bt649.2.1 bt649.2.2.1 bt649.2.2.2).bind fun t653 => ((spec_l4Down.f k (wrap64 (a0 - t623)) (wrap64 (a1 - t623)) a2 y626).bind fun t654 => ((spec_l4Behind.f k t653 t654).bind fun t657 => (some t657)))))))) else (none)) else (none)) else (none)))) = some r := h
  clear h
  by_cases c5 : a0 < 2
  · rw [if_pos c5] at H
    have c5b0 : decide (a0 < 2) = true := decide_eq_true c5
    clear c5
    obtain ⟨t619, A6, H⟩ := bnd_ H
    obtain ⟨y620, hy620⟩ : ∃ y_ : List ByteArray, y_ = (([t619] : List ByteArray)) := ⟨_, rfl⟩
    replace H : (some y620) = some r := by first | (rw [hy620]; with_reducible exact H) | (have H2_ := (Option.bind_some _ _).symm.trans H; rw [hy620]; with_reducible exact H2_) | (have H2_ := (Option.bind_some _ _).symm.trans H; with_reducible exact H2_) | with_reducible exact H | (rw [hy620]; exact H) | exact H
    have Ny620 := Aside0.mk hy620
    clear hy620
    obtain rfl := Option.some.inj H
    go_enter Try.func93, Try.ntmps93
    go_wp2_with (first | ((with_reducible refine gate_callee (f := 138) rfl ?_); refine goL_ (some 15) Try.func138 #[.string a2] ?_; (with_reducible refine (spec_l1LeafText.calls a2 t619 _ A6.out).mono ?_); rintro e w7 ⟨rfl, hb⟩; refine ⟨_, rfl, ?_⟩; replace HB := stepB_ hb; (try clear hb); (try clear hk)) | ((with_reducible refine gate_dst (N := 16) rfl ?_); refine Kd.R_lit Kd.string _ 9 ?hg (N := 16) ?hd (xs := ([t619] : List ByteArray)) (inner := [.string t619]) (ok := fun _ => True) (okp := fun _ => True) ?hr ?hp (fun _ hk => hk) trivial (Below.refl _ _) (Nat.le_refl _) (by simp) ?_; (case hd => rfl); (case hg => rfl); (case hr => first | (go_simp; done) | (go_simp; rfl)); (case hp => exact (Reps.one (show Kd.M Kd.string _ _ _ t619 [.string t619] from rfl) (Reps.none _ _))); intro v621 w8 ho9 hb hg_ hnew_; clear hg_ hnew_; (first | rw [← Ny620.out] at ho9 | (simp only [Int.reduceToNat] at ho9; rw [← Ny620.out] at ho9)); have HO622 := Aside0.mk (Kd.R_lower ho9 (below_size bel_)); replace HB := stepB_ hb; clear hb ho9))
    go_ret
    exact ⟨_, rfl_, by (with_reducible repeat (first | apply Kd.R_alloc | apply Kd.R_drewN | apply Kd.R_drew)); exact HO622.out, bel_⟩
  · rw [if_neg c5] at H
    have c5b0 : decide (a0 < 2) = false := decide_eq_false c5
    clear c5
    obtain ⟨t623, A10, H⟩ := bnd_ H
    obtain ⟨ji11, hji11⟩ : ∃ j_ : Int, (wrap64 ((l3.length : Int) - 1)) = j_ := ⟨_, rfl⟩
    replace H : (if 0 ≤ (ji11) then (if (ji11) < (l3.length : Int) then (if (ji11) ≤ (l3.length : Int) then ((some (l3.take ((ji11) : Int).toNat : List (S29))).bind fun y626 => (if a1 < t623 then ((spec_HashLeaf.f k a2).bind fun bt630 => ((spec_l3Up.f k t623 a1 bt630.1 bt630.2.1 bt630.2.2.1 bt630.2.2.2 y626).bind fun bt634 => ((spec_l1PairText.f k bt634.1 bt634.2.1 bt634.2.2.1 bt634.2.2.2 ((rd_T29 l3 (ji11)).f0) ((rd_T29 l3 (ji11)).f1) ((rd_T29 l3 (ji11)).f2) ((rd_T29 l3 (ji11)).f3)).bind fun t638 => ((spec_l4Down.f k t623 a1 a2 y626).bind fun t639 => ((spec_l4Behind.f k t638 t639).bind fun t642 => (some t642)))))) else ((spec_HashLeaf.f k a2).bind fun bt645 => ((spec_l3Up.f k (wrap64 (a0 - t623)) (wrap64 (a1 - t623)) bt645.1 bt645.2.1 bt645.2.2.1 bt645.2.2.2 y626).bind fun bt649 => ((spec_l1PairText.f k ((rd_T29 l3 (ji11)).f0) ((rd_T29 l3 (ji11)).f1) ((rd_T29 l3 (ji11)).f2) ((rd_T29 l3 (ji11)).f3) bt649.1 bt649.2.1 bt649.2.2.1 bt649.2.2.2).bind fun t653 => ((spec_l4Down.f k (wrap64 (a0 - t623)) (wrap64 (a1 - t623)) a2 y626).bind fun t654 => ((spec_l4Behind.f k t653 t654).bind fun t657 => (some t657)))))))) else (none)) else (none)) else (none)) = some r := by first | (rw [hji11] at H; exact H) | (simp only [hji11] at H ⊢; exact H)
    (try rw [hji11] at A10)
    have hji11w : (IntKind.i64.wrap ((l3.length : Int) - 1)) = ji11 := (i64_w _).trans hji11
    by_cases c12 : 0 ≤ (ji11)
    · rw [if_pos c12] at H
      have c12b0 : decide (0 ≤ (ji11)) = true := decide_eq_true c12
      clear c12
      by_cases c13 : (ji11) < (l3.length : Int)
      · rw [if_pos c13] at H
        have c13b0 : decide ((ji11) < (l3.length : Int)) = true := decide_eq_true c13
        clear c13
        have c14b0 := eq_true (ofd_ : 0 ≤ (ji11))
        by_cases c15 : (ji11) ≤ (l3.length : Int)
        · rw [if_pos c15] at H
          have c15b0 := eq_true c15
          have c15b1 : decide ((ji11) ≤ (l3.length : Int)) = true := decide_eq_true c15
          clear c15
          obtain ⟨y626, hy626⟩ : ∃ y_ : List (S29), y_ = (l3.take ((ji11) : Int).toNat) := ⟨_, rfl⟩
          replace H : (if a1 < t623 then ((spec_HashLeaf.f k a2).bind fun bt630 => ((spec_l3Up.f k t623 a1 bt630.1 bt630.2.1 bt630.2.2.1 bt630.2.2.2 y626).bind fun bt634 => ((spec_l1PairText.f k bt634.1 bt634.2.1 bt634.2.2.1 bt634.2.2.2 ((rd_T29 l3 (ji11)).f0) ((rd_T29 l3 (ji11)).f1) ((rd_T29 l3 (ji11)).f2) ((rd_T29 l3 (ji11)).f3)).bind fun t638 => ((spec_l4Down.f k t623 a1 a2 y626).bind fun t639 => ((spec_l4Behind.f k t638 t639).bind fun t642 => (some t642)))))) else ((spec_HashLeaf.f k a2).bind fun bt645 => ((spec_l3Up.f k (wrap64 (a0 - t623)) (wrap64 (a1 - t623)) bt645.1 bt645.2.1 bt645.2.2.1 bt645.2.2.2 y626).bind fun bt649 => ((spec_l1PairText.f k ((rd_T29 l3 (ji11)).f0) ((rd_T29 l3 (ji11)).f1) ((rd_T29 l3 (ji11)).f2) ((rd_T29 l3 (ji11)).f3) bt649.1 bt649.2.1 bt649.2.2.1 bt649.2.2.2).bind fun t653 => ((spec_l4Down.f k (wrap64 (a0 - t623)) (wrap64 (a1 - t623)) a2 y626).bind fun t654 => ((spec_l4Behind.f k t653 t654).bind fun t657 => (some t657))))))) = some r := by first | (rw [hy626]; with_reducible exact H) | (have H2_ := (Option.bind_some _ _).symm.trans H; rw [hy626]; with_reducible exact H2_) | (have H2_ := (Option.bind_some _ _).symm.trans H; with_reducible exact H2_) | with_reducible exact H | (rw [hy626]; exact H) | exact H
          have Ny626 := Aside0.mk hy626
          clear hy626
          by_cases c16 : a1 < t623
          · rw [if_pos c16] at H
            have c16b0 : decide (a1 < t623) = true := decide_eq_true c16
            clear c16
            obtain ⟨⟨t630, t631, t632, t633⟩, A17, H⟩ := bnd_ H
            dsimp only at H
            obtain ⟨⟨t634, t635, t636, t637⟩, A18, H⟩ := bnd_ H
            dsimp only at H
            obtain ⟨t638, A19, H⟩ := bnd_ H
            obtain ⟨t639, A20, H⟩ := bnd_ H
            obtain ⟨t642, A21, H⟩ := bnd_ H
            obtain rfl := Option.some.inj H
            go_enter Try.func93, Try.ntmps93
            try go_wp2_with (first | ((with_reducible refine gate_callee (f := 55) rfl ?_); refine goL_ (some 18) Try.func55 #[.int .i64 a0] ?_; (with_reducible refine (spec_TreeSplit.calls k a0 t623 _ A10.out).mono ?_); rintro e w' ⟨rfl, ⟨nd, rfl⟩⟩; refine ⟨_, rfl, ?_⟩; have p624 : 0 ≤ ((ji11) : Int) := ofd_; have q624 : (ji11) < (l3.length : Int) := ofd_; obtain ⟨ad624, e624, hx624_0, hx624_1, hx624_2, hx624_3⟩ := at_T29 HR3.out (ji11) p624 q624; cases e624; replace p624 := eq_true p624; replace q624 := eq_true q624) | ((with_reducible refine gate_dst (N := 10) rfl ?_); refine boxE_ (cs := #[.int .u64 0, .int .u64 0, .int .u64 0, .int .u64 0]) (t := 29) ?_; intro gb625 hg w22 hbox hb; have BK625 := Aside0.mk (hbox); have GW625 := sizeB_ hg; have GE625 := sizeB_ hg; replace HB := stepB_ hb; clear hb hbox hg; obtain ⟨hcz23_0, hcz23_1, hcz23_2, hcz23_3, hfz23_0, hfz23_1, hfz23_2, hfz23_3⟩ := cz4_ BK625.out) | ((with_reducible refine gate_store (t := 29) (p := 10) rfl ?_); refine store_event (t := 29) (p := 10) (v := ?vo_w24) (w1 := ((((w22.setCell ⟨gb625, 0, none⟩ (.int .u64 ((rd_T29 l3 (ji11)).f0))).setCell ⟨gb625, 1, none⟩ (.int .u64 ((rd_T29 l3 (ji11)).f1))).setCell ⟨gb625, 2, none⟩ (.int .u64 ((rd_T29 l3 (ji11)).f2))).setCell ⟨gb625, 3, none⟩ (.int .u64 ((rd_T29 l3 (ji11)).f3)))) ?hg ?ho ?hn ?hr ?_; (case ho => rfl); (case hg => rfl); (case hn => rfl); (case hr => first | (go_simp; done) | (go_simp; rfl)); intro w24 hw; have n0_ : Aside0 (w24.heap[gb625]? = some (.cells #[.int .u64 ((rd_T29 l3 (ji11)).f0), .int .u64 ((rd_T29 l3 (ji11)).f1), .int .u64 ((rd_T29 l3 (ji11)).f2), .int .u64 ((rd_T29 l3 (ji11)).f3)] 29 (0, 0))) := ⟨(by rw [hw]; exact (blkF_ BK625.out))⟩; have n1_ : Aside0 (Below w.heap.size w w24) := ⟨(by rw [hw]; exact bel_)⟩; clear hw; clear BK625; clear HB; have BK625 := n0_; have HB := n1_; clear n0_ n1_; have q25 : ((ji11) : Int) ≤ ((l3.length : Int) : Int) := ofd_; obtain ⟨i025, hi025, _, hsz25, _⟩ := info_parts info29; have hroom25 : l3.length ≤ c3 := HC3.out; have hC25 : Kd.C k29 _ (some ad624) l3.length l3 := HR3.out; have hcut25 := cut_to (P := Try.prog) 49 29 .i64 Try.underlying49 hi025 (some ad624) l3.length c3 (ji11) (ofd_) q25 hroom25; have hr25 := Kd.C_take (m := ((ji11) : Int).toNat) hC25 (by omega); have hy25 : y626.length = ((ji11) : Int).toNat := (by rw [Ny626.out, List.length_take]; omega); rw [← Ny626.out] at hr25; rw [← hy25] at hcut25; have HR629 := Aside0.mk hr25; have HC629 := Aside0.mk (show y626.length ≤ c3 from by omega); clear hr25 hC25 hroom25 hi025 hsz25; have KY25 := Aside0.mk hy25; clear hy25; replace q25 := eq_true q25))
            replace BK625 := Aside0.mk (blk_drew BK625.out)
            replace HB := Aside0.mk (below_drew1 HB.out)
            refine start_ (n := 15) (S := fun w' => w'.cell? ⟨gb625, 0, none⟩ = some (.int .u64 ((rd_T29 l3 (ji11)).f0)) ∧ w'.cell? ⟨gb625, 1, none⟩ = some (.int .u64 ((rd_T29 l3 (ji11)).f1)) ∧ w'.cell? ⟨gb625, 2, none⟩ = some (.int .u64 ((rd_T29 l3 (ji11)).f2)) ∧ w'.cell? ⟨gb625, 3, none⟩ = some (.int .u64 ((rd_T29 l3 (ji11)).f3))) (ds := []) #[false, false, false, false, false, false, false, false, false, false, false, false, false, false, false] (by kernel_rfl) rfl rfl ⟨(blk_cell BK625.out 0).trans rfl, (blk_cell BK625.out 1).trans rfl, (blk_cell BK625.out 2).trans rfl, (blk_cell BK625.out 3).trans rfl⟩ (fun hHeld => ?_); refine with_tabW spec_l4Down.tab7 spec_l4Down.bits7 (fun HT_ HW_ => ?_)
            generalize w24.drew = w26 at BK625 HB hHeld ⊢
            refine pureP_ 0 (some 33) #[true, false, false, false, false, false, false, false, false, false, false, false, false, false, false] HT_ ?_
            refine pureP_ 1 (some 34) #[true, true, false, false, false, false, false, false, false, false, false, false, false, false, false] HT_ ?_
            refine pureP_ 2 (some 35) #[true, true, true, false, false, false, false, false, false, false, false, false, false, false, false] HT_ ?_
            refine pureP_ 4 (some 37) #[true, true, true, false, true, false, false, false, false, false, false, false, false, false, false] HT_ ?_
            refine pureP_ 8 (some 41) #[true, true, true, false, true, false, false, false, true, false, false, false, false, false, false] HT_ ?_
            refine pureP_ 9 (some 42) #[true, true, true, false, true, false, false, false, true, true, false, false, false, false, false] HT_ ?_
            refine pureP_ 10 (some 43) #[true, true, true, false, true, false, false, false, true, true, true, false, false, false, false] HT_ ?_
            refine pureP_ 11 (some 44) #[true, true, true, false, true, false, false, false, true, true, true, true, false, false, false] HT_ ?_
            refine takeP_ 6 (some 39) #[true, true, true, false, true, false, true, false, true, true, true, true, false, false, false] HT_ HW_ hHeld ?_
            refine oneP_ 3 (some 36) #[true, true, true, true, true, false, true, false, true, true, true, true, false, false, false] HT_ (fun K hK => ?_)
            refine goN_ Try.func102 #[.string a2] ?_
            with_reducible refine (spec_HashLeaf.calls k a2 t630 t631 t632 t633 _ A17.out).mono ?_
            rintro e w27 ⟨rfl, hb⟩
            refine ⟨_, rfl, ?_⟩
            replace BK625 := blkBel_ BK625.out hb
            replace HB := stepB_ hb
            (try clear hb); (try clear hk)
            refine hK.out _ _ ⟨(blk_cell BK625.out 0).trans rfl, (blk_cell BK625.out 1).trans rfl, (blk_cell BK625.out 2).trans rfl, (blk_cell BK625.out 3).trans rfl⟩ (fun hHeld => ?_)
            clear hK K
            refine norm_ (a' := ?_) ?_ ?_
            rotate_left
            · show Act.put _ (some 36) _ = _
              simp only [Act.put, List.setIfInBounds_toArray, List.set_cons_zero, List.set_cons_succ, i64_w, i32_w]
              rfl
            refine oneP_ 5 (some 38) #[true, true, true, true, true, true, true, false, true, true, true, true, false, false, false] HT_ (fun K hK => ?_)
            refine goN_ Try.func101 #[.int .i64 t623, .int .i64 a1, .agg #[.int .u64 t630, .int .u64 t631, .int .u64 t632, .int .u64 t633], .slice (some ad624) y626.length c3] ?_
            with_reducible refine (spec_l3Up.calls k t623 a1 t630 t631 t632 t633 _ _ y626 t634 t635 t636 t637 _ ?side1 ?side2 A18.out).mono ?_
            (case side1 => repeat (first | exact (Kd.C_below HR629.out HB.out) | (with_reducible refine Kd.C_alloc ?_ _) | (with_reducible refine Kd.C_drewN ?_ _) | (with_reducible refine Kd.C_drew ?_)))
            (case side2 => exact HC629.out)
            rintro e w28 ⟨rfl, hb⟩
            refine ⟨_, rfl, ?_⟩
            replace BK625 := blkBel_ BK625.out hb
            replace HB := stepB_ hb
            (try clear hb); (try clear hk)
            refine hK.out _ _ ⟨(blk_cell BK625.out 0).trans rfl, (blk_cell BK625.out 1).trans rfl, (blk_cell BK625.out 2).trans rfl, (blk_cell BK625.out 3).trans rfl⟩ (fun hHeld => ?_)
            clear hK K
            refine norm_ (a' := ?_) ?_ ?_
            rotate_left
            · show Act.put _ (some 38) _ = _
              simp only [Act.put, List.setIfInBounds_toArray, List.set_cons_zero, List.set_cons_succ, i64_w, i32_w]
              rfl
            refine oneP_ 7 (some 40) #[true, true, true, true, true, true, true, true, true, true, true, true, false, false, false] HT_ (fun K hK => ?_)
            refine goes_ Try.func140 (by kernel_rfl) rfl #[.agg #[.int .u64 t634, .int .u64 t635, .int .u64 t636, .int .u64 t637], .agg #[.int .u64 ((rd_T29 l3 (ji11)).f0), .int .u64 ((rd_T29 l3 (ji11)).f1), .int .u64 ((rd_T29 l3 (ji11)).f2), .int .u64 ((rd_T29 l3 (ji11)).f3)]] (by rfl) rfl rfl (by (try simp only [List.map_toArray, List.map_cons, List.map_nil]); first | done | (simp only [hji11]; rfl) | rfl | (simp only [List.length_drop, List.length_take]; rfl)) ?_
            with_reducible refine (spec_l1PairText.calls k t634 t635 t636 t637 ((rd_T29 l3 (ji11)).f0) ((rd_T29 l3 (ji11)).f1) ((rd_T29 l3 (ji11)).f2) ((rd_T29 l3 (ji11)).f3) t638 _ A19.out).mono ?_
            rintro e w29 ⟨rfl, hb⟩
            refine ⟨_, rfl, ?_⟩
            replace BK625 := blkBel_ BK625.out hb
            replace HB := stepB_ hb
            (try clear hb); (try clear hk)
            refine hK.out _ _ ⟨(blk_cell BK625.out 0).trans rfl, (blk_cell BK625.out 1).trans rfl, (blk_cell BK625.out 2).trans rfl, (blk_cell BK625.out 3).trans rfl⟩ (fun hHeld => ?_)
            clear hK K
            refine norm_ (a' := ?_) ?_ ?_
            rotate_left
            · show Act.put _ (some 40) _ = _
              simp only [Act.put, List.setIfInBounds_toArray, List.set_cons_zero, List.set_cons_succ, i64_w, i32_w]
              rfl
            refine oneP_ 12 (some 45) #[true, true, true, true, true, true, true, true, true, true, true, true, true, false, false] HT_ (fun K hK => ?_)
            refine goN_ Try.func93 #[.int .i64 t623, .int .i64 a1, .string a2, .slice (some ad624) y626.length c3] ?_
            with_reducible refine (ih k (by omega) t623 a1 a2 _ _ y626 t639 _ ?side1 ?side2 A20.out).mono ?_
            (case side1 => repeat (first | exact (Kd.C_below HR629.out HB.out) | (with_reducible refine Kd.C_alloc ?_ _) | (with_reducible refine Kd.C_drewN ?_ _) | (with_reducible refine Kd.C_drew ?_)))
            (case side2 => exact HC629.out)
            rintro e w30 ⟨v640, rfl, ho0, hb⟩
            refine ⟨_, rfl, ?_⟩
            have HO641 := Aside0.mk (Kd.R_lower ho0 (below_size bel_))
            replace BK625 := blkBel_ BK625.out hb
            replace HB := stepB_ hb
            (try clear hb); (try clear hk); (try clear ho0)
            obtain ⟨Ao31, co31, eo31⟩ := Kd.R_slice HO641.out
            (first | subst eo31 | (injection eo31 with f1_ f2_ f3_; have f4_ := f1_.symm; have f5_ := f3_.symm; clear f1_ f2_ f3_; subst f4_; subst f5_))
            refine hK.out _ _ ⟨(blk_cell BK625.out 0).trans rfl, (blk_cell BK625.out 1).trans rfl, (blk_cell BK625.out 2).trans rfl, (blk_cell BK625.out 3).trans rfl⟩ (fun hHeld => ?_)
            clear hK K
            refine norm_ (a' := ?_) ?_ ?_
            rotate_left
            · show Act.put _ (some 45) _ = _
              simp only [Act.put, List.setIfInBounds_toArray, List.set_cons_zero, List.set_cons_succ, i64_w, i32_w]
              rfl
            refine oneP_ 13 (some 46) #[true, true, true, true, true, true, true, true, true, true, true, true, true, true, false] HT_ (fun K hK => ?_)
            refine goN_ Try.func139 #[.string t638, .slice Ao31 t639.length co31] ?_
            with_reducible refine (spec_l4Behind.calls k t638 _ _ t639 t642 _ ?side1 ?side2 A21.out).mono ?_
            (case side1 => repeat (first | exact (Kd.R_reads' HO641.out).2.2 | (with_reducible refine Kd.C_alloc ?_ _) | (with_reducible refine Kd.C_drewN ?_ _) | (with_reducible refine Kd.C_drew ?_)))
            (case side2 => exact (Kd.R_reads' HO641.out).2.1)
            rintro e w32 ⟨v643, rfl, ho0, hb⟩
            refine ⟨_, rfl, ?_⟩
            have HO644 := Aside0.mk (Kd.R_lower (Kd.R_new' ho0 (Kd.R_lt (kdU_ HO641.out))) (below_size bel_))
            replace HO641 := Aside0.mk (Kd.R_elder' (kdU_ HO641.out) (Kd.R_base ho0) hb)
            replace BK625 := blkBel_ BK625.out hb
            replace HB := stepB_ hb
            (try clear hb); (try clear hk); (try clear ho0)
            refine hK.out _ _ ⟨(blk_cell BK625.out 0).trans rfl, (blk_cell BK625.out 1).trans rfl, (blk_cell BK625.out 2).trans rfl, (blk_cell BK625.out 3).trans rfl⟩ (fun hHeld => ?_)
            clear hK K
            refine norm_ (a' := ?_) ?_ ?_
            rotate_left
            · show Act.put _ (some 46) _ = _
              simp only [Act.put, List.setIfInBounds_toArray, List.set_cons_zero, List.set_cons_succ, i64_w, i32_w]
              rfl
            refine pureP_ 14 (some 8) #[true, true, true, true, true, true, true, true, true, true, true, true, true, true, true] HT_ ?_
            refine done_ (done_of HT_.out (by kernel_rfl)) ?_
            try go_wp2
            go_ret
            exact ⟨_, by first | rfl | (simp [errW_none, errW_some] <;> rfl) | (simp only [← hji11]; first | rfl | (simp [errW_none, errW_some] <;> rfl)) | (simp [*, errW_none, errW_some] <;> rfl), by (with_reducible repeat (first | apply Kd.R_alloc | apply Kd.R_drewN | apply Kd.R_drew)); exact Kd.R_mono HO644.out (fun _ hk => trivial), bel_⟩
          · rw [if_neg c16] at H
            have c16b0 : decide (a1 < t623) = false := decide_eq_false c16
            clear c16
            obtain ⟨⟨t645, t646, t647, t648⟩, A33, H⟩ := bnd_ H
            dsimp only at H
            obtain ⟨⟨t649, t650, t651, t652⟩, A34, H⟩ := bnd_ H
            dsimp only at H
            obtain ⟨t653, A35, H⟩ := bnd_ H
            obtain ⟨t654, A36, H⟩ := bnd_ H
            obtain ⟨t657, A37, H⟩ := bnd_ H
            obtain rfl := Option.some.inj H
            go_enter Try.func93, Try.ntmps93
            try go_wp2_with (first | ((with_reducible refine gate_callee (f := 55) rfl ?_); refine goL_ (some 18) Try.func55 #[.int .i64 a0] ?_; (with_reducible refine (spec_TreeSplit.calls k a0 t623 _ A10.out).mono ?_); rintro e w' ⟨rfl, ⟨nd, rfl⟩⟩; refine ⟨_, rfl, ?_⟩; have p624 : 0 ≤ ((ji11) : Int) := ofd_; have q624 : (ji11) < (l3.length : Int) := ofd_; obtain ⟨ad624, e624, hx624_0, hx624_1, hx624_2, hx624_3⟩ := at_T29 HR3.out (ji11) p624 q624; cases e624; replace p624 := eq_true p624; replace q624 := eq_true q624) | ((with_reducible refine gate_dst (N := 10) rfl ?_); refine boxE_ (cs := #[.int .u64 0, .int .u64 0, .int .u64 0, .int .u64 0]) (t := 29) ?_; intro gb625 hg w38 hbox hb; have BK625 := Aside0.mk (hbox); have GW625 := sizeB_ hg; have GE625 := sizeB_ hg; replace HB := stepB_ hb; clear hb hbox hg; obtain ⟨hcz39_0, hcz39_1, hcz39_2, hcz39_3, hfz39_0, hfz39_1, hfz39_2, hfz39_3⟩ := cz4_ BK625.out) | ((with_reducible refine gate_store (t := 29) (p := 10) rfl ?_); refine store_event (t := 29) (p := 10) (v := ?vo_w40) (w1 := ((((w38.setCell ⟨gb625, 0, none⟩ (.int .u64 ((rd_T29 l3 (ji11)).f0))).setCell ⟨gb625, 1, none⟩ (.int .u64 ((rd_T29 l3 (ji11)).f1))).setCell ⟨gb625, 2, none⟩ (.int .u64 ((rd_T29 l3 (ji11)).f2))).setCell ⟨gb625, 3, none⟩ (.int .u64 ((rd_T29 l3 (ji11)).f3)))) ?hg ?ho ?hn ?hr ?_; (case ho => rfl); (case hg => rfl); (case hn => rfl); (case hr => first | (go_simp; done) | (go_simp; rfl)); intro w40 hw; have n0_ : Aside0 (w40.heap[gb625]? = some (.cells #[.int .u64 ((rd_T29 l3 (ji11)).f0), .int .u64 ((rd_T29 l3 (ji11)).f1), .int .u64 ((rd_T29 l3 (ji11)).f2), .int .u64 ((rd_T29 l3 (ji11)).f3)] 29 (0, 0))) := ⟨(by rw [hw]; exact (blkF_ BK625.out))⟩; have n1_ : Aside0 (Below w.heap.size w w40) := ⟨(by rw [hw]; exact bel_)⟩; clear hw; clear BK625; clear HB; have BK625 := n0_; have HB := n1_; clear n0_ n1_; have q41 : ((ji11) : Int) ≤ ((l3.length : Int) : Int) := ofd_; obtain ⟨i041, hi041, _, hsz41, _⟩ := info_parts info29; have hroom41 : l3.length ≤ c3 := HC3.out; have hC41 : Kd.C k29 _ (some ad624) l3.length l3 := HR3.out; have hcut41 := cut_to (P := Try.prog) 49 29 .i64 Try.underlying49 hi041 (some ad624) l3.length c3 (ji11) (ofd_) q41 hroom41; have hr41 := Kd.C_take (m := ((ji11) : Int).toNat) hC41 (by omega); have hy41 : y626.length = ((ji11) : Int).toNat := (by rw [Ny626.out, List.length_take]; omega); rw [← Ny626.out] at hr41; rw [← hy41] at hcut41; have HR629 := Aside0.mk hr41; have HC629 := Aside0.mk (show y626.length ≤ c3 from by omega); clear hr41 hC41 hroom41 hi041 hsz41; have KY41 := Aside0.mk hy41; clear hy41; replace q41 := eq_true q41))
            replace BK625 := Aside0.mk (blk_drew BK625.out)
            replace HB := Aside0.mk (below_drew1 HB.out)
            refine start_ (n := 23) (S := fun w' => w'.cell? ⟨gb625, 0, none⟩ = some (.int .u64 ((rd_T29 l3 (ji11)).f0)) ∧ w'.cell? ⟨gb625, 1, none⟩ = some (.int .u64 ((rd_T29 l3 (ji11)).f1)) ∧ w'.cell? ⟨gb625, 2, none⟩ = some (.int .u64 ((rd_T29 l3 (ji11)).f2)) ∧ w'.cell? ⟨gb625, 3, none⟩ = some (.int .u64 ((rd_T29 l3 (ji11)).f3))) (ds := []) #[false, false, false, false, false, false, false, false, false, false, false, false, false, false, false, false, false, false, false, false, false, false, false] (by kernel_rfl) rfl rfl ⟨(blk_cell BK625.out 0).trans rfl, (blk_cell BK625.out 1).trans rfl, (blk_cell BK625.out 2).trans rfl, (blk_cell BK625.out 3).trans rfl⟩ (fun hHeld => ?_); refine with_tabW spec_l4Down.tab8 spec_l4Down.bits8 (fun HT_ HW_ => ?_)
            generalize w40.drew = w42 at BK625 HB hHeld ⊢
            refine pureP_ 1 (some 48) #[false, true, false, false, false, false, false, false, false, false, false, false, false, false, false, false, false, false, false, false, false, false, false] HT_ ?_
            refine pureP_ 2 (some 49) #[false, true, true, false, false, false, false, false, false, false, false, false, false, false, false, false, false, false, false, false, false, false, false] HT_ ?_
            refine pureP_ 3 (some 50) #[false, true, true, true, false, false, false, false, false, false, false, false, false, false, false, false, false, false, false, false, false, false, false] HT_ ?_
            refine pureP_ 4 (some 51) #[false, true, true, true, true, false, false, false, false, false, false, false, false, false, false, false, false, false, false, false, false, false, false] HT_ ?_
            refine pureP_ 5 (some 52) #[false, true, true, true, true, true, false, false, false, false, false, false, false, false, false, false, false, false, false, false, false, false, false] HT_ ?_
            refine pureP_ 6 (some 53) #[false, true, true, true, true, true, true, false, false, false, false, false, false, false, false, false, false, false, false, false, false, false, false] HT_ ?_
            refine pureP_ 7 (some 54) #[false, true, true, true, true, true, true, true, false, false, false, false, false, false, false, false, false, false, false, false, false, false, false] HT_ ?_
            refine pureP_ 9 (some 56) #[false, true, true, true, true, true, true, true, false, true, false, false, false, false, false, false, false, false, false, false, false, false, false] HT_ ?_
            refine pureP_ 12 (some 59) #[false, true, true, true, true, true, true, true, false, true, false, false, true, false, false, false, false, false, false, false, false, false, false] HT_ ?_
            refine pureP_ 13 (some 60) #[false, true, true, true, true, true, true, true, false, true, false, false, true, true, false, false, false, false, false, false, false, false, false] HT_ ?_
            refine pureP_ 14 (some 61) #[false, true, true, true, true, true, true, true, false, true, false, false, true, true, true, false, false, false, false, false, false, false, false] HT_ ?_
            refine pureP_ 15 (some 62) #[false, true, true, true, true, true, true, true, false, true, false, false, true, true, true, true, false, false, false, false, false, false, false] HT_ ?_
            refine pureP_ 16 (some 63) #[false, true, true, true, true, true, true, true, false, true, false, false, true, true, true, true, true, false, false, false, false, false, false] HT_ ?_
            refine pureP_ 17 (some 64) #[false, true, true, true, true, true, true, true, false, true, false, false, true, true, true, true, true, true, false, false, false, false, false] HT_ ?_
            refine pureP_ 18 (some 65) #[false, true, true, true, true, true, true, true, false, true, false, false, true, true, true, true, true, true, true, false, false, false, false] HT_ ?_
            refine pureP_ 19 (some 66) #[false, true, true, true, true, true, true, true, false, true, false, false, true, true, true, true, true, true, true, true, false, false, false] HT_ ?_
            refine takeP_ 0 (some 47) #[true, true, true, true, true, true, true, true, false, true, false, false, true, true, true, true, true, true, true, true, false, false, false] HT_ HW_ hHeld ?_
            refine oneP_ 8 (some 55) #[true, true, true, true, true, true, true, true, true, true, false, false, true, true, true, true, true, true, true, true, false, false, false] HT_ (fun K hK => ?_)
            refine goN_ Try.func102 #[.string a2] ?_
            with_reducible refine (spec_HashLeaf.calls k a2 t645 t646 t647 t648 _ A33.out).mono ?_
            rintro e w43 ⟨rfl, hb⟩
            refine ⟨_, rfl, ?_⟩
            replace BK625 := blkBel_ BK625.out hb
            replace HB := stepB_ hb
            (try clear hb); (try clear hk)
            refine hK.out _ _ ⟨(blk_cell BK625.out 0).trans rfl, (blk_cell BK625.out 1).trans rfl, (blk_cell BK625.out 2).trans rfl, (blk_cell BK625.out 3).trans rfl⟩ (fun hHeld => ?_)
            clear hK K
            refine norm_ (a' := ?_) ?_ ?_
            rotate_left
            · show Act.put _ (some 55) _ = _
              simp only [Act.put, List.setIfInBounds_toArray, List.set_cons_zero, List.set_cons_succ, i64_w, i32_w]
              rfl
            refine oneP_ 10 (some 57) #[true, true, true, true, true, true, true, true, true, true, true, false, true, true, true, true, true, true, true, true, false, false, false] HT_ (fun K hK => ?_)
            refine goN_ Try.func101 #[.int .i64 (wrap64 (a0 - t623)), .int .i64 (wrap64 (a1 - t623)), .agg #[.int .u64 t645, .int .u64 t646, .int .u64 t647, .int .u64 t648], .slice (some ad624) y626.length c3] ?_
            with_reducible refine (spec_l3Up.calls k (wrap64 (a0 - t623)) (wrap64 (a1 - t623)) t645 t646 t647 t648 _ _ y626 t649 t650 t651 t652 _ ?side1 ?side2 A34.out).mono ?_
            (case side1 => repeat (first | exact (Kd.C_below HR629.out HB.out) | (with_reducible refine Kd.C_alloc ?_ _) | (with_reducible refine Kd.C_drewN ?_ _) | (with_reducible refine Kd.C_drew ?_)))
            (case side2 => exact HC629.out)
            rintro e w44 ⟨rfl, hb⟩
            refine ⟨_, rfl, ?_⟩
            replace BK625 := blkBel_ BK625.out hb
            replace HB := stepB_ hb
            (try clear hb); (try clear hk)
            refine hK.out _ _ ⟨(blk_cell BK625.out 0).trans rfl, (blk_cell BK625.out 1).trans rfl, (blk_cell BK625.out 2).trans rfl, (blk_cell BK625.out 3).trans rfl⟩ (fun hHeld => ?_)
            clear hK K
            refine norm_ (a' := ?_) ?_ ?_
            rotate_left
            · show Act.put _ (some 57) _ = _
              simp only [Act.put, List.setIfInBounds_toArray, List.set_cons_zero, List.set_cons_succ, i64_w, i32_w]
              rfl
            refine oneP_ 11 (some 58) #[true, true, true, true, true, true, true, true, true, true, true, true, true, true, true, true, true, true, true, true, false, false, false] HT_ (fun K hK => ?_)
            refine goes_ Try.func140 (by kernel_rfl) rfl #[.agg #[.int .u64 ((rd_T29 l3 (ji11)).f0), .int .u64 ((rd_T29 l3 (ji11)).f1), .int .u64 ((rd_T29 l3 (ji11)).f2), .int .u64 ((rd_T29 l3 (ji11)).f3)], .agg #[.int .u64 t649, .int .u64 t650, .int .u64 t651, .int .u64 t652]] (by rfl) rfl rfl (by (try simp only [List.map_toArray, List.map_cons, List.map_nil]); first | done | (simp only [hji11]; rfl) | rfl | (simp only [List.length_drop, List.length_take]; rfl)) ?_
            with_reducible refine (spec_l1PairText.calls k ((rd_T29 l3 (ji11)).f0) ((rd_T29 l3 (ji11)).f1) ((rd_T29 l3 (ji11)).f2) ((rd_T29 l3 (ji11)).f3) t649 t650 t651 t652 t653 _ A35.out).mono ?_
            rintro e w45 ⟨rfl, hb⟩
            refine ⟨_, rfl, ?_⟩
            replace BK625 := blkBel_ BK625.out hb
            replace HB := stepB_ hb
            (try clear hb); (try clear hk)
            refine hK.out _ _ ⟨(blk_cell BK625.out 0).trans rfl, (blk_cell BK625.out 1).trans rfl, (blk_cell BK625.out 2).trans rfl, (blk_cell BK625.out 3).trans rfl⟩ (fun hHeld => ?_)
            clear hK K
            refine norm_ (a' := ?_) ?_ ?_
            rotate_left
            · show Act.put _ (some 58) _ = _
              simp only [Act.put, List.setIfInBounds_toArray, List.set_cons_zero, List.set_cons_succ, i64_w, i32_w]
              rfl
            refine oneP_ 20 (some 67) #[true, true, true, true, true, true, true, true, true, true, true, true, true, true, true, true, true, true, true, true, true, false, false] HT_ (fun K hK => ?_)
            refine goN_ Try.func93 #[.int .i64 (wrap64 (a0 - t623)), .int .i64 (wrap64 (a1 - t623)), .string a2, .slice (some ad624) y626.length c3] ?_
            with_reducible refine (ih k (by omega) (wrap64 (a0 - t623)) (wrap64 (a1 - t623)) a2 _ _ y626 t654 _ ?side1 ?side2 A36.out).mono ?_
            (case side1 => repeat (first | exact (Kd.C_below HR629.out HB.out) | (with_reducible refine Kd.C_alloc ?_ _) | (with_reducible refine Kd.C_drewN ?_ _) | (with_reducible refine Kd.C_drew ?_)))
            (case side2 => exact HC629.out)
            rintro e w46 ⟨v655, rfl, ho0, hb⟩
            refine ⟨_, rfl, ?_⟩
            have HO656 := Aside0.mk (Kd.R_lower ho0 (below_size bel_))
            replace BK625 := blkBel_ BK625.out hb
            replace HB := stepB_ hb
            (try clear hb); (try clear hk); (try clear ho0)
            obtain ⟨Ao47, co47, eo47⟩ := Kd.R_slice HO656.out
            (first | subst eo47 | (injection eo47 with f1_ f2_ f3_; have f4_ := f1_.symm; have f5_ := f3_.symm; clear f1_ f2_ f3_; subst f4_; subst f5_))
            refine hK.out _ _ ⟨(blk_cell BK625.out 0).trans rfl, (blk_cell BK625.out 1).trans rfl, (blk_cell BK625.out 2).trans rfl, (blk_cell BK625.out 3).trans rfl⟩ (fun hHeld => ?_)
            clear hK K
            refine norm_ (a' := ?_) ?_ ?_
            rotate_left
            · show Act.put _ (some 67) _ = _
              simp only [Act.put, List.setIfInBounds_toArray, List.set_cons_zero, List.set_cons_succ, i64_w, i32_w]
              rfl
            refine oneP_ 21 (some 68) #[true, true, true, true, true, true, true, true, true, true, true, true, true, true, true, true, true, true, true, true, true, true, false] HT_ (fun K hK => ?_)
            refine goN_ Try.func139 #[.string t653, .slice Ao47 t654.length co47] ?_
            with_reducible refine (spec_l4Behind.calls k t653 _ _ t654 t657 _ ?side1 ?side2 A37.out).mono ?_
            (case side1 => repeat (first | exact (Kd.R_reads' HO656.out).2.2 | (with_reducible refine Kd.C_alloc ?_ _) | (with_reducible refine Kd.C_drewN ?_ _) | (with_reducible refine Kd.C_drew ?_)))
            (case side2 => exact (Kd.R_reads' HO656.out).2.1)
            rintro e w48 ⟨v658, rfl, ho0, hb⟩
            refine ⟨_, rfl, ?_⟩
            have HO659 := Aside0.mk (Kd.R_lower (Kd.R_new' ho0 (Kd.R_lt (kdU_ HO656.out))) (below_size bel_))
            replace HO656 := Aside0.mk (Kd.R_elder' (kdU_ HO656.out) (Kd.R_base ho0) hb)
            replace BK625 := blkBel_ BK625.out hb
            replace HB := stepB_ hb
            (try clear hb); (try clear hk); (try clear ho0)
            refine hK.out _ _ ⟨(blk_cell BK625.out 0).trans rfl, (blk_cell BK625.out 1).trans rfl, (blk_cell BK625.out 2).trans rfl, (blk_cell BK625.out 3).trans rfl⟩ (fun hHeld => ?_)
            clear hK K
            refine norm_ (a' := ?_) ?_ ?_
            rotate_left
            · show Act.put _ (some 68) _ = _
              simp only [Act.put, List.setIfInBounds_toArray, List.set_cons_zero, List.set_cons_succ, i64_w, i32_w]
              rfl
            refine pureP_ 22 (some 8) #[true, true, true, true, true, true, true, true, true, true, true, true, true, true, true, true, true, true, true, true, true, true, true] HT_ ?_
            refine done_ (done_of HT_.out (by kernel_rfl)) ?_
            try go_wp2
            go_ret
            exact ⟨_, by first | rfl | (simp [errW_none, errW_some] <;> rfl) | (simp only [← hji11]; first | rfl | (simp [errW_none, errW_some] <;> rfl)) | (simp [*, errW_none, errW_some] <;> rfl), by (with_reducible repeat (first | apply Kd.R_alloc | apply Kd.R_drewN | apply Kd.R_drew)); exact Kd.R_mono HO659.out (fun _ hk => trivial), bel_⟩
        · rw [if_neg c15] at H
          exact absurd H (by simp)
      · rw [if_neg c13] at H
        exact absurd H (by simp)
    · rw [if_neg c12] at H
      exact absurd H (by simp)

end
section
/-! ### impl_ClashRow: function 81 -/
def impl_ClashRow.l0 : Nat → ByteArray → List (S106) → List ByteArray → Int → Option (List ByteArray × Bool)
  | 0, _, _, _, _ => none
  | k + 1, x2, x10, x11, x12 => if x12 ≥ 0 then (if 0 ≤ x12 then (if x12 < (x10.length : Int) then ((impl_pairText.f k ((rd_T106 x10 x12).f0.f0) ((rd_T106 x10 x12).f0.f1) ((rd_T106 x10 x12).f0.f2) ((rd_T106 x10 x12).f0.f3) ((rd_T106 x10 x12).f1.f0) ((rd_T106 x10 x12).f1.f1) ((rd_T106 x10 x12).f1.f2) ((rd_T106 x10 x12).f1.f3)).bind fun t783 => (if x11.length < 8796093022208 then (impl_ClashRow.l0 k x2 x10 (x11 ++ [t783]) (wrap64 (x12 - 1))) else (none))) else (none)) else (none)) else ((impl_leafText.f x2).bind fun t787 => (if x11.length < 8796093022208 then ((impl_copied_string.f (x11 ++ [t787])).bind fun t791 => (some (t791, true))) else (none)))
def impl_ClashRow.f (k : Nat) (a0 : Int) (a1 : Int) (a2 : ByteArray) (l3 : List (S29)) : Option (List ByteArray × Bool) := (impl_pathOk.f k a0 a1 a2 l3).bind fun t777 => (if t777 = true then ((impl_pathPairs.f k a0 a1 a2 l3).bind fun t778 => (impl_ClashRow.l0 k a2 t778 ([] : List ByteArray) (wrap64 ((t778.length : Int) - 1)))) else (some (([] : List ByteArray), false)))
theorem impl_ClashRow.mono_l : ∀ k, (∀ y0 y1 y2 y3, LeO (impl_ClashRow.l0 k y0 y1 y2 y3) (impl_ClashRow.l0 (k + 1) y0 y1 y2 y3))
  | 0 => fun _ _ _ _ r h => by simp [impl_ClashRow.l0] at h
  | k + 1 => by
    have ih0 := impl_ClashRow.mono_l k
    · intro y0 y1 y2 y3
      unfold impl_ClashRow.l0
      repeat' first | (with_reducible first | exact ih0 _ _ _ _ | exact impl_pairText.mono _ _ _ _ _ _ _ _ _ | exact impl_pathOk.mono _ _ _ _ _ | exact impl_pathPairs.mono _ _ _ _ _ | exact LeO.refl _ | exact LeO.none _ | refine LeO.ite ?_ ?_ | refine LeO.bind ?_ (fun _ => ?_)) | exact ih0 _ _ _ _ | exact LeO.none _ | refine LeO.ite ?_ ?_ | refine LeO.bind ?_ (fun _ => ?_)
theorem impl_ClashRow.mono : ∀ a0 a1 a2 a3 k, LeO (impl_ClashRow.f k a0 a1 a2 a3) (impl_ClashRow.f (k + 1) a0 a1 a2 a3) := by
  intro a0 a1 a2 a3 k
  have ih0 := impl_ClashRow.mono_l k
  unfold impl_ClashRow.f
  repeat' first | (with_reducible first | exact ih0 _ _ _ _ | exact impl_pairText.mono _ _ _ _ _ _ _ _ _ | exact impl_pathOk.mono _ _ _ _ _ | exact impl_pathPairs.mono _ _ _ _ _ | exact LeO.refl _ | exact LeO.none _ | refine LeO.ite ?_ ?_ | refine LeO.bind ?_ (fun _ => ?_)) | exact ih0 _ _ _ _ | exact LeO.none _ | refine LeO.ite ?_ ?_ | refine LeO.bind ?_ (fun _ => ?_)
def impl_ClashRow.T8 : Bool × List (List Nat × List Nat) := (true, [([], []), ([], []), ([], []), ([1, 2], [1, 2]), ([3], [3]), ([4], [4]), ([], []), ([], []), ([6, 7], [6, 7]), ([8], [8]), ([9], [9]), ([5, 10], [5, 10]), ([11], [11]), ([0, 12, 11], [0, 12]), ([13, 13, 0, 1, 2, 3, 4, 5, 6, 7, 8, 9, 10, 11, 12, 13], [0, 13])])
def impl_ClashRow.B8 : List Nat := [0, 0, 0, 6, 14, 30, 0, 0, 192, 448, 960, 2046, 4094, 8191, 16383]
theorem impl_ClashRow.tab8 : rtab .any (opsOf Try.f81 8) = impl_ClashRow.T8 := by kernel_rfl
theorem impl_ClashRow.bits8 : waitsOk impl_ClashRow.T8.2 impl_ClashRow.B8 = true := by kernel_rfl
set_option maxHeartbeats 8000000 in
set_option maxRecDepth 100000 in
theorem impl_ClashRow.calls (k : Nat) (a0 : Int) (a1 : Int) (a2 : ByteArray) (A3 : Option Addr) (c3 : Nat) (l3 : List (S29)) (r1 : List ByteArray) (r2 : Bool) (w : World) (hr3 : Kd.C k29 w A3 l3.length l3) (hc3 : l3.length ≤ c3) (h : impl_ClashRow.f k a0 a1 a2 l3 = some (r1, r2)) :
    Calls Try.prog 81 #[.int .i64 a0, .int .i64 a1, .string a2, .slice A3 l3.length c3] w fun e w' => ∃ v0_ : Value, e = .returned (.tuple #[v0_, .bool r2]) ∧ Kd.R Kd.string 9 w' w.heap.size (fun _ => True) v0_ r1 ∧ Below w.heap.size w w' := by
  have hu29 := Try.underlying29
  have HR3 := Aside0.mk hr3
  have HC3 := Aside0.mk hc3
  clear hr3 hc3
  have HB := Aside0.mk (Below.refl w.heap.size w)
  have H : ((impl_pathOk.f k a0 a1 a2 l3).bind fun t777 => (if t777 = true then ((impl_pathPairs.f k a0 a1 a2 l3).bind fun t778 => (impl_ClashRow.l0 k a2 t778 ([] : List ByteArray) (wrap64 ((t778.length : Int) - 1)))) else (some (([] : List ByteArray), false)))) = some (r1, r2) := h
  clear h
  obtain ⟨t777, A5, H⟩ := bnd_ H
  by_cases c6 : t777 = true
  · subst c6
    rw [if_pos rfl] at H
    obtain ⟨t778, A7, H⟩ := bnd_ H
    have H' := Aside0.mk H
    clear H
    go_enter Try.func81, Try.ntmps81
    go_wp2_with (first | ((with_reducible refine gate_callee (f := 103) rfl ?_); refine goL_ (some 17) Try.func103 #[.int .i64 a0, .int .i64 a1, .string a2, .slice A3 l3.length c3] ?_; (with_reducible refine (impl_pathOk.calls k a0 a1 a2 _ _ l3 true _ ?side1 ?side2 A5.out).mono ?_); (case side1 => repeat (first | exact HR3.out | (with_reducible refine Kd.C_alloc ?_ _) | (with_reducible refine Kd.C_drewN ?_ _) | (with_reducible refine Kd.C_drew ?_))); (case side2 => exact HC3.out); rintro e w8 ⟨rfl, hb⟩; refine ⟨_, rfl, ?_⟩; replace HB := stepB_ hb; (try clear hb)) | ((with_reducible refine gate_callee (f := 105) rfl ?_); refine goL_ (some 23) Try.func105 #[.int .i64 a0, .int .i64 a1, .string a2, .slice A3 l3.length c3] ?_; (with_reducible refine (impl_pathPairs.calls k a0 a1 a2 _ _ l3 t778 _ ?side1 ?side2 A7.out).mono ?_); (case side1 => repeat (first | exact (Kd.C_below HR3.out HB.out) | (with_reducible refine Kd.C_alloc ?_ _) | (with_reducible refine Kd.C_drewN ?_ _) | (with_reducible refine Kd.C_drew ?_))); (case side2 => exact HC3.out); rintro e w9 ⟨v779, rfl, ho0, hb⟩; refine ⟨_, rfl, ?_⟩; have HO780 := Aside0.mk (Kd.R_lower ho0 (below_size bel_)); replace HB := stepB_ hb; (try clear hb); (try clear ho0); obtain ⟨Ao10, co10, eo10⟩ := Kd.R_slice HO780.out; subst eo10))
    go_loopg [11, 12] k (fun kq v11 v12 w' => ∃ (x11_1 : List ByteArray) (x12_1 : Int), v12 = .int .i64 x12_1 ∧ Aside0 (impl_ClashRow.l0 kq a2 t778 x11_1 x12_1 = some (r1, r2)) ∧ Aside0 (kq ≤ k) ∧ Aside0 (Kd.R k106 106 w' w.heap.size (fun _ => True) (.slice Ao10 t778.length co10) t778) ∧ Aside0 (Kd.R Kd.string 9 w' w.heap.size (fun _ => True) v11 x11_1) ∧ Aside0 (Below w.heap.size w w'))
    case atStart => exact ⟨(([] : List ByteArray)), (wrap64 ((t778.length : Int) - 1)), (by first | rfl | (simp; done) | (simp [*]; done)), H', ⟨Nat.le_refl _⟩, ⟨kdU_ HO780.out⟩, ⟨by first | exact Kd.R_nil _ _ _ _ _ | exact Kd.N_nil _ _ _ _ _ | exact Kd.V_nil _ _ _ _ _ | exact Kd.Q_nil _ _ _ _ _ | exact Kd.S_nil _ _ _ _ _⟩, ⟨bel_⟩⟩
    case round =>
      clear H'
      (try clear c3); (try clear c6)
      obtain ⟨x11_1, x12_1, rfl, HA, HK1, HO_10, HO_11, HB⟩ := hrel
      cases gk with
      | zero => exact absurd HA.out (by simp [impl_ClashRow.l0])
      | succ k1 =>
        have H := HA.out
        clear HA
        simp only [impl_ClashRow.l0] at H
        by_cases c11 : x12_1 ≥ 0
        · rw [if_pos c11] at H
          have c11b0 : decide (0 ≤ x12_1) = true := decide_eq_true c11
          clear c11
          by_cases c12 : 0 ≤ x12_1
          · rw [if_pos c12] at H
            have c12b0 : decide (0 ≤ x12_1) = true := decide_eq_true c12
            clear c12
            by_cases c13 : x12_1 < (t778.length : Int)
            · rw [if_pos c13] at H
              have c13b0 : decide (x12_1 < (t778.length : Int)) = true := decide_eq_true c13
              clear c13
              obtain ⟨t783, A14, H⟩ := bnd_ H
              by_cases c15 : x11_1.length < 8796093022208
              · rw [if_pos c15] at H
                have LMc15 := Aside0.mk c15
                clear c15
                obtain ⟨y784, hy784⟩ : ∃ y_ : List ByteArray, y_ = (x11_1 ++ [t783]) := ⟨_, rfl⟩
                replace H : (impl_ClashRow.l0 k1 a2 t778 y784 (wrap64 (x12_1 - 1))) = some (r1, r2) := by first | (rw [hy784]; with_reducible exact H) | (have H2_ := (Option.bind_some _ _).symm.trans H; rw [hy784]; with_reducible exact H2_) | (have H2_ := (Option.bind_some _ _).symm.trans H; with_reducible exact H2_) | with_reducible exact H | (rw [hy784]; exact H) | exact H
                have Ny784 := Aside0.mk hy784
                clear hy784
                have H' := Aside0.mk H
                clear H
                try go_wp2
                replace HO_10 := Aside0.mk (Kd.R_drew HO_10.out)
                replace HO_11 := Aside0.mk (Kd.R_drew HO_11.out)
                replace HB := Aside0.mk (below_drew1 HB.out)
                have p781 : 0 ≤ (x12_1 : Int) := ofd_
                have q781 : x12_1 < (t778.length : Int) := ofd_
                obtain ⟨ad781, e781, hx781_0, hx781_1, hx781_2, hx781_3, hx781_4, hx781_5, hx781_6, hx781_7⟩ := at_T106 (Kd.R_reads' HO_10.out).2.2 x12_1 p781 q781
                cases e781
                replace p781 := eq_true p781
                replace q781 := eq_true q781
                have p782 : 0 ≤ (x12_1 : Int) := ofd_
                have q782 : x12_1 < (t778.length : Int) := ofd_
                obtain ⟨ad782, e782, hx782_0, hx782_1, hx782_2, hx782_3, hx782_4, hx782_5, hx782_6, hx782_7⟩ := at_T106 (Kd.R_reads' HO_10.out).2.2 x12_1 p782 q782
                obtain rfl : ad781 = ad782 := (by injection e782)
                replace p782 := eq_true p782
                replace q782 := eq_true q782
                refine start_ (n := 15) (S := fun w' => w'.cell? (ad781.add ((x12_1).toNat * 8)) = some (.int .u64 ((rd_T106 t778 x12_1).f0.f0)) ∧ w'.cell? ⟨(ad781.add ((x12_1).toNat * 8)).block, (ad781.add ((x12_1).toNat * 8)).off + 1, none⟩ = some (.int .u64 ((rd_T106 t778 x12_1).f0.f1)) ∧ w'.cell? ⟨(ad781.add ((x12_1).toNat * 8)).block, (ad781.add ((x12_1).toNat * 8)).off + 2, none⟩ = some (.int .u64 ((rd_T106 t778 x12_1).f0.f2)) ∧ w'.cell? ⟨(ad781.add ((x12_1).toNat * 8)).block, (ad781.add ((x12_1).toNat * 8)).off + 3, none⟩ = some (.int .u64 ((rd_T106 t778 x12_1).f0.f3)) ∧ w'.cell? ⟨(ad781.add ((x12_1).toNat * 8)).block, (ad781.add ((x12_1).toNat * 8)).off + 4, none⟩ = some (.int .u64 ((rd_T106 t778 x12_1).f1.f0)) ∧ w'.cell? ⟨(ad781.add ((x12_1).toNat * 8)).block, (ad781.add ((x12_1).toNat * 8)).off + 5, none⟩ = some (.int .u64 ((rd_T106 t778 x12_1).f1.f1)) ∧ w'.cell? ⟨(ad781.add ((x12_1).toNat * 8)).block, (ad781.add ((x12_1).toNat * 8)).off + 6, none⟩ = some (.int .u64 ((rd_T106 t778 x12_1).f1.f2)) ∧ w'.cell? ⟨(ad781.add ((x12_1).toNat * 8)).block, (ad781.add ((x12_1).toNat * 8)).off + 7, none⟩ = some (.int .u64 ((rd_T106 t778 x12_1).f1.f3)) ∧ w'.cell? (ad781.add ((x12_1).toNat * 8)) = some (.int .u64 ((rd_T106 t778 x12_1).f0.f0)) ∧ w'.cell? ⟨(ad781.add ((x12_1).toNat * 8)).block, (ad781.add ((x12_1).toNat * 8)).off + 1, none⟩ = some (.int .u64 ((rd_T106 t778 x12_1).f0.f1)) ∧ w'.cell? ⟨(ad781.add ((x12_1).toNat * 8)).block, (ad781.add ((x12_1).toNat * 8)).off + 2, none⟩ = some (.int .u64 ((rd_T106 t778 x12_1).f0.f2)) ∧ w'.cell? ⟨(ad781.add ((x12_1).toNat * 8)).block, (ad781.add ((x12_1).toNat * 8)).off + 3, none⟩ = some (.int .u64 ((rd_T106 t778 x12_1).f0.f3)) ∧ w'.cell? ⟨(ad781.add ((x12_1).toNat * 8)).block, (ad781.add ((x12_1).toNat * 8)).off + 4, none⟩ = some (.int .u64 ((rd_T106 t778 x12_1).f1.f0)) ∧ w'.cell? ⟨(ad781.add ((x12_1).toNat * 8)).block, (ad781.add ((x12_1).toNat * 8)).off + 5, none⟩ = some (.int .u64 ((rd_T106 t778 x12_1).f1.f1)) ∧ w'.cell? ⟨(ad781.add ((x12_1).toNat * 8)).block, (ad781.add ((x12_1).toNat * 8)).off + 6, none⟩ = some (.int .u64 ((rd_T106 t778 x12_1).f1.f2)) ∧ w'.cell? ⟨(ad781.add ((x12_1).toNat * 8)).block, (ad781.add ((x12_1).toNat * 8)).off + 7, none⟩ = some (.int .u64 ((rd_T106 t778 x12_1).f1.f3))) (ds := [12, 13]) #[false, false, false, false, false, false, false, false, false, false, false, false, false, false, false] (by kernel_rfl) rfl rfl ⟨hx781_0, hx781_1, hx781_2, hx781_3, hx781_4, hx781_5, hx781_6, hx781_7, hx782_0, hx782_1, hx782_2, hx782_3, hx782_4, hx782_5, hx782_6, hx782_7⟩ (fun hHeld => ?_); refine with_tabW impl_ClashRow.tab8 impl_ClashRow.bits8 (fun HT_ HW_ => ?_)
                generalize wr.drew = w16 at HO_10 HO_11 HB hx781_0 hx781_1 hx781_2 hx781_3 hx781_4 hx781_5 hx781_6 hx781_7 hx782_0 hx782_1 hx782_2 hx782_3 hx782_4 hx782_5 hx782_6 hx782_7 hHeld ⊢
                refine pureP_ 0 (some 31) #[true, false, false, false, false, false, false, false, false, false, false, false, false, false, false] HT_ ?_
                refine pureP_ 1 (some 32) #[true, true, false, false, false, false, false, false, false, false, false, false, false, false, false] HT_ ?_
                refine pureP_ 2 (some 33) #[true, true, true, false, false, false, false, false, false, false, false, false, false, false, false] HT_ ?_
                refine pureP_ 3 (some 34) #[true, true, true, true, false, false, false, false, false, false, false, false, false, false, false] HT_ ?_
                refine pureP_ 4 (some 35) #[true, true, true, true, true, false, false, false, false, false, false, false, false, false, false] HT_ ?_
                refine pureP_ 6 (some 37) #[true, true, true, true, true, false, true, false, false, false, false, false, false, false, false] HT_ ?_
                refine pureP_ 7 (some 38) #[true, true, true, true, true, false, true, true, false, false, false, false, false, false, false] HT_ ?_
                refine pureP_ 8 (some 39) #[true, true, true, true, true, false, true, true, true, false, false, false, false, false, false] HT_ ?_
                refine pureP_ 9 (some 40) #[true, true, true, true, true, false, true, true, true, true, false, false, false, false, false] HT_ ?_
                refine takeP_ 5 (some 36) #[true, true, true, true, true, true, true, true, true, true, false, false, false, false, false] HT_ HW_ hHeld ?_
                refine takeP_ 10 (some 41) #[true, true, true, true, true, true, true, true, true, true, true, false, false, false, false] HT_ HW_ hHeld ?_
                refine oneP_ 11 (some 42) #[true, true, true, true, true, true, true, true, true, true, true, true, false, false, false] HT_ (fun K hK => ?_)
                refine goN_ Try.func111 #[.agg #[.int .u64 ((rd_T106 t778 x12_1).f0.f0), .int .u64 ((rd_T106 t778 x12_1).f0.f1), .int .u64 ((rd_T106 t778 x12_1).f0.f2), .int .u64 ((rd_T106 t778 x12_1).f0.f3)], .agg #[.int .u64 ((rd_T106 t778 x12_1).f1.f0), .int .u64 ((rd_T106 t778 x12_1).f1.f1), .int .u64 ((rd_T106 t778 x12_1).f1.f2), .int .u64 ((rd_T106 t778 x12_1).f1.f3)]] ?_
                with_reducible refine (impl_pairText.calls k1 ((rd_T106 t778 x12_1).f0.f0) ((rd_T106 t778 x12_1).f0.f1) ((rd_T106 t778 x12_1).f0.f2) ((rd_T106 t778 x12_1).f0.f3) ((rd_T106 t778 x12_1).f1.f0) ((rd_T106 t778 x12_1).f1.f1) ((rd_T106 t778 x12_1).f1.f2) ((rd_T106 t778 x12_1).f1.f3) t783 _ A14.out).mono ?_
                rintro e w17 ⟨rfl, hb⟩
                have HS0_ := (hb.cell (World.block_lt_of_cell? _ _ (hHeld.1))).trans (hHeld.1)
                have HS1_ := (hb.cell (World.block_lt_of_cell? _ _ (hHeld.2.1))).trans (hHeld.2.1)
                have HS2_ := (hb.cell (World.block_lt_of_cell? _ _ (hHeld.2.2.1))).trans (hHeld.2.2.1)
                have HS3_ := (hb.cell (World.block_lt_of_cell? _ _ (hHeld.2.2.2.1))).trans (hHeld.2.2.2.1)
                have HS4_ := (hb.cell (World.block_lt_of_cell? _ _ (hHeld.2.2.2.2.1))).trans (hHeld.2.2.2.2.1)
                have HS5_ := (hb.cell (World.block_lt_of_cell? _ _ (hHeld.2.2.2.2.2.1))).trans (hHeld.2.2.2.2.2.1)
                have HS6_ := (hb.cell (World.block_lt_of_cell? _ _ (hHeld.2.2.2.2.2.2.1))).trans (hHeld.2.2.2.2.2.2.1)
                have HS7_ := (hb.cell (World.block_lt_of_cell? _ _ (hHeld.2.2.2.2.2.2.2.1))).trans (hHeld.2.2.2.2.2.2.2.1)
                have HS8_ := (hb.cell (World.block_lt_of_cell? _ _ (hHeld.2.2.2.2.2.2.2.2.1))).trans (hHeld.2.2.2.2.2.2.2.2.1)
                have HS9_ := (hb.cell (World.block_lt_of_cell? _ _ (hHeld.2.2.2.2.2.2.2.2.2.1))).trans (hHeld.2.2.2.2.2.2.2.2.2.1)
                have HS10_ := (hb.cell (World.block_lt_of_cell? _ _ (hHeld.2.2.2.2.2.2.2.2.2.2.1))).trans (hHeld.2.2.2.2.2.2.2.2.2.2.1)
                have HS11_ := (hb.cell (World.block_lt_of_cell? _ _ (hHeld.2.2.2.2.2.2.2.2.2.2.2.1))).trans (hHeld.2.2.2.2.2.2.2.2.2.2.2.1)
                have HS12_ := (hb.cell (World.block_lt_of_cell? _ _ (hHeld.2.2.2.2.2.2.2.2.2.2.2.2.1))).trans (hHeld.2.2.2.2.2.2.2.2.2.2.2.2.1)
                have HS13_ := (hb.cell (World.block_lt_of_cell? _ _ (hHeld.2.2.2.2.2.2.2.2.2.2.2.2.2.1))).trans (hHeld.2.2.2.2.2.2.2.2.2.2.2.2.2.1)
                have HS14_ := (hb.cell (World.block_lt_of_cell? _ _ (hHeld.2.2.2.2.2.2.2.2.2.2.2.2.2.2.1))).trans (hHeld.2.2.2.2.2.2.2.2.2.2.2.2.2.2.1)
                have HS15_ := (hb.cell (World.block_lt_of_cell? _ _ (hHeld.2.2.2.2.2.2.2.2.2.2.2.2.2.2.2))).trans (hHeld.2.2.2.2.2.2.2.2.2.2.2.2.2.2.2)
                refine ⟨_, rfl, ?_⟩
                replace HO_10 := Aside0.mk (Kd.R_below (kdU_ HO_10.out) hb)
                replace HO_11 := Aside0.mk (Kd.R_below (kdU_ HO_11.out) hb)
                replace HB := stepB_ hb
                (try clear hb)
                refine hK.out _ _ ⟨HS0_, HS1_, HS2_, HS3_, HS4_, HS5_, HS6_, HS7_, HS8_, HS9_, HS10_, HS11_, HS12_, HS13_, HS14_, HS15_⟩ (fun hHeld => ?_)
                clear hK K
                refine norm_ (a' := ?_) ?_ ?_
                rotate_left
                · show Act.put _ (some 42) _ = _
                  simp only [Act.put, List.setIfInBounds_toArray, List.set_cons_zero, List.set_cons_succ, i64_w, i32_w]
                  rfl
                refine last_ (i := 12) (N := some 43) #[true, true, true, true, true, true, true, true, true, true, true, true, true, false, false] rfl rfl (one_of HT_.out (by kernel_rfl)) (by decide) (fun K hK => ?_)
                refine value_ (w1 := ?_) (v := ?_) (by rfl) rfl ?_ ?_
                rotate_left 2
                · go_simp
                  constructor
                  · rfl
                  · rfl
                refine hK.out _ _ ?_
                clear hK K
                refine norm_ (a' := ?_) ?_ ?_
                rotate_left
                · show Act.put _ (some 43) _ = _
                  simp only [Act.put, List.setIfInBounds_toArray, List.set_cons_zero, List.set_cons_succ, i64_w, i32_w]
                  rfl
                refine last_ (i := 13) (N := some 44) #[true, true, true, true, true, true, true, true, true, true, true, true, true, true, false] rfl rfl (one_of HT_.out (by kernel_rfl)) (by decide) (fun K hK => ?_)
                refine Kd.R_append_step Kd.string (w0 := w) w.heap.size (by rfl) (.tmp 31) (.tmp 43) 60 9 (.string ⟨#[]⟩) 16 rfl Try.underlying60 info9 rfl (by decide) (by omega) u11 x11_1 t783 [.string t783] (fun _ => True) (fun _ => False) rfl rfl ?aP (fun _ hk => hk.elim) ?aF ?aO ?aB ?aS ?aL ?_
                (case aP => exact rfl)
                (case aB => exact bel_)
                (case aF => exact (fun _ _ => trivial))
                (case aO => exact (kdU_ HO_11.out))
                (case aS => exact (below_size bel_))
                (case aL => have := LMc15.out; omega)
                intro v785 w18 ho hb hg hat
                rw [← Ny784.out] at ho
                replace HO_10 := Aside0.mk (Kd.R_over' (kdU_ HO_10.out) (Kd.R_typed (kdU_ HO_11.out)) (by decide) hg)
                replace HB := Aside0.mk (hb)
                have HO786 := Aside0.mk (ho)
                clear HO_11
                clear ho hb hg hat
                refine hK.out _ _ ?_
                clear hK K
                refine norm_ (a' := ?_) ?_ ?_
                rotate_left
                · show Act.put _ (some 44) _ = _
                  simp only [Act.put, List.setIfInBounds_toArray, List.set_cons_zero, List.set_cons_succ, i64_w, i32_w]
                  rfl
                refine pureP_ 14 (some 11) #[true, true, true, true, true, true, true, true, true, true, true, true, true, true, true] HT_ ?_
                refine done_ (done_of HT_.out (by kernel_rfl)) ?_
                try go_wp2
                go_roundg k1
                case measure => have := HK1.out; omega
                case rel => exact ⟨(y784), (wrap64 (x12_1 - 1)), (by first | rfl | (simp; done) | (simp [*]; done)), H', ⟨by have := HK1.out; omega⟩, ⟨kdU_ HO_10.out⟩, ⟨kdU_ HO786.out⟩, ⟨bel_⟩⟩
              · rw [if_neg c15] at H
                exact absurd H (by simp)
            · rw [if_neg c13] at H
              exact absurd H (by simp)
          · rw [if_neg c12] at H
            exact absurd H (by simp)
        · rw [if_neg c11] at H
          have c11b0 : decide (0 ≤ x12_1) = false := decide_eq_false c11
          clear c11
          obtain ⟨t787, A19, H⟩ := bnd_ H
          by_cases c20 : x11_1.length < 8796093022208
          · rw [if_pos c20] at H
            have LMc20 := Aside0.mk c20
            clear c20
            obtain ⟨y788, hy788⟩ : ∃ y_ : List ByteArray, y_ = (x11_1 ++ [t787]) := ⟨_, rfl⟩
            replace H : ((impl_copied_string.f y788).bind fun t791 => (some (t791, true))) = some (r1, r2) := by first | (rw [hy788]; with_reducible exact H) | (have H2_ := (Option.bind_some _ _).symm.trans H; rw [hy788]; with_reducible exact H2_) | (have H2_ := (Option.bind_some _ _).symm.trans H; with_reducible exact H2_) | with_reducible exact H | (rw [hy788]; exact H) | exact H
            have Ny788 := Aside0.mk hy788
            clear hy788
            obtain ⟨t791, A21, H⟩ := bnd_ H
            simp only [Option.some.injEq, Prod.mk.injEq] at H
            obtain ⟨rfl, rfl⟩ := H
            go_wp2_with (first | ((with_reducible refine gate_callee (f := 129) rfl ?_); refine goL_ (some 47) Try.func129 #[.string a2] ?_; (with_reducible refine (impl_leafText.calls a2 t787 _ A19.out).mono ?_); rintro e w' ⟨rfl, ⟨nd, rfl⟩⟩; refine ⟨_, rfl, ?_⟩) | ((with_reducible refine gate_builtin (b := .append) (xs := #[.tmp 45, .tmp 48]) rfl ?_); at_builtin; refine Kd.R_append Kd.string (w0 := w) w.heap.size rfl (.tmp 45) (.tmp 48) 60 9 (.string ⟨#[]⟩) 16 rfl Try.underlying60 info9 rfl (by decide) (by omega) u11 x11_1 t787 [.string t787] (fun _ => True) (fun _ => False) rfl rfl ?aP (fun _ hk => hk.elim) ?aF ?aO ?aB ?aS ?aL ?_; (case aP => exact rfl); (case aB => exact bel_); (case aF => exact (fun _ _ => trivial)); (case aO => exact (kdU_ HO_11.out)); (case aS => exact (below_size bel_)); (case aL => have := LMc20.out; omega); intro v789 w22 ho hb hg hat; rw [← Ny788.out] at ho; replace HO_10 := Aside0.mk (Kd.R_over' (kdU_ HO_10.out) (Kd.R_typed (kdU_ HO_11.out)) (by decide) hg); replace HB := Aside0.mk (hb); have HO790 := Aside0.mk (ho); clear HO_11; clear ho hb hg hat; obtain ⟨Ao23, co23, eo23⟩ := Kd.R_slice HO790.out; subst eo23) | ((with_reducible refine gate_callee (f := 128) rfl ?_); refine goL_ (some 50) Try.func128 #[.slice Ao23 y788.length co23] ?_; (with_reducible refine (impl_copied_string.calls _ _ y788 t791 _ ?side1 ?side2 A21.out).mono ?_); (case side1 => repeat (first | exact (Kd.R_reads' HO790.out).2.2 | (with_reducible refine Kd.C_alloc ?_ _) | (with_reducible refine Kd.C_drewN ?_ _) | (with_reducible refine Kd.C_drew ?_))); (case side2 => exact (Kd.R_reads' HO790.out).2.1); rintro e w24 ⟨v792, rfl, ho0, hb⟩; refine ⟨_, rfl, ?_⟩; replace HO_10 := Aside0.mk (Kd.R_below (kdU_ HO_10.out) hb); have HO793 := Aside0.mk (Kd.R_lower (Kd.R_new' ho0 (Kd.R_lt (kdU_ HO790.out))) (below_size bel_)); replace HO790 := Aside0.mk (Kd.R_elder' (kdU_ HO790.out) (Kd.R_base ho0) hb); replace HB := stepB_ hb; (try clear hb); (try clear hk); (try clear ho0)))
            go_ret2
            exact ⟨_, rfl_, by (with_reducible repeat (first | apply Kd.R_alloc | apply Kd.R_drewN | apply Kd.R_drew)); exact Kd.R_mono HO793.out (fun _ hk => trivial), bel_⟩
          · rw [if_neg c20] at H
            exact absurd H (by simp)
  · replace c6 := Bool.eq_false_iff.mpr c6
    subst c6
    rw [if_neg (show ¬ (false = true) by decide)] at H
    simp only [Option.some.injEq, Prod.mk.injEq] at H
    obtain ⟨rfl, rfl⟩ := H
    go_enter Try.func81, Try.ntmps81
    go_wp2_with (first | ((with_reducible refine gate_callee (f := 103) rfl ?_); refine goL_ (some 17) Try.func103 #[.int .i64 a0, .int .i64 a1, .string a2, .slice A3 l3.length c3] ?_; (with_reducible refine (impl_pathOk.calls k a0 a1 a2 _ _ l3 false _ ?side1 ?side2 A5.out).mono ?_); (case side1 => repeat (first | exact HR3.out | (with_reducible refine Kd.C_alloc ?_ _) | (with_reducible refine Kd.C_drewN ?_ _) | (with_reducible refine Kd.C_drew ?_))); (case side2 => exact HC3.out); rintro e w25 ⟨rfl, hb⟩; refine ⟨_, rfl, ?_⟩; replace HB := stepB_ hb; (try clear hb); (try clear hk)))
    go_ret2
    exact ⟨_, rfl_, by first | exact Kd.R_nil _ _ _ _ _ | exact Kd.N_nil _ _ _ _ _ | exact Kd.V_nil _ _ _ _ _ | exact Kd.Q_nil _ _ _ _ _ | exact Kd.S_nil _ _ _ _ _, bel_⟩

end
section
/-! ### spec_ClashRow: function 80 -/
def spec_ClashRow.f (k : Nat) (a0 : Int) (a1 : Int) (a2 : ByteArray) (l3 : List (S29)) : Option (List ByteArray × Bool) := (spec_PathRoot.f k a0 a1 a2 l3).bind fun bt1700 => (if bt1700.2.2.2.2 = true then ((spec_l4Down.f k a0 a1 a2 l3).bind fun t1706 => (some (t1706, true))) else (some ((([] : List ByteArray)), false)))
theorem spec_ClashRow.mono : ∀ a0 a1 a2 a3 k, LeO (spec_ClashRow.f k a0 a1 a2 a3) (spec_ClashRow.f (k + 1) a0 a1 a2 a3) := by
  intro a0 a1 a2 a3 k
  unfold spec_ClashRow.f
  repeat' first | (with_reducible first | exact spec_PathRoot.mono _ _ _ _ _ | exact spec_l4Down.mono _ _ _ _ _ | exact LeO.refl _ | exact LeO.none _ | refine LeO.ite ?_ ?_ | refine LeO.bind ?_ (fun _ => ?_)) | exact LeO.none _ | refine LeO.ite ?_ ?_ | refine LeO.bind ?_ (fun _ => ?_)
set_option maxHeartbeats 8000000 in
set_option maxRecDepth 100000 in
theorem spec_ClashRow.calls (k : Nat) (a0 : Int) (a1 : Int) (a2 : ByteArray) (A3 : Option Addr) (c3 : Nat) (l3 : List (S29)) (r1 : List ByteArray) (r2 : Bool) (w : World) (hr3 : Kd.C k29 w A3 l3.length l3) (hc3 : l3.length ≤ c3) (h : spec_ClashRow.f k a0 a1 a2 l3 = some (r1, r2)) :
    Calls Try.prog 80 #[.int .i64 a0, .int .i64 a1, .string a2, .slice A3 l3.length c3] w fun e w' => ∃ v0_ : Value, e = .returned (.tuple #[v0_, .bool r2]) ∧ Kd.R Kd.string 9 w' w.heap.size (fun _ => True) v0_ r1 ∧ Below w.heap.size w w' := by
  have hu29 := Try.underlying29
  have HR3 := Aside0.mk hr3
  have HC3 := Aside0.mk hc3
  clear hr3 hc3
  have HB := Aside0.mk (Below.refl w.heap.size w)
  have H : ((spec_PathRoot.f k a0 a1 a2 l3).bind fun bt1700 => (if bt1700.2.2.2.2 = true then ((spec_l4Down.f k a0 a1 a2 l3).bind fun t1706 => (some (t1706, true))) else (some ((([] : List ByteArray)), false)))) = some (r1, r2) := h
  clear h
  obtain ⟨⟨t1700, t1701, t1702, t1703, t1704⟩, A5, H⟩ := bnd_ H
  dsimp only at H
  by_cases c6 : t1704 = true
  · subst c6
    rw [if_pos rfl] at H
    obtain ⟨t1706, A7, H⟩ := bnd_ H
    simp only [Option.some.injEq, Prod.mk.injEq] at H
    obtain ⟨rfl, rfl⟩ := H
    go_enter Try.func80, Try.ntmps80
    go_wp2_with (first | ((with_reducible refine gate_callee (f := 50) rfl ?_); refine goL_ (some 17) Try.func50 #[.int .i64 a0, .int .i64 a1, .string a2, .slice A3 l3.length c3] ?_; (with_reducible refine (spec_PathRoot.calls k a0 a1 a2 _ _ l3 t1700 t1701 t1702 t1703 true _ ?side1 ?side2 A5.out).mono ?_); (case side1 => repeat (first | exact HR3.out | (with_reducible refine Kd.C_alloc ?_ _) | (with_reducible refine Kd.C_drewN ?_ _) | (with_reducible refine Kd.C_drew ?_))); (case side2 => exact HC3.out); rintro e w8 ⟨rfl, hb⟩; refine ⟨_, rfl, ?_⟩; replace HB := stepB_ hb; (try clear hb)) | ((with_reducible refine gate_dst (N := 10) rfl ?_); refine boxE_ (cs := #[.int .u64 0, .int .u64 0, .int .u64 0, .int .u64 0]) (t := 29) ?_; intro gb1705 hg w9 hbox hb; have BK1705 := Aside0.mk (hbox); have GW1705 := sizeB_ hg; have GE1705 := sizeB_ hg; replace HB := stepB_ hb; clear hb hbox hg; obtain ⟨hcz10_0, hcz10_1, hcz10_2, hcz10_3, hfz10_0, hfz10_1, hfz10_2, hfz10_3⟩ := cz4_ BK1705.out) | ((with_reducible refine gate_callee (f := 93) rfl ?_); refine goL_ (some 27) Try.func93 #[.int .i64 a0, .int .i64 a1, .string a2, .slice A3 l3.length c3] ?_; (with_reducible refine (spec_l4Down.calls k a0 a1 a2 _ _ l3 t1706 _ ?side1 ?side2 A7.out).mono ?_); (case side1 => exact Kd.C_below HR3.out bel_); (case side2 => exact HC3.out); rintro e w11 ⟨v1707, rfl, ho0, hb⟩; refine ⟨_, rfl, ?_⟩; have HO1708 := Aside0.mk (Kd.R_lower ho0 (below_size bel_)); replace BK1705 := blkPB_ (cs := #[.int .u64 t1700, .int .u64 t1701, .int .u64 t1702, .int .u64 t1703]) BK1705.out hb; replace HB := stepB_ hb; (try clear hb); (try clear ho0)))
    go_ret2
    exact ⟨_, rfl_, by (with_reducible repeat (first | apply Kd.R_alloc | apply Kd.R_drewN | apply Kd.R_drew)); exact HO1708.out, bel_⟩
  · replace c6 := Bool.eq_false_iff.mpr c6
    subst c6
    rw [if_neg (show ¬ (false = true) by decide)] at H
    obtain ⟨y1709, hy1709⟩ : ∃ y_ : List ByteArray, y_ = (([] : List ByteArray)) := ⟨_, rfl⟩
    replace H : (some (y1709, false)) = some (r1, r2) := by first | (rw [hy1709]; with_reducible exact H) | (have H2_ := (Option.bind_some _ _).symm.trans H; rw [hy1709]; with_reducible exact H2_) | (have H2_ := (Option.bind_some _ _).symm.trans H; with_reducible exact H2_) | with_reducible exact H | (rw [hy1709]; exact H) | exact H
    have Ny1709 := Aside0.mk hy1709
    clear hy1709
    simp only [Option.some.injEq, Prod.mk.injEq] at H
    obtain ⟨rfl, rfl⟩ := H
    go_enter Try.func80, Try.ntmps80
    go_wp2_with (first | ((with_reducible refine gate_callee (f := 50) rfl ?_); refine goL_ (some 17) Try.func50 #[.int .i64 a0, .int .i64 a1, .string a2, .slice A3 l3.length c3] ?_; (with_reducible refine (spec_PathRoot.calls k a0 a1 a2 _ _ l3 t1700 t1701 t1702 t1703 false _ ?side1 ?side2 A5.out).mono ?_); (case side1 => repeat (first | exact HR3.out | (with_reducible refine Kd.C_alloc ?_ _) | (with_reducible refine Kd.C_drewN ?_ _) | (with_reducible refine Kd.C_drew ?_))); (case side2 => exact HC3.out); rintro e w12 ⟨rfl, hb⟩; refine ⟨_, rfl, ?_⟩; replace HB := stepB_ hb; (try clear hb); (try clear hk)) | ((with_reducible refine gate_dst (N := 10) rfl ?_); refine boxE_ (cs := #[.int .u64 0, .int .u64 0, .int .u64 0, .int .u64 0]) (t := 29) ?_; intro gb1705 hg w13 hbox hb; have BK1705 := Aside0.mk (hbox); have GW1705 := sizeB_ hg; have GE1705 := sizeB_ hg; replace HB := stepB_ hb; clear hb hbox hg; obtain ⟨hcz14_0, hcz14_1, hcz14_2, hcz14_3, hfz14_0, hfz14_1, hfz14_2, hfz14_3⟩ := cz4_ BK1705.out) | ((with_reducible refine gate_dst (N := 22) rfl ?_); refine Kd.R_lit Kd.string _ 9 ?hg (N := 22) ?hd (xs := ([] : List ByteArray)) (inner := []) (ok := fun _ => True) (okp := fun _ => True) ?hr ?hp (fun _ hk => hk) trivial (Below.refl _ _) (Nat.le_refl _) (by simp) ?_; (case hd => rfl); (case hg => rfl); (case hr => first | (go_simp; done) | (go_simp; rfl)); (case hp => exact (Reps.none _ _)); intro v1710 w15 ho16 hb hg_ hnew_; clear hg_ hnew_; (first | rw [← Ny1709.out] at ho16 | (simp only [Int.reduceToNat] at ho16; rw [← Ny1709.out] at ho16)); have HO1711 := Aside0.mk (Kd.R_lower ho16 (below_size bel_)); replace BK1705 := blkPB_ (cs := #[.int .u64 t1700, .int .u64 t1701, .int .u64 t1702, .int .u64 t1703]) BK1705.out hb; replace HB := stepB_ hb; clear hb ho16))
    go_ret2
    exact ⟨_, rfl_, by (with_reducible repeat (first | apply Kd.R_alloc | apply Kd.R_drewN | apply Kd.R_drew)); exact HO1711.out, bel_⟩

end
end Go.Proofs.Ytemfciflhbhobaa.B
