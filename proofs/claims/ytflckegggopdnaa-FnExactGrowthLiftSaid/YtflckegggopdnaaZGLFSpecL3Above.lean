/- What the Go functions loop.example/belfry/spec.l3Above do is what the Lean functions .f of their names here say; condition: .f gives an answer. (Written by the session's program pp.py over the kit's print; Lean checks it.) -/
import Derived.Test.YtflckegggopdnaaZGLK
import Derived.Test.YtflckegggopdnaaZGLM
import Derived.Test.YtflckegggopdnaaZGLFSpecL3Node
import Derived.Test.YtflckegggopdnaaZGLGSplit1
namespace Go.Proofs.Ytflckegggopdnaa.B
open Go.RowKit Go.Proofs.YtflckegggopdnaaW.PrintWords Go.Proofs.YtflckegggopdnaaW.PrintLast Go.Proofs.YtflckegggopdnaaW.PrintMore
attribute [local go_sem] max2_int min2_int max_two min_two max_three min_three max_four min_four
set_option linter.unusedVariables false
set_option linter.unusedSimpArgs false
section
def spec_l3Above.f : Nat → Int → Int → Int → Int → Int → List (S29) → Option ((List (S29)))
  | 0, _, _, _, _, _, _ => none
  | k + 1, a0, a1, a2, a3, a4, l5 => if a1 ≤ a3 then (some (([] : List (S29)))) else ((spec_TreeSplit.f k (wrap64 (a1 - a0))).bind fun t574 => (if a2 < (wrap64 (a0 + t574)) then ((spec_l3Above.f k a0 (wrap64 (a0 + t574)) a2 a3 a4 l5).bind fun t575 => ((spec_l3Node.f k (wrap64 (a0 + t574)) a1 a3 a4 l5).bind fun bt578 => (if t575.length < 4398046511104 then (some (t575 ++ [(⟨bt578.1, bt578.2.1, bt578.2.2.1, bt578.2.2.2⟩ : S29)])) else (none)))) else ((spec_l3Above.f k (wrap64 (a0 + t574)) a1 a2 a3 a4 l5).bind fun t585 => ((spec_l3Node.f k a0 (wrap64 (a0 + t574)) a3 a4 l5).bind fun bt588 => (if t585.length < 4398046511104 then (some (t585 ++ [(⟨bt588.1, bt588.2.1, bt588.2.2.1, bt588.2.2.2⟩ : S29)])) else (none))))))
set_option maxHeartbeats 8000000 in
set_option maxRecDepth 100000 in
theorem spec_l3Above.calls (k : Nat) : ∀ (a0 : Int) (a1 : Int) (a2 : Int) (a3 : Int) (a4 : Int) (A5 : Option Addr) (c5 : Nat) (l5 : List (S29)) (r : List (S29)) (w : World) (hr5 : Kd.C k29 w A5 l5.length l5) (hc5 : l5.length ≤ c5) (h : spec_l3Above.f k a0 a1 a2 a3 a4 l5 = some r),
    Calls Try.prog 85 #[.int .i64 a0, .int .i64 a1, .int .i64 a2, .int .i64 a3, .int .i64 a4, .slice A5 l5.length c5] w fun e w' => ∃ v0_ : Value, e = .returned (v0_) ∧ Kd.R k29 29 w' w.heap.size (fun _ => True) v0_ r ∧ Below w.heap.size w w' := by
  induction k using Nat.strongRecOn with
  | _ k ih =>
  intro a0 a1 a2 a3 a4 A5 c5 l5 r w hr5 hc5 h
  cases k with
  | zero => exact absurd h (by simp [spec_l3Above.f])
  | succ k =>
  simp only [spec_l3Above.f] at h
  have HR5 := Aside0.mk hr5
  have HC5 := Aside0.mk hc5
  clear hr5 hc5
  have HB := Aside0.mk (Below.refl w.heap.size w)
  have H : (if a1 ≤ a3 then (some (([] : List (S29)))) else ((spec_TreeSplit.f k (wrap64 (a1 - a0))).bind fun t574 => (if a2 < (wrap64 (a0 + t574)) then ((spec_l3Above.f k a0 (wrap64 (a0 + t574)) a2 a3 a4 l5).bind fun t575 => ((spec_l3Node.f k (wrap64 (a0 + t574)) a1 a3 a4 l5).bind fun bt578 => (if t575.length < 4398046511104 then (some (t575 ++ [(⟨bt578.1, bt578.2.1, bt578.2.2.1, bt578.2.2.2⟩ : S29)])) else (none)))) else ((spec_l3Above.f k (wrap64 (a0 + t574)) a1 a2 a3 a4 l5).bind fun t585 => ((spec_l3Node.f k a0 (wrap64 (a0 + t574)) a3 a4 l5).bind fun bt588 => (if t585.length < 4398046511104 then (some (t585 ++ [(⟨bt588.1, bt588.2.1, bt588.2.2.1, bt588.2.2.2⟩ : S29)])) else (none))))))) = some r := h
  clear h
  by_cases c7 : a1 ≤ a3
  · rw [if_pos c7] at H
    have c7b0 : decide (a1 ≤ a3) = true := decide_eq_true c7
    clear c7
    obtain ⟨y571, hy571⟩ : ∃ y_ : List (S29), y_ = (([] : List (S29))) := ⟨_, rfl⟩
    replace H : (some y571) = some r := by first | (rw [hy571]; with_reducible exact H) | (have H2_ := (Option.bind_some _ _).symm.trans H; rw [hy571]; with_reducible exact H2_) | (have H2_ := (Option.bind_some _ _).symm.trans H; with_reducible exact H2_) | with_reducible exact H | (rw [hy571]; exact H) | exact H
    have Ny571 := Aside0.mk hy571
    clear hy571
    obtain rfl := Option.some.inj H
    go_enter Try.func85, Try.ntmps85
    go_wp2_with (first | ((with_reducible refine gate_dst (N := 17) rfl ?_); refine Kd.R_lit k29 _ 29 ?hg (N := 17) ?hd (xs := ([] : List (S29))) (inner := []) (ok := fun _ => True) (okp := fun _ => True) ?hr ?hp (fun _ hk => hk) trivial (Below.refl _ _) (Nat.le_refl _) (by simp) ?_; (case hd => rfl); (case hg => rfl); (case hr => first | (go_simp; done) | (go_simp; rfl)); (case hp => exact (Reps.none _ _)); intro v572 w8 ho9 hb hg_ hnew_; clear hg_ hnew_; (first | rw [← Ny571.out] at ho9 | (simp only [Int.reduceToNat] at ho9; rw [← Ny571.out] at ho9)); have HO573 := Aside0.mk (Kd.R_lower ho9 (below_size bel_)); replace HB := stepB_ hb; clear hb ho9))
    go_ret
    exact ⟨_, rfl_, by (with_reducible repeat (first | apply Kd.R_alloc | apply Kd.R_drewN | apply Kd.R_drew)); exact HO573.out, bel_⟩
  · rw [if_neg c7] at H
    have c7b0 : decide (a1 ≤ a3) = false := decide_eq_false c7
    clear c7
    obtain ⟨t574, A10, H⟩ := bnd_ H
    by_cases c11 : a2 < (wrap64 (a0 + t574))
    · rw [if_pos c11] at H
      have c11b0 : decide (a2 < (wrap64 (a0 + t574))) = true := decide_eq_true c11
      clear c11
      obtain ⟨t575, A12, H⟩ := bnd_ H
      obtain ⟨⟨t578, t579, t580, t581⟩, A13, H⟩ := bnd_ H
      dsimp only at H
      by_cases c14 : t575.length < 4398046511104
      · rw [if_pos c14] at H
        have LMc14 := Aside0.mk c14
        clear c14
        obtain ⟨y582, hy582⟩ : ∃ y_ : List (S29), y_ = (t575 ++ [(⟨t578, t579, t580, t581⟩ : S29)]) := ⟨_, rfl⟩
        replace H : (some y582) = some r := by first | (rw [hy582]; with_reducible exact H) | (have H2_ := (Option.bind_some _ _).symm.trans H; rw [hy582]; with_reducible exact H2_) | (have H2_ := (Option.bind_some _ _).symm.trans H; with_reducible exact H2_) | with_reducible exact H | (rw [hy582]; exact H) | exact H
        have Ny582 := Aside0.mk hy582
        clear hy582
        obtain rfl := Option.some.inj H
        go_enter Try.func85, Try.ntmps85
        go_wp2_with (first | ((with_reducible refine gate_callee (f := 88) rfl ?_); refine goL_ (some 22) Try.func88 #[.int .i64 (wrap64 (a1 - a0))] ?_; (with_reducible refine (spec_TreeSplit.calls k (wrap64 (a1 - a0)) t574 _ A10.out).mono ?_); rintro e w' ⟨rfl, ⟨nd, rfl⟩⟩; refine ⟨_, rfl, ?_⟩) | ((with_reducible refine gate_callee (f := 85) rfl ?_); refine goL_ (some 33) Try.func85 #[.int .i64 a0, .int .i64 (wrap64 (a0 + t574)), .int .i64 a2, .int .i64 a3, .int .i64 a4, .slice A5 l5.length c5] ?_; (with_reducible refine (ih k (by omega) a0 (wrap64 (a0 + t574)) a2 a3 a4 _ _ l5 t575 _ ?side1 ?side2 A12.out).mono ?_); (case side1 => repeat (first | exact HR5.out | (with_reducible refine Kd.C_alloc ?_ _) | (with_reducible refine Kd.C_drewN ?_ _) | (with_reducible refine Kd.C_drew ?_))); (case side2 => exact HC5.out); rintro e w15 ⟨v576, rfl, ho0, hb⟩; refine ⟨_, rfl, ?_⟩; have HO577 := Aside0.mk (Kd.R_lower ho0 (below_size bel_)); replace HB := stepB_ hb; (try clear hb); (try clear hk); (try clear ho0)) | ((with_reducible refine gate_callee (f := 74) rfl ?_); refine goL_ (some 39) Try.func74 #[.int .i64 (wrap64 (a0 + t574)), .int .i64 a1, .int .i64 a3, .int .i64 a4, .slice A5 l5.length c5] ?_; (with_reducible refine (spec_l3Node.calls k (wrap64 (a0 + t574)) a1 a3 a4 _ _ l5 t578 t579 t580 t581 _ ?side1 ?side2 A13.out).mono ?_); (case side1 => repeat (first | exact (Kd.C_below HR5.out HB.out) | (with_reducible refine Kd.C_alloc ?_ _) | (with_reducible refine Kd.C_drewN ?_ _) | (with_reducible refine Kd.C_drew ?_))); (case side2 => exact HC5.out); rintro e w16 ⟨rfl, hb⟩; refine ⟨_, rfl, ?_⟩; replace HO577 := Aside0.mk (Kd.R_below (kdU_ HO577.out) hb); replace HB := stepB_ hb; (try clear hb); (try clear hk)) | ((with_reducible refine gate_builtin (b := .append) (xs := #[.tmp 33, .tmp 40]) rfl ?_); at_builtin; refine Kd.R_append k29 (w0 := w) w.heap.size rfl (.tmp 33) (.tmp 40) 49 29 (.agg #[(.int .u64 0), (.int .u64 0), (.int .u64 0), (.int .u64 0)]) 32 rfl Try.underlying49 info29 rfl (by decide) (by omega) v576 t575 (⟨t578, t579, t580, t581⟩ : S29) [.int .u64 t578, .int .u64 t579, .int .u64 t580, .int .u64 t581] (fun _ => True) (fun _ => False) rfl rfl ?aP (fun _ hk => hk.elim) ?aF ?aO ?aB ?aS ?aL ?_; (case aP => exact k29_mkM _ _ _ (⟨t578, t579, t580, t581⟩ : S29)); (case aB => exact bel_); (case aF => exact (fun _ _ => trivial)); (case aO => exact (kdU_ HO577.out)); (case aS => exact (below_size bel_)); (case aL => have := LMc14.out; omega); intro v583 w17 ho hb hg hat; rw [← Ny582.out] at ho; replace HB := Aside0.mk (hb); have HO584 := Aside0.mk (ho); clear HO577; clear ho hb hg hat))
        go_ret
        exact ⟨_, rfl_, by (with_reducible repeat (first | apply Kd.R_alloc | apply Kd.R_drewN | apply Kd.R_drew)); exact HO584.out, bel_⟩
      · rw [if_neg c14] at H
        exact absurd H (by simp)
    · rw [if_neg c11] at H
      have c11b0 : decide (a2 < (wrap64 (a0 + t574))) = false := decide_eq_false c11
      clear c11
      obtain ⟨t585, A18, H⟩ := bnd_ H
      obtain ⟨⟨t588, t589, t590, t591⟩, A19, H⟩ := bnd_ H
      dsimp only at H
      by_cases c20 : t585.length < 4398046511104
      · rw [if_pos c20] at H
        have LMc20 := Aside0.mk c20
        clear c20
        obtain ⟨y592, hy592⟩ : ∃ y_ : List (S29), y_ = (t585 ++ [(⟨t588, t589, t590, t591⟩ : S29)]) := ⟨_, rfl⟩
        replace H : (some y592) = some r := by first | (rw [hy592]; with_reducible exact H) | (have H2_ := (Option.bind_some _ _).symm.trans H; rw [hy592]; with_reducible exact H2_) | (have H2_ := (Option.bind_some _ _).symm.trans H; with_reducible exact H2_) | with_reducible exact H | (rw [hy592]; exact H) | exact H
        have Ny592 := Aside0.mk hy592
        clear hy592
        obtain rfl := Option.some.inj H
        go_enter Try.func85, Try.ntmps85
        go_wp2_with (first | ((with_reducible refine gate_callee (f := 88) rfl ?_); refine goL_ (some 22) Try.func88 #[.int .i64 (wrap64 (a1 - a0))] ?_; (with_reducible refine (spec_TreeSplit.calls k (wrap64 (a1 - a0)) t574 _ A10.out).mono ?_); rintro e w' ⟨rfl, ⟨nd, rfl⟩⟩; refine ⟨_, rfl, ?_⟩) | ((with_reducible refine gate_callee (f := 85) rfl ?_); refine goL_ (some 48) Try.func85 #[.int .i64 (wrap64 (a0 + t574)), .int .i64 a1, .int .i64 a2, .int .i64 a3, .int .i64 a4, .slice A5 l5.length c5] ?_; (with_reducible refine (ih k (by omega) (wrap64 (a0 + t574)) a1 a2 a3 a4 _ _ l5 t585 _ ?side1 ?side2 A18.out).mono ?_); (case side1 => repeat (first | exact HR5.out | (with_reducible refine Kd.C_alloc ?_ _) | (with_reducible refine Kd.C_drewN ?_ _) | (with_reducible refine Kd.C_drew ?_))); (case side2 => exact HC5.out); rintro e w21 ⟨v586, rfl, ho0, hb⟩; refine ⟨_, rfl, ?_⟩; have HO587 := Aside0.mk (Kd.R_lower ho0 (below_size bel_)); replace HB := stepB_ hb; (try clear hb); (try clear hk); (try clear ho0)) | ((with_reducible refine gate_callee (f := 74) rfl ?_); refine goL_ (some 54) Try.func74 #[.int .i64 a0, .int .i64 (wrap64 (a0 + t574)), .int .i64 a3, .int .i64 a4, .slice A5 l5.length c5] ?_; (with_reducible refine (spec_l3Node.calls k a0 (wrap64 (a0 + t574)) a3 a4 _ _ l5 t588 t589 t590 t591 _ ?side1 ?side2 A19.out).mono ?_); (case side1 => repeat (first | exact (Kd.C_below HR5.out HB.out) | (with_reducible refine Kd.C_alloc ?_ _) | (with_reducible refine Kd.C_drewN ?_ _) | (with_reducible refine Kd.C_drew ?_))); (case side2 => exact HC5.out); rintro e w22 ⟨rfl, hb⟩; refine ⟨_, rfl, ?_⟩; replace HO587 := Aside0.mk (Kd.R_below (kdU_ HO587.out) hb); replace HB := stepB_ hb; (try clear hb); (try clear hk)) | ((with_reducible refine gate_builtin (b := .append) (xs := #[.tmp 48, .tmp 55]) rfl ?_); at_builtin; refine Kd.R_append k29 (w0 := w) w.heap.size rfl (.tmp 48) (.tmp 55) 49 29 (.agg #[(.int .u64 0), (.int .u64 0), (.int .u64 0), (.int .u64 0)]) 32 rfl Try.underlying49 info29 rfl (by decide) (by omega) v586 t585 (⟨t588, t589, t590, t591⟩ : S29) [.int .u64 t588, .int .u64 t589, .int .u64 t590, .int .u64 t591] (fun _ => True) (fun _ => False) rfl rfl ?aP (fun _ hk => hk.elim) ?aF ?aO ?aB ?aS ?aL ?_; (case aP => exact k29_mkM _ _ _ (⟨t588, t589, t590, t591⟩ : S29)); (case aB => exact bel_); (case aF => exact (fun _ _ => trivial)); (case aO => exact (kdU_ HO587.out)); (case aS => exact (below_size bel_)); (case aL => have := LMc20.out; omega); intro v593 w23 ho hb hg hat; rw [← Ny592.out] at ho; replace HB := Aside0.mk (hb); have HO594 := Aside0.mk (ho); clear HO587; clear ho hb hg hat))
        go_ret
        exact ⟨_, rfl_, by (with_reducible repeat (first | apply Kd.R_alloc | apply Kd.R_drewN | apply Kd.R_drew)); exact HO594.out, bel_⟩
      · rw [if_neg c20] at H
        exact absurd H (by simp)
end
end Go.Proofs.Ytflckegggopdnaa.B
