/- Texts that this claim's law leans on, without what nothing names. What each says stands at its theorems; conditions stand in them. (Put together by the session's program shake.py; Lean checks it.) -/
import Derived.Test.YtflckegggopdnaaZCCP0
import Derived.Test.YtflckegggopdnaaZCCP2
import Derived.Test.YtflckegggopdnaaZCCP4
import Derived.Test.YtflckegggopdnaaZCCP3
set_option linter.unusedVariables false
set_option maxHeartbeats 8000000
set_option maxRecDepth 100000
set_option linter.unusedSimpArgs false
namespace Go.Proofs.Ytflckegggopdnaa.B
section
open Go.RowKit Go.Proofs.YtflckegggopdnaaW
section
def spec_l3Sizes.f (a1 a0 : Int) : Option (Bool) := (spec_l1In.f a1 0 a0).bind fun t0 => (if t0 = true then (some (decide (a0 ≤ 256))) else (some false))
theorem spec_l3Sizes.calls (a0 a1 : Int) (r : Bool) (w : World) (h : spec_l3Sizes.f a0 a1 = some r) :
  Calls Try.prog 66 #[.int .i64 a0, .int .i64 a1] w fun e w' => e = .returned (.bool r) ∧ Drawn0 w w' := by
 have H := h
 unfold spec_l3Sizes.f at H
 clear h
 obtain ⟨t0, A0, H⟩ := bnd_ H
 by_cases c4 : t0 = true
 ·subst c4
  rw [if_pos rfl] at H
  obtain rfl := Option.some.inj H
  go_enter Try.func66, Try.ntmps66
  go_wp2_with (first | (refine gcD_ 94 7 Try.func94 (spec_l1In.calls _ _ _ _ _ A0.out) ?_; intro nd))
  go_ret
  exact ⟨rl_, dr_⟩
 ·replace c4 := Bool.eq_false_iff.mpr c4
  subst c4
  rw [if_neg (show ¬ (false = true) by decide)] at H
  obtain rfl := Option.some.inj H
  go_enter Try.func66, Try.ntmps66
  go_wp2_with (first | (refine gcD_ 94 7 Try.func94 (spec_l1In.calls _ _ _ _ _ A0.out) ?_; intro nd))
  go_ret
  exact ⟨rl_, dr_⟩
end
section
mutual
def spec_l3Rests.j0 : Nat → Int → Int → Int → Int → Bool → Option (Int)
 | 0, _, _, _, _, _ => none
 | k + 1, x0, x2, x1, x3, x4 => if x4 = true then (some 0) else (if x0 ≥ x1 then (some 1) else ((spec_TreeSplit.f k (wrap64 (x2 - x0))).bind fun t0 => ((spec_l3Rests.f k x0 (wrap64 (x0 + t0)) x1 x3).bind fun t1 => ((spec_l3Rests.f k (wrap64 (x0 + t0)) x2 x1 x3).bind fun t2 => (some (wrap64 (t1 + t2)))))))
def spec_l3Rests.f : Nat → Int → Int → Int → Int → Option (Int)
 | 0, _, _, _, _ => none
 | k + 1, a0, a1, a2, a3 => if a1 ≤ a2 then (spec_l3Rests.j0 k a0 a1 a2 a3 true) else (spec_l3Rests.j0 k a0 a1 a2 a3 (decide (a0 ≥ a3)))
end
theorem spec_l3Rests.calls (k : Nat) : ∀ (a0 a3 a1 a2 r : Int) (w : World) (h : spec_l3Rests.f k a0 a3 a1 a2 = some r),
  Calls Try.prog 67 #[.int .i64 a0, .int .i64 a3, .int .i64 a1, .int .i64 a2] w fun e w' => e = .returned (.int .i64 r) ∧ Drawn0 w w' := by
 induction k using Nat.strongRecOn with
 | _ k ih =>
 intro a0 a3 a1 a2 r w h
 cases k with
 | zero => exact absurd h (by simp [spec_l3Rests.f])
 | succ k =>
 simp only [spec_l3Rests.f] at h
 have H : (if a3 ≤ a1 then (spec_l3Rests.j0 k a0 a3 a1 a2 true) else (spec_l3Rests.j0 k a0 a3 a1 a2 (decide (a0 ≥ a2)))) = some r := h
 clear h
 have HC5 := a_ H
 clear H
 go_enter Try.func67, Try.ntmps67
 go_upto_region 1 with (fail)
 go_cut [17] (fun v0 wc => ∃ (kq : Nat) (x0 : Bool), v0 = .bool x0 ∧ Aside0 (spec_l3Rests.j0 kq a0 a3 a1 a2 x0 = some r) ∧ Aside0 (kq ≤ k) ∧ Drawn0 w wc)
 case first =>
  have H := HC5.out
  clear HC5
  by_cases c6 : a3 ≤ a1
  ·rw [if_pos c6] at H
   have c0 := decide_eq_true c6
   clear c6
   (first | rw [c0] | (simp only [i64_w, i32_w]; rw [c0]) | skip)
   have H' := a_ H
   clear H
   go_wp2
   go_meet
   case rel => exact ⟨_, (true), rl_, H', ⟨by first | omega | exact Nat.le_refl _⟩, by repeat (first | exact Drawn0.refl _ | apply Drawn0.step)⟩
  ·rw [if_neg c6] at H
   have c0 := decide_eq_false c6
   clear c6
   (first | rw [c0] | (simp only [i64_w, i32_w]; rw [c0]) | skip)
   have H' := a_ H
   clear H
   go_wp2
   go_meet
   case rel => exact ⟨_, (decide (a0 ≥ a2)), rl_, H', ⟨by first | omega | exact Nat.le_refl _⟩, by repeat (first | exact Drawn0.refl _ | apply Drawn0.step)⟩
 case rest =>
  clear HC5
  (try clear c6); (try clear c0)
  obtain ⟨kq, x0, rfl, HA, HJ4, ⟨mc4, rfl⟩⟩ := hcut
  cases kq with
  | zero => exact absurd HA.out (by simp [spec_l3Rests.j0])
  | succ kj0 =>
   have H := HA.out
   clear HA
   simp only [spec_l3Rests.j0] at H
   by_cases c7 : x0 = true
   ·subst c7
    rw [if_pos rfl] at H
    obtain rfl := Option.some.inj H
    go_wp2
    go_ret
    exact ⟨rl_, dr_⟩
   ·replace c7 := Bool.eq_false_iff.mpr c7
    subst c7
    rw [if_neg (show ¬ (false = true) by decide)] at H
    by_cases c8 : a0 ≥ a1
    ·rw [if_pos c8] at H
     have c1 : decide (a1 ≤ a0) = true := decide_eq_true c8
     clear c8
     obtain rfl := Option.some.inj H
     go_wp2
     go_ret
     exact ⟨rl_, dr_⟩
    ·rw [if_neg c8] at H
     have c1 : decide (a1 ≤ a0) = false := decide_eq_false c8
     clear c8
     obtain ⟨t0, A2, H⟩ := bnd_ H
     obtain ⟨t1, A0, H⟩ := bnd_ H
     obtain ⟨t2, A1, H⟩ := bnd_ H
     obtain rfl := Option.some.inj H
     go_wp2_with (first | (refine gcD_ 88 25 Try.func88 (spec_TreeSplit.calls _ _ _ _ A2.out) ?_; intro nd) | (refine gcL_ 67 (some 31) Try.func67 #[.int .i64 a0, .int .i64 (wrap64 (a0 + t0)), .int .i64 a1, .int .i64 a2] ?_; (with_reducible refine (ih kj0 (by have := HJ4.out; omega) a0 (wrap64 (a0 + t0)) a1 a2 t1 _ A0.out).mono ?_); rintro e w' ⟨rfl, ⟨nd, rfl⟩⟩; refine ⟨_, rfl, ?_⟩) | (refine gcL_ 67 (some 36) Try.func67 #[.int .i64 (wrap64 (a0 + t0)), .int .i64 a3, .int .i64 a1, .int .i64 a2] ?_; (with_reducible refine (ih kj0 (by have := HJ4.out; omega) (wrap64 (a0 + t0)) a3 a1 a2 t2 _ A1.out).mono ?_); rintro e w' ⟨rfl, ⟨nd, rfl⟩⟩; refine ⟨_, rfl, ?_⟩))
     go_ret
     exact ⟨rl_, dr_⟩
end
section
def spec_GrowthLen.j0 : Nat → Int → Int → Bool → Option (Int)
 | 0, _, _, _ => none
 | k + 1, x0, x1, x2 => if x2 = true then (some 0) else ((spec_PeaksCount.f k x0).bind fun t0 => ((spec_l3Rests.f k 0 x1 x0 x1).bind fun t1 => (some (wrap64 (t0 + t1)))))
def spec_GrowthLen.f (k : Nat) (a0 a1 : Int) : Option (Int) := (spec_l3Sizes.f a0 a1).bind fun t0 => (if t0 = true then (if a0 = 0 then (spec_GrowthLen.j0 k a0 a1 true) else (spec_GrowthLen.j0 k a0 a1 (a0 == a1))) else (some (-1)))
theorem spec_GrowthLen.calls (k : Nat) (a0 a1 r : Int) (w : World) (h : spec_GrowthLen.f k a0 a1 = some r) :
  Calls Try.prog 32 #[.int .i64 a0, .int .i64 a1] w fun e w' => e = .returned (.int .i64 r) ∧ Drawn0 w w' := by
 have H := h
 unfold spec_GrowthLen.f at H
 clear h
 obtain ⟨t0, A0, H⟩ := bnd_ H
 by_cases c4 : t0 = true
 ·subst c4
  rw [if_pos rfl] at H
  have HC5 := a_ H
  clear H
  go_enter Try.func32, Try.ntmps32
  go_upto_region 3 with (first | (refine gcD_ 66 7 Try.func66 (spec_l3Sizes.calls _ _ _ _ A0.out) ?_; intro nd))
  (try simp only [Act.put, List.setIfInBounds_toArray, List.set_cons_zero, List.set_cons_succ])
  go_cut [15] (fun v0 wc => ∃ (kq : Nat) (x0 : Bool), v0 = .bool x0 ∧ Aside0 (spec_GrowthLen.j0 kq a0 a1 x0 = some r) ∧ Aside0 (kq ≤ k) ∧ Drawn0 w wc)
  case first =>
   have H := HC5.out
   clear HC5
   by_cases c6 : a0 = 0
   ·rw [if_pos c6] at H
    have c0 := beq_iff_eq.mpr c6
    have c1 := bne_eq_false_iff_eq.mpr c6
    clear c6
    (first | rw [c0] | (simp only [i64_w, i32_w]; rw [c0]) | skip)
    have H' := a_ H
    clear H
    go_wp2
    go_meet
    case rel => exact ⟨_, (true), rl_, H', ⟨by first | omega | exact Nat.le_refl _⟩, by repeat (first | exact Drawn0.refl _ | apply Drawn0.step)⟩
   ·rw [if_neg c6] at H
    have c0 := beq_eq_false_iff_ne.mpr c6
    have c1 := bne_iff_ne.mpr c6
    (first | rw [c0] | (simp only [i64_w, i32_w]; rw [c0]) | skip)
    have H' := a_ H
    clear H
    go_wp2
    go_meet
    case rel => exact ⟨_, ((a0 == a1)), rl_, H', ⟨by first | omega | exact Nat.le_refl _⟩, by repeat (first | exact Drawn0.refl _ | apply Drawn0.step)⟩
  case rest =>
   clear HC5
   (try clear c4); (try clear c6); (try clear c0); (try clear c1)
   obtain ⟨kq, x0, rfl, HA, HJ4, ⟨mc4, rfl⟩⟩ := hcut
   cases kq with
   | zero => exact absurd HA.out (by simp [spec_GrowthLen.j0])
   | succ kj0 =>
    have H := HA.out
    clear HA
    simp only [spec_GrowthLen.j0] at H
    by_cases c7 : x0 = true
    ·subst c7
     rw [if_pos rfl] at H
     obtain rfl := Option.some.inj H
     go_wp2
     go_ret
     exact ⟨rl_, dr_⟩
    ·replace c7 := Bool.eq_false_iff.mpr c7
     subst c7
     rw [if_neg (show ¬ (false = true) by decide)] at H
     obtain ⟨t1, A1, H⟩ := bnd_ H
     obtain ⟨t2, A2, H⟩ := bnd_ H
     obtain rfl := Option.some.inj H
     go_wp2_with (first | (refine gcD_ 50 17 Try.func50 (spec_PeaksCount.calls _ _ _ _ A1.out) ?_; intro nd) | (refine gcD_ 67 21 Try.func67 (spec_l3Rests.calls _ _ _ _ _ _ _ A2.out) ?_; intro nd))
     go_ret
     exact ⟨rl_, dr_⟩
 ·replace c4 := Bool.eq_false_iff.mpr c4
  subst c4
  rw [if_neg (show ¬ (false = true) by decide)] at H
  obtain rfl := Option.some.inj H
  go_enter Try.func32, Try.ntmps32
  go_wp2_with (first | (refine gcD_ 66 7 Try.func66 (spec_l3Sizes.calls _ _ _ _ A0.out) ?_; intro nd))
  go_ret
  exact ⟨rl_, dr_⟩
end
section
def impl_mayGrow.f (a1 a0 : Int) : Option (Bool) := (impl_in.f a0 0 256).bind fun t0 => (if t0 = true then ((impl_in.f a1 0 a0).bind fun t1 => (some t1)) else (some false))
theorem impl_mayGrow.calls (a0 a1 : Int) (r : Bool) (w : World) (h : impl_mayGrow.f a0 a1 = some r) :
  Calls Try.prog 62 #[.int .i64 a0, .int .i64 a1] w fun e w' => e = .returned (.bool r) ∧ Drawn0 w w' := by
 have H := h
 unfold impl_mayGrow.f at H
 clear h
 obtain ⟨t0, A0, H⟩ := bnd_ H
 by_cases c4 : t0 = true
 ·subst c4
  rw [if_pos rfl] at H
  obtain ⟨t1, A1, H⟩ := bnd_ H
  obtain rfl := Option.some.inj H
  go_enter Try.func62, Try.ntmps62
  go_wp2_with (first | (refine gcD_ 75 6 Try.func75 (impl_in.calls _ _ _ _ _ A0.out) ?_; intro nd) | (go_at_call 75; (with_reducible refine (impl_in.calls _ _ _ _ _ A1.out).mono ?_); rintro e w' ⟨rfl, ⟨nd, rfl⟩⟩))
  go_ret
  exact ⟨rl_, dr_⟩
 ·replace c4 := Bool.eq_false_iff.mpr c4
  subst c4
  rw [if_neg (show ¬ (false = true) by decide)] at H
  obtain rfl := Option.some.inj H
  go_enter Try.func62, Try.ntmps62
  go_wp2_with (first | (refine gcD_ 75 6 Try.func75 (impl_in.calls _ _ _ _ _ A0.out) ?_; intro nd))
  go_ret
  exact ⟨rl_, dr_⟩
end
section
def impl_fall.f : Nat → Int → Int → Int → List (S100) → List (S100) → Option ((List (S100)) × (List (S100)))
 | 0, _, _, _, _, _ => none
 | k + 1, a0, a1, a2, l2, l3 => if a1 ≤ a2 then (if l2.length < 8796093022208 then (some ((l2 ++ [(⟨a0, a1⟩ : S100)]), l3)) else (none)) else (if a0 ≥ a2 then (if l3.length < 8796093022208 then (some (l2, (l3 ++ [(⟨a0, a1⟩ : S100)]))) else (none)) else ((impl_node_halves.f k a0 a1).bind fun bt0 => ((impl_fall.f k bt0.1 bt0.2.1 a2 l2 l3).bind fun bt1 => ((impl_fall.f k bt0.2.2.1 bt0.2.2.2 a2 bt1.1 bt1.2).bind fun bt2 => (some (bt2.1, bt2.2))))))
theorem impl_fall.calls (k : Nat) : ∀ (a0 a1 a2 : Int) (P2_ : Nat → Prop) (u9000_ : Value) (l2 : List (S100)) (P3_ : Nat → Prop) (u9001_ : Value) (l3 r0 r1 : List (S100)) (w0 w : World) (hB : Below w0.heap.size w0 w) (ho2 : Kd.R k100 100 w w0.heap.size P2_ u9000_ l2) (hp2_3 : ∀ k_, P2_ k_ → ¬ P3_ k_) (ho3 : Kd.R k100 100 w w0.heap.size P3_ u9001_ l3) (hp3_2 : ∀ k_, P3_ k_ → ¬ P2_ k_) (h : impl_fall.f k a0 a1 a2 l2 l3 = some (r0, r1)),
  Calls Try.prog 107 #[.agg #[.int .i64 a0, .int .i64 a1], .int .i64 a2, u9000_, u9001_] w fun e w' => ∃ v0_ v1_ : Value, e = .returned (.tuple #[v0_, v1_]) ∧ Kd.R k100 100 w' w0.heap.size (fun k_ => ((P2_ k_ ∨ P3_ k_) ∨ w.heap.size ≤ k_) ∧ some k_ ≠ (v1_ : Value).ownBlock) v0_ r0 ∧ Kd.R k100 100 w' w0.heap.size (fun k_ => ((P2_ k_ ∨ P3_ k_) ∨ w.heap.size ≤ k_) ∧ some k_ ≠ (v0_ : Value).ownBlock) v1_ r1 ∧ Below w0.heap.size w0 w' ∧ Kept w w' (fun k_ => P2_ k_ ∨ P3_ k_) := by
 induction k using Nat.strongRecOn with
 | _ k ih =>
 intro a0 a1 a2 P2_ u9000_ l2 P3_ u9001_ l3 r0 r1 w0 w hB ho2 hp2_3 ho3 hp3_2 h
 cases k with
 | zero => exact absurd h (by simp [impl_fall.f])
 | succ k =>
 simp only [impl_fall.f] at h
 have hu100 := Try.underlying100
 have HO0 := a_ (show Kd.R k100 100 w w0.heap.size (fun k_ => ((P2_ k_ ∨ P3_ k_) ∨ w.heap.size ≤ k_) ∧ some k_ ≠ (u9001_ : Value).ownBlock) u9000_ l2 from Kd.R_mono ho2 (fun k_ hk => ⟨(.inl (.inl hk)), fun e_ => hp2_3 k_ hk (ho3.1 k_ e_.symm)⟩))
 have HO1 := a_ (show Kd.R k100 100 w w0.heap.size (fun k_ => ((P2_ k_ ∨ P3_ k_) ∨ w.heap.size ≤ k_) ∧ some k_ ≠ (u9000_ : Value).ownBlock) u9001_ l3 from Kd.R_mono ho3 (fun k_ hk => ⟨(.inl (.inr hk)), fun e_ => hp3_2 k_ hk (ho2.1 k_ e_.symm)⟩))
 have HK := a_ (Kept.refl w (fun k_ => P2_ k_ ∨ P3_ k_))
 have HW0 := a_ hB.size
 have HB := a_ hB
 clear hB
 have H : (if a1 ≤ a2 then (if l2.length < 8796093022208 then (some ((l2 ++ [(⟨a0, a1⟩ : S100)]), l3)) else (none)) else (if a0 ≥ a2 then (if l3.length < 8796093022208 then (some (l2, (l3 ++ [(⟨a0, a1⟩ : S100)]))) else (none)) else ((impl_node_halves.f k a0 a1).bind fun bt0 => ((impl_fall.f k bt0.1 bt0.2.1 a2 l2 l3).bind fun bt1 => ((impl_fall.f k bt0.2.2.1 bt0.2.2.2 a2 bt1.1 bt1.2).bind fun bt2 => (some (bt2.1, bt2.2))))))) = some (r0, r1) := h
 clear h
 by_cases c5 : a1 ≤ a2
 ·rw [if_pos c5] at H
  have c11 := decide_eq_true c5
  clear c5
  obtain ⟨c6, H⟩ := ifn_ H
  have LMc1 := a_ c6
  clear c6
  obtain ⟨y0, hy0⟩ : ∃ y_ : List (S100), y_ = (l2 ++ [(⟨a0, a1⟩ : S100)]) := ⟨_, rfl⟩
  replace H : (some (y0, l3)) = some (r0, r1) := rpl_ hy0 H
  have Ny0 := a_ hy0
  clear hy0
  simp only [Option.some.injEq, Prod.mk.injEq] at H
  obtain ⟨rfl, rfl⟩ := H
  go_enter Try.func107, Try.ntmps107
  go_wp2_with (first | ((with_reducible refine gate_dst (N := 4) rfl ?_); refine boxE_ (cs := #[.int .i64 a0, .int .i64 a1]) (t := 100) ?_; intro gb0 hg w12 hbox hb; replace HO0 := a_ (Kd.R_below (Kd.R_elderB (kdU_ HO0.out) gb0 (Nat.le_of_eq hg.symm)) hb); replace HO1 := a_ (Kd.R_below (Kd.R_elderB (kdU_ HO1.out) gb0 (Nat.le_of_eq hg.symm)) hb); have BK0 := a_ (hbox); have GW0 := a_ ((by rw [hg]; exact (by first | exact HK.out.1 | exact (show Kept w _ (fun k_ => P2_ k_ ∨ P3_ k_) from by repeat (first | (with_reducible first | exact HK.out | apply Kept.alloc | apply Kept.drewN | apply Kept.drew) | exact HK.out)).1) : w.heap.size ≤ gb0)); replace HK := a_ (Kept.below (S := (fun k_ => P2_ k_ ∨ P3_ k_)) (by repeat (first | (with_reducible first | exact HK.out | apply Kept.alloc | apply Kept.drewN | apply Kept.drew) | exact HK.out)) hb); have GE0 := sizeB_ hg; replace HB := s_ hb; clear hb hbox hg; obtain ⟨z12, z13, f12, f13⟩ := cz2_ BK0.out) | ((with_reducible refine gate_builtin (b := .append) (xs := #[.tmp 17, .tmp 19]) rfl ?_); at_builtin; refine Kd.R_append k100 (w0 := w0) w0.heap.size rfl (.tmp 17) (.tmp 19) 96 100 (.agg #[(.int .i64 0), (.int .i64 0)]) 16 rfl Try.underlying96 info100 rfl (by decide) (by omega) u9000_ l2 (⟨a0, a1⟩ : S100) [.int .i64 a0, .int .i64 a1] (fun k_ => ((P2_ k_ ∨ P3_ k_) ∨ w.heap.size ≤ k_) ∧ some k_ ≠ (u9001_ : Value).ownBlock ∧ k_ ≠ gb0) (fun _ => False) rfl rfl ?aP (fun _ hk => hk.elim) ?aF ?aO ?aB ?aS ?aL ?_; (case aP => exact k100_mkM _ _ _ (⟨a0, a1⟩ : S100)); (case aB => exact bel_); (case aF => exact (fun k_ hk => ⟨(.inr (Nat.le_trans (by first | exact HK.out.1 | exact (show Kept w _ (fun k_ => P2_ k_ ∨ P3_ k_) from by repeat (first | (with_reducible first | exact HK.out | apply Kept.alloc | apply Kept.drewN | apply Kept.drew | refine Kept.setCell ?_ (.inr GW0.out) _) | exact HK.out)).1) hk)), Kd.fresh' (Kd.R_lt (kdU_ HO1.out)) k_ hk, Kd.freshB (g := gb0) (o := .cells #[.int .i64 a0, .int .i64 a1] 100 (0, 0)) (blkU_ BK0.out) k_ hk⟩)); (case aO => exact (uR_ (Kd.R_mono HO0.out (fun _ hk => ⟨hk.1.1, ⟨hk.1.2, hk.2⟩⟩)))); (case aS => exact (below_size bel_)); (case aL => have := LMc1.out; omega); intro v4 w13 ho hb hg hat; rw [← Ny0.out] at ho; replace HO1 := a_ (Kd.R_after (ok := (fun k_ => ((P2_ k_ ∨ P3_ k_) ∨ w.heap.size ≤ k_) ∧ k_ ≠ gb0)) (uR_ (Kd.R_mono HO1.out (fun _ hk => ⟨⟨hk.1.1, hk.2⟩, hk.1.2⟩))) hg hat); replace BK0 := a_ (blk_grown (g := gb0) (o := .cells #[.int .i64 a0, .int .i64 a1] 100 (0, 0)) (blkU_ BK0.out) hg (Kd.R_away HO0.out (fun _ hk => hk.2))); replace HB := a_ (hb); replace HK := a_ (Kept.of_grown (S := (fun k_ => P2_ k_ ∨ P3_ k_)) hg (by repeat (first | (with_reducible first | exact HK.out | apply Kept.alloc | apply Kept.drewN | apply Kept.drew | refine Kept.setCell ?_ (.inr GW0.out) _) | exact HK.out)) (fun k_ e_ => (HO0.out.1 k_ e_).1.1)); have HO4 := a_ (ho); clear HO0; clear ho hb hg hat))
  go_ret2
  exact ⟨_, _, rfl_, uR_ (Kd.R_mono HO4.out (fun _ hk => ⟨hk.1, hk.2.1⟩)), uR_ (Kd.R_mono HO1.out (fun _ hk => ⟨hk.1.1, hk.2⟩)), bel_, by repeat (first | (with_reducible first | exact HK.out | apply Kept.alloc | apply Kept.drewN | apply Kept.drew | refine Kept.setCell ?_ (.inr GW0.out) _) | exact HK.out)⟩
 ·rw [if_neg c5] at H
  have c11 := decide_eq_false c5
  clear c5
  by_cases c10 : a0 ≥ a2
  ·rw [if_pos c10] at H
   have c1 : decide (a2 ≤ a0) = true := decide_eq_true c10
   clear c10
   obtain ⟨c0, H⟩ := ifn_ H
   have LMc0 := a_ c0
   clear c0
   obtain ⟨y1, hy1⟩ : ∃ y_ : List (S100), y_ = (l3 ++ [(⟨a0, a1⟩ : S100)]) := ⟨_, rfl⟩
   replace H : (some (l2, y1)) = some (r0, r1) := rpl_ hy1 H
   have Ny1 := a_ hy1
   clear hy1
   simp only [Option.some.injEq, Prod.mk.injEq] at H
   obtain ⟨rfl, rfl⟩ := H
   go_enter Try.func107, Try.ntmps107
   go_wp2_with (first | ((with_reducible refine gate_dst (N := 4) rfl ?_); refine boxE_ (cs := #[.int .i64 a0, .int .i64 a1]) (t := 100) ?_; intro gb0 hg w4 hbox hb; replace HO0 := a_ (Kd.R_below (Kd.R_elderB (kdU_ HO0.out) gb0 (Nat.le_of_eq hg.symm)) hb); replace HO1 := a_ (Kd.R_below (Kd.R_elderB (kdU_ HO1.out) gb0 (Nat.le_of_eq hg.symm)) hb); have BK0 := a_ (hbox); have GW0 := a_ ((by rw [hg]; exact (by first | exact HK.out.1 | exact (show Kept w _ (fun k_ => P2_ k_ ∨ P3_ k_) from by repeat (first | (with_reducible first | exact HK.out | apply Kept.alloc | apply Kept.drewN | apply Kept.drew) | exact HK.out)).1) : w.heap.size ≤ gb0)); replace HK := a_ (Kept.below (S := (fun k_ => P2_ k_ ∨ P3_ k_)) (by repeat (first | (with_reducible first | exact HK.out | apply Kept.alloc | apply Kept.drewN | apply Kept.drew) | exact HK.out)) hb); have GE0 := sizeB_ hg; replace HB := s_ hb; clear hb hbox hg; obtain ⟨z0, z1, f0, f1⟩ := cz2_ BK0.out) | ((with_reducible refine gate_builtin (b := .append) (xs := #[.tmp 28, .tmp 30]) rfl ?_); at_builtin; refine Kd.R_append k100 (w0 := w0) w0.heap.size rfl (.tmp 28) (.tmp 30) 96 100 (.agg #[(.int .i64 0), (.int .i64 0)]) 16 rfl Try.underlying96 info100 rfl (by decide) (by omega) u9001_ l3 (⟨a0, a1⟩ : S100) [.int .i64 a0, .int .i64 a1] (fun k_ => ((P2_ k_ ∨ P3_ k_) ∨ w.heap.size ≤ k_) ∧ some k_ ≠ (u9000_ : Value).ownBlock ∧ k_ ≠ gb0) (fun _ => False) rfl rfl ?aP (fun _ hk => hk.elim) ?aF ?aO ?aB ?aS ?aL ?_; (case aP => exact k100_mkM _ _ _ (⟨a0, a1⟩ : S100)); (case aB => exact bel_); (case aF => exact (fun k_ hk => ⟨(.inr (Nat.le_trans (by first | exact HK.out.1 | exact (show Kept w _ (fun k_ => P2_ k_ ∨ P3_ k_) from by repeat (first | (with_reducible first | exact HK.out | apply Kept.alloc | apply Kept.drewN | apply Kept.drew | refine Kept.setCell ?_ (.inr GW0.out) _) | exact HK.out)).1) hk)), Kd.fresh' (Kd.R_lt (kdU_ HO0.out)) k_ hk, Kd.freshB (g := gb0) (o := .cells #[.int .i64 a0, .int .i64 a1] 100 (0, 0)) (blkU_ BK0.out) k_ hk⟩)); (case aO => exact (uR_ (Kd.R_mono HO1.out (fun _ hk => ⟨hk.1.1, ⟨hk.1.2, hk.2⟩⟩)))); (case aS => exact (below_size bel_)); (case aL => have := LMc0.out; omega); intro v5 w5 ho hb hg hat; rw [← Ny1.out] at ho; replace HO0 := a_ (Kd.R_after (ok := (fun k_ => ((P2_ k_ ∨ P3_ k_) ∨ w.heap.size ≤ k_) ∧ k_ ≠ gb0)) (uR_ (Kd.R_mono HO0.out (fun _ hk => ⟨⟨hk.1.1, hk.2⟩, hk.1.2⟩))) hg hat); replace BK0 := a_ (blk_grown (g := gb0) (o := .cells #[.int .i64 a0, .int .i64 a1] 100 (0, 0)) (blkU_ BK0.out) hg (Kd.R_away HO1.out (fun _ hk => hk.2))); replace HB := a_ (hb); replace HK := a_ (Kept.of_grown (S := (fun k_ => P2_ k_ ∨ P3_ k_)) hg (by repeat (first | (with_reducible first | exact HK.out | apply Kept.alloc | apply Kept.drewN | apply Kept.drew | refine Kept.setCell ?_ (.inr GW0.out) _) | exact HK.out)) (fun k_ e_ => (HO1.out.1 k_ e_).1.1)); have HO5 := a_ (ho); clear HO1; clear ho hb hg hat))
   go_ret2
   exact ⟨_, _, rfl_, uR_ (Kd.R_mono HO0.out (fun _ hk => ⟨hk.1.1, hk.2⟩)), uR_ (Kd.R_mono HO5.out (fun _ hk => ⟨hk.1, hk.2.1⟩)), bel_, by repeat (first | (with_reducible first | exact HK.out | apply Kept.alloc | apply Kept.drewN | apply Kept.drew | refine Kept.setCell ?_ (.inr GW0.out) _) | exact HK.out)⟩
  ·rw [if_neg c10] at H
   have c1 : decide (a2 ≤ a0) = false := decide_eq_false c10
   clear c10
   obtain ⟨⟨t0, t1, t2, t3⟩, A0, H⟩ := bnd_ H
   dsimp only at H
   obtain ⟨⟨t4, t5⟩, A1, H⟩ := bnd_ H
   dsimp only at H
   obtain ⟨⟨t6, t7⟩, A2, H⟩ := bnd_ H
   dsimp only at H
   simp only [Option.some.injEq, Prod.mk.injEq] at H
   obtain ⟨rfl, rfl⟩ := H
   go_enter Try.func107, Try.ntmps107
   go_wp2_with (first | ((with_reducible refine gate_dst (N := 4) rfl ?_); refine boxE_ (cs := #[.int .i64 a0, .int .i64 a1]) (t := 100) ?_; intro gb0 hg w6 hbox hb; replace HO0 := a_ (Kd.R_below (Kd.R_elderB (kdU_ HO0.out) gb0 (Nat.le_of_eq hg.symm)) hb); replace HO1 := a_ (Kd.R_below (Kd.R_elderB (kdU_ HO1.out) gb0 (Nat.le_of_eq hg.symm)) hb); have BK0 := a_ (hbox); have GW0 := a_ ((by rw [hg]; exact (by first | exact HK.out.1 | exact (show Kept w _ (fun k_ => P2_ k_ ∨ P3_ k_) from by repeat (first | (with_reducible first | exact HK.out | apply Kept.alloc | apply Kept.drewN | apply Kept.drew) | exact HK.out)).1) : w.heap.size ≤ gb0)); replace HK := a_ (Kept.below (S := (fun k_ => P2_ k_ ∨ P3_ k_)) (by repeat (first | (with_reducible first | exact HK.out | apply Kept.alloc | apply Kept.drewN | apply Kept.drew) | exact HK.out)) hb); have GE0 := sizeB_ hg; replace HB := s_ hb; clear hb hbox hg; obtain ⟨z2, z3, f2, f3⟩ := cz2_ BK0.out) | (refine gcB_ 77 34 Try.func77 (impl_node_halves.calls _ _ _ _ _ _ _ _ A0.out) ?_; intro w7 hb; replace HO0 := rb_ HO0.out hb; replace HO1 := rb_ HO1.out hb; replace BK0 := bb_ BK0.out hb; replace HK := a_ (Kept.below (S := (fun k_ => P2_ k_ ∨ P3_ k_)) (by repeat (first | (with_reducible first | exact HK.out | apply Kept.alloc | apply Kept.drewN | apply Kept.drew | refine Kept.setCell ?_ (.inr GW0.out) _) | exact HK.out)) hb); replace HB := s_ hb) | ((with_reducible refine gate_dst (N := 10) rfl ?_); refine boxE_ (cs := #[.int .i64 0, .int .i64 0]) (t := 100) ?_; intro gb1 hg w9 hbox hb; replace HO0 := a_ (Kd.R_below (Kd.R_elderB (kdU_ HO0.out) gb1 (Nat.le_of_eq hg.symm)) hb); replace HO1 := a_ (Kd.R_below (Kd.R_elderB (kdU_ HO1.out) gb1 (Nat.le_of_eq hg.symm)) hb); have BK1 := a_ (hbox); have GW1 := a_ ((by rw [hg]; exact (by first | exact HK.out.1 | exact (show Kept w _ (fun k_ => P2_ k_ ∨ P3_ k_) from by repeat (first | (with_reducible first | exact HK.out | apply Kept.alloc | apply Kept.drewN | apply Kept.drew | refine Kept.setCell ?_ (.inr GW0.out) _) | exact HK.out)).1) : w.heap.size ≤ gb1)); replace HK := a_ (Kept.below (S := (fun k_ => P2_ k_ ∨ P3_ k_)) (by repeat (first | (with_reducible first | exact HK.out | apply Kept.alloc | apply Kept.drewN | apply Kept.drew | refine Kept.setCell ?_ (.inr GW0.out) _) | exact HK.out)) hb); have GE1 := sizeB_ hg; replace HB := s_ hb; obtain ⟨NB0, NB2⟩ := ne2_ BK0.out hg; replace BK0 := bb_ BK0.out hb; clear hb hbox hg) | ((with_reducible refine gate_dst (N := 11) rfl ?_); refine boxE_ (cs := #[.int .i64 0, .int .i64 0]) (t := 100) ?_; intro gb2 hg w3 hbox hb; replace HO0 := a_ (Kd.R_below (Kd.R_elderB (kdU_ HO0.out) gb2 (Nat.le_of_eq hg.symm)) hb); replace HO1 := a_ (Kd.R_below (Kd.R_elderB (kdU_ HO1.out) gb2 (Nat.le_of_eq hg.symm)) hb); have BK2 := a_ (hbox); have GW2 := a_ ((by rw [hg]; exact (by first | exact HK.out.1 | exact (show Kept w _ (fun k_ => P2_ k_ ∨ P3_ k_) from by repeat (first | (with_reducible first | exact HK.out | apply Kept.alloc | apply Kept.drewN | apply Kept.drew | refine Kept.setCell ?_ (.inr GW0.out) _ | refine Kept.setCell ?_ (.inr GW1.out) _) | exact HK.out)).1) : w.heap.size ≤ gb2)); replace HK := a_ (Kept.below (S := (fun k_ => P2_ k_ ∨ P3_ k_)) (by repeat (first | (with_reducible first | exact HK.out | apply Kept.alloc | apply Kept.drewN | apply Kept.drew | refine Kept.setCell ?_ (.inr GW0.out) _ | refine Kept.setCell ?_ (.inr GW1.out) _) | exact HK.out)) hb); have GE2 := sizeB_ hg; replace HB := s_ hb; obtain ⟨NB1, NB4⟩ := ne2_ BK0.out hg; replace BK0 := bb_ BK0.out hb; obtain ⟨NB3, NB5⟩ := ne2_ BK1.out hg; replace BK1 := bb_ BK1.out hb; clear hb hbox hg; have hnb0 := NB2.out; have hnc0 := NB0.out; have hnb1 := NB3.out; have hnc1 := NB5.out; obtain ⟨z4, z5, f4, f5⟩ := cz2_ BK1.out) | ((with_reducible refine gate_store (t := 100) (p := 10) rfl ?_); refine store_event (t := 100) (p := 10) (v := ?vo_w26) (w1 := ((w3.setCell ⟨gb1, 0, none⟩ (.int .i64 t0)).setCell ⟨gb1, 1, none⟩ (.int .i64 t1))) ?hg ?ho ?hn ?hr ?_; (case ho => rfl); (case hg => rfl); (case hn => rfl); (case hr => first | (go_simp; done) | (go_simp; rfl)); intro w1 hw; have n0_ : Aside0 (Kd.R k100 100 w1 w0.heap.size (fun k_ => ((P2_ k_ ∨ P3_ k_) ∨ w.heap.size ≤ k_) ∧ some k_ ≠ (u9001_ : Value).ownBlock ∧ k_ ≠ gb0 ∧ k_ ≠ gb1 ∧ k_ ≠ gb2) u9000_ l2) := ⟨(by rw [hw]; exact (uR_ (Kd.R_mono (Kd.R_far (p := ⟨gb1, 1, none⟩) (Kd.R_far (p := ⟨gb1, 0, none⟩) (Kd.R_mono HO0.out (fun k_ hk => (⟨hk, hk.1.2⟩ : _ ∧ k_ ≠ gb1))) (fun _ hk => hk.2) (.int .i64 t0)) (fun _ hk => hk.2) (.int .i64 t1)) (fun _ hk => ⟨hk.1.1.1.1.1, ⟨hk.1.1.1.1.2, ⟨hk.1.1.1.2, ⟨hk.1.1.2, hk.1.2⟩⟩⟩⟩))))⟩; have n1_ : Aside0 (Kd.R k100 100 w1 w0.heap.size (fun k_ => ((P2_ k_ ∨ P3_ k_) ∨ w.heap.size ≤ k_) ∧ some k_ ≠ (u9000_ : Value).ownBlock ∧ k_ ≠ gb0 ∧ k_ ≠ gb1 ∧ k_ ≠ gb2) u9001_ l3) := ⟨(by rw [hw]; exact (uR_ (Kd.R_mono (Kd.R_far (p := ⟨gb1, 1, none⟩) (Kd.R_far (p := ⟨gb1, 0, none⟩) (Kd.R_mono HO1.out (fun k_ hk => (⟨hk, hk.1.2⟩ : _ ∧ k_ ≠ gb1))) (fun _ hk => hk.2) (.int .i64 t0)) (fun _ hk => hk.2) (.int .i64 t1)) (fun _ hk => ⟨hk.1.1.1.1.1, ⟨hk.1.1.1.1.2, ⟨hk.1.1.1.2, ⟨hk.1.1.2, hk.1.2⟩⟩⟩⟩))))⟩; have n2_ : Aside0 (w1.heap[gb0]? = some (.cells #[.int .i64 a0, .int .i64 a1] 100 (0, 0))) := ⟨(by rw [hw]; exact (blkU_ BK0.out))⟩; have n3_ : Aside0 (w1.heap[gb1]? = some (.cells #[.int .i64 t0, .int .i64 t1] 100 (0, 0))) := ⟨(by rw [hw]; exact (blkF_ BK1.out))⟩; have n4_ : Aside0 (w1.heap[gb2]? = some (.cells #[.int .i64 0, .int .i64 0] 100 (0, 0))) := ⟨(by rw [hw]; exact (blkU_ BK2.out))⟩; have n5_ : Aside0 (Kept w w1 (fun k_ => P2_ k_ ∨ P3_ k_)) := ⟨(by rw [hw]; exact (by repeat (first | (with_reducible first | exact HK.out | apply Kept.alloc | apply Kept.drewN | apply Kept.drew | refine Kept.setCell ?_ (.inr GW0.out) _ | refine Kept.setCell ?_ (.inr GW1.out) _ | refine Kept.setCell ?_ (.inr GW2.out) _) | exact HK.out)))⟩; have n6_ : Aside0 (Below w0.heap.size w0 w1) := ⟨(by rw [hw]; exact bel_)⟩; clear hw; clear HO0; clear HO1; clear BK0; clear BK1; clear BK2; clear HK; clear HB; have HO0 := n0_; have HO1 := n1_; have BK0 := n2_; have BK1 := n3_; have BK2 := n4_; have HK := n5_; have HB := n6_; clear n0_ n1_ n2_ n3_ n4_ n5_ n6_; have hnb2 := NB4.out; have hnc2 := NB1.out; obtain ⟨z6, z7, f6, f7⟩ := cz2_ BK2.out) | ((with_reducible refine gate_store (t := 100) (p := 11) rfl ?_); refine store_event (t := 100) (p := 11) (v := ?vo_w29) (w1 := ((w1.setCell ⟨gb2, 0, none⟩ (.int .i64 t2)).setCell ⟨gb2, 1, none⟩ (.int .i64 t3))) ?hg ?ho ?hn ?hr ?_; (case ho => rfl); (case hg => rfl); (case hn => rfl); (case hr => first | (go_simp; done) | (go_simp; rfl)); intro w2 hw; have n0_ : Aside0 (Kd.R k100 100 w2 w0.heap.size (fun k_ => ((P2_ k_ ∨ P3_ k_) ∨ w.heap.size ≤ k_) ∧ some k_ ≠ (u9001_ : Value).ownBlock ∧ k_ ≠ gb0 ∧ k_ ≠ gb1 ∧ k_ ≠ gb2) u9000_ l2) := ⟨(by rw [hw]; exact (uR_ (Kd.R_mono (Kd.R_far (p := ⟨gb2, 1, none⟩) (Kd.R_far (p := ⟨gb2, 0, none⟩) (Kd.R_mono HO0.out (fun k_ hk => (⟨hk, hk.2.2.2.2⟩ : _ ∧ k_ ≠ gb2))) (fun _ hk => hk.2) (.int .i64 t2)) (fun _ hk => hk.2) (.int .i64 t3)) (fun _ hk => ⟨hk.1.1, ⟨hk.1.2.1, ⟨hk.1.2.2.1, ⟨hk.1.2.2.2.1, hk.1.2.2.2.2⟩⟩⟩⟩))))⟩; have n1_ : Aside0 (Kd.R k100 100 w2 w0.heap.size (fun k_ => ((P2_ k_ ∨ P3_ k_) ∨ w.heap.size ≤ k_) ∧ some k_ ≠ (u9000_ : Value).ownBlock ∧ k_ ≠ gb0 ∧ k_ ≠ gb1 ∧ k_ ≠ gb2) u9001_ l3) := ⟨(by rw [hw]; exact (uR_ (Kd.R_mono (Kd.R_far (p := ⟨gb2, 1, none⟩) (Kd.R_far (p := ⟨gb2, 0, none⟩) (Kd.R_mono HO1.out (fun k_ hk => (⟨hk, hk.2.2.2.2⟩ : _ ∧ k_ ≠ gb2))) (fun _ hk => hk.2) (.int .i64 t2)) (fun _ hk => hk.2) (.int .i64 t3)) (fun _ hk => ⟨hk.1.1, ⟨hk.1.2.1, ⟨hk.1.2.2.1, ⟨hk.1.2.2.2.1, hk.1.2.2.2.2⟩⟩⟩⟩))))⟩; have n2_ : Aside0 (w2.heap[gb0]? = some (.cells #[.int .i64 a0, .int .i64 a1] 100 (0, 0))) := ⟨(by rw [hw]; exact (blkU_ BK0.out))⟩; have n3_ : Aside0 (w2.heap[gb1]? = some (.cells #[.int .i64 t0, .int .i64 t1] 100 (0, 0))) := ⟨(by rw [hw]; exact (blkU_ BK1.out))⟩; have n4_ : Aside0 (w2.heap[gb2]? = some (.cells #[.int .i64 t2, .int .i64 t3] 100 (0, 0))) := ⟨(by rw [hw]; exact (blkF_ BK2.out))⟩; have n5_ : Aside0 (Kept w w2 (fun k_ => P2_ k_ ∨ P3_ k_)) := ⟨(by rw [hw]; exact (by repeat (first | (with_reducible first | exact HK.out | apply Kept.alloc | apply Kept.drewN | apply Kept.drew | refine Kept.setCell ?_ (.inr GW0.out) _ | refine Kept.setCell ?_ (.inr GW1.out) _ | refine Kept.setCell ?_ (.inr GW2.out) _) | exact HK.out)))⟩; have n6_ : Aside0 (Below w0.heap.size w0 w2) := ⟨(by rw [hw]; exact bel_)⟩; clear hw; clear HO0; clear HO1; clear BK0; clear BK1; clear BK2; clear HK; clear HB; have HO0 := n0_; have HO1 := n1_; have BK0 := n2_; have BK1 := n3_; have BK2 := n4_; have HK := n5_; have HB := n6_; clear n0_ n1_ n2_ n3_ n4_ n5_ n6_; obtain ⟨z8, z9, f8, f9⟩ := cz2_ BK1.out; obtain ⟨Ao0, co0, eo0⟩ := Kd.R_slice HO0.out; subst eo0; obtain ⟨Ao1, co1, eo1⟩ := Kd.R_slice HO1.out; subst eo1) | (refine gcL_ 107 (some 42) Try.func107 #[.agg #[.int .i64 t0, .int .i64 t1], .int .i64 a2, .slice Ao0 l2.length co0, .slice Ao1 l3.length co1] ?_; (with_reducible refine (ih k (by omega) t0 t1 a2 (fun k_ => some k_ = (.slice Ao0 l2.length co0 : Value).ownBlock) (.slice Ao0 l2.length co0) l2 (fun k_ => some k_ = (.slice Ao1 l3.length co1 : Value).ownBlock) (.slice Ao1 l3.length co1) l3 t4 t5 w0 _ ?side1 ?side2 ?side3 ?side4 ?side5 A1.out).mono ?_); (case side1 => exact bel_); (case side2 => exact Kd.R_tight rfl HO0.out); (case side3 => exact fun k_ e_ => (HO0.out.1 k_ e_.symm).2.1); (case side4 => exact Kd.R_tight rfl HO1.out); (case side5 => exact fun k_ e_ => (HO1.out.1 k_ e_.symm).2.1); rintro e w10 ⟨v0, v1, rfl, ho0, ho1, hb, hkp⟩; refine ⟨_, rfl, ?_⟩; have HO2 := a_ (Kd.R_mono (ok' := fun k_ => ((P2_ k_ ∨ P3_ k_) ∨ w.heap.size ≤ k_) ∧ some k_ ≠ (v1 : Value).ownBlock ∧ k_ ≠ gb0 ∧ k_ ≠ gb1 ∧ k_ ≠ gb2) ho0 (fun k_ hk_ => ⟨Or.elim hk_.1 (fun hs_ => Or.elim hs_ (fun hs_ => (HO0.out.1 k_ (hs_).symm).1) (fun hs_ => (HO1.out.1 k_ (hs_).symm).1)) (fun hn_ => (.inr (Nat.le_trans (by first | exact HK.out.1 | exact (show Kept w _ (fun k_ => P2_ k_ ∨ P3_ k_) from by repeat (first | (with_reducible first | exact HK.out | apply Kept.alloc | apply Kept.drewN | apply Kept.drew | refine Kept.setCell ?_ (.inr GW0.out) _ | refine Kept.setCell ?_ (.inr GW1.out) _ | refine Kept.setCell ?_ (.inr GW2.out) _) | exact HK.out)).1) hn_))), hk_.2, Or.elim hk_.1 (fun hs_ => Or.elim hs_ (fun hs_ => fun e_ => (Kd.R_away HO0.out (fun _ hk => hk.2.2.1)) (by rw [← e_]; exact hs_)) (fun hs_ => fun e_ => (Kd.R_away HO1.out (fun _ hk => hk.2.2.1)) (by rw [← e_]; exact hs_))) (fun hn_ => (Kd.freshB (g := gb0) (o := .cells #[.int .i64 a0, .int .i64 a1] 100 (0, 0)) (blkU_ BK0.out) k_ hn_)), Or.elim hk_.1 (fun hs_ => Or.elim hs_ (fun hs_ => fun e_ => (Kd.R_away HO0.out (fun _ hk => hk.2.2.2.1)) (by rw [← e_]; exact hs_)) (fun hs_ => fun e_ => (Kd.R_away HO1.out (fun _ hk => hk.2.2.2.1)) (by rw [← e_]; exact hs_))) (fun hn_ => (Kd.freshB (g := gb1) (o := .cells #[.int .i64 t0, .int .i64 t1] 100 (0, 0)) (blkU_ BK1.out) k_ hn_)), Or.elim hk_.1 (fun hs_ => Or.elim hs_ (fun hs_ => fun e_ => (Kd.R_away HO0.out (fun _ hk => hk.2.2.2.2)) (by rw [← e_]; exact hs_)) (fun hs_ => fun e_ => (Kd.R_away HO1.out (fun _ hk => hk.2.2.2.2)) (by rw [← e_]; exact hs_))) (fun hn_ => (Kd.freshB (g := gb2) (o := .cells #[.int .i64 t2, .int .i64 t3] 100 (0, 0)) (blkU_ BK2.out) k_ hn_))⟩)); have HO3 := a_ (Kd.R_mono (ok' := fun k_ => ((P2_ k_ ∨ P3_ k_) ∨ w.heap.size ≤ k_) ∧ some k_ ≠ (v0 : Value).ownBlock ∧ k_ ≠ gb0 ∧ k_ ≠ gb1 ∧ k_ ≠ gb2) ho1 (fun k_ hk_ => ⟨Or.elim hk_.1 (fun hs_ => Or.elim hs_ (fun hs_ => (HO0.out.1 k_ (hs_).symm).1) (fun hs_ => (HO1.out.1 k_ (hs_).symm).1)) (fun hn_ => (.inr (Nat.le_trans (by first | exact HK.out.1 | exact (show Kept w _ (fun k_ => P2_ k_ ∨ P3_ k_) from by repeat (first | (with_reducible first | exact HK.out | apply Kept.alloc | apply Kept.drewN | apply Kept.drew | refine Kept.setCell ?_ (.inr GW0.out) _ | refine Kept.setCell ?_ (.inr GW1.out) _ | refine Kept.setCell ?_ (.inr GW2.out) _) | exact HK.out)).1) hn_))), hk_.2, Or.elim hk_.1 (fun hs_ => Or.elim hs_ (fun hs_ => fun e_ => (Kd.R_away HO0.out (fun _ hk => hk.2.2.1)) (by rw [← e_]; exact hs_)) (fun hs_ => fun e_ => (Kd.R_away HO1.out (fun _ hk => hk.2.2.1)) (by rw [← e_]; exact hs_))) (fun hn_ => (Kd.freshB (g := gb0) (o := .cells #[.int .i64 a0, .int .i64 a1] 100 (0, 0)) (blkU_ BK0.out) k_ hn_)), Or.elim hk_.1 (fun hs_ => Or.elim hs_ (fun hs_ => fun e_ => (Kd.R_away HO0.out (fun _ hk => hk.2.2.2.1)) (by rw [← e_]; exact hs_)) (fun hs_ => fun e_ => (Kd.R_away HO1.out (fun _ hk => hk.2.2.2.1)) (by rw [← e_]; exact hs_))) (fun hn_ => (Kd.freshB (g := gb1) (o := .cells #[.int .i64 t0, .int .i64 t1] 100 (0, 0)) (blkU_ BK1.out) k_ hn_)), Or.elim hk_.1 (fun hs_ => Or.elim hs_ (fun hs_ => fun e_ => (Kd.R_away HO0.out (fun _ hk => hk.2.2.2.2)) (by rw [← e_]; exact hs_)) (fun hs_ => fun e_ => (Kd.R_away HO1.out (fun _ hk => hk.2.2.2.2)) (by rw [← e_]; exact hs_))) (fun hn_ => (Kd.freshB (g := gb2) (o := .cells #[.int .i64 t2, .int .i64 t3] 100 (0, 0)) (blkU_ BK2.out) k_ hn_))⟩)); replace BK0 := a_ (blk_kept (blkU_ BK0.out) hkp (fun hs_ => Or.elim hs_ (fun e_ => (fun e_ => (Kd.R_away HO0.out (fun _ hk => hk.2.2.1)) e_) e_) (fun e_ => (fun e_ => (Kd.R_away HO1.out (fun _ hk => hk.2.2.1)) e_) e_))); replace BK1 := a_ (blk_kept (blkU_ BK1.out) hkp (fun hs_ => Or.elim hs_ (fun e_ => (fun e_ => (Kd.R_away HO0.out (fun _ hk => hk.2.2.2.1)) e_) e_) (fun e_ => (fun e_ => (Kd.R_away HO1.out (fun _ hk => hk.2.2.2.1)) e_) e_))); replace BK2 := a_ (blk_kept (blkU_ BK2.out) hkp (fun hs_ => Or.elim hs_ (fun e_ => (fun e_ => (Kd.R_away HO0.out (fun _ hk => hk.2.2.2.2)) e_) e_) (fun e_ => (fun e_ => (Kd.R_away HO1.out (fun _ hk => hk.2.2.2.2)) e_) e_))); replace HK := a_ (Kept.then_ (S := (fun k_ => P2_ k_ ∨ P3_ k_)) (by repeat (first | (with_reducible first | exact HK.out | apply Kept.alloc | apply Kept.drewN | apply Kept.drew | refine Kept.setCell ?_ (.inr GW0.out) _ | refine Kept.setCell ?_ (.inr GW1.out) _ | refine Kept.setCell ?_ (.inr GW2.out) _) | exact HK.out)) hkp (fun k_ hs_ => Or.elim hs_ (fun e_ => (fun e_ => (HO0.out.1 k_ e_.symm).1) e_) (fun e_ => (fun e_ => (HO1.out.1 k_ e_.symm).1) e_))); replace HB := a_ (hb); clear HO0 HO1; (try clear hkp); (try clear ho0); (try clear ho1); obtain ⟨z10, z11, f10, f11⟩ := cz2_ BK2.out; obtain ⟨Ao2, co2, eo2⟩ := Kd.R_slice HO2.out; subst eo2; obtain ⟨Ao3, co3, eo3⟩ := Kd.R_slice HO3.out; subst eo3) | (refine gcL_ 107 (some 49) Try.func107 #[.agg #[.int .i64 t2, .int .i64 t3], .int .i64 a2, .slice Ao2 t4.length co2, .slice Ao3 t5.length co3] ?_; (with_reducible refine (ih k (by omega) t2 t3 a2 (fun k_ => some k_ = (.slice Ao2 t4.length co2 : Value).ownBlock) (.slice Ao2 t4.length co2) t4 (fun k_ => some k_ = (.slice Ao3 t5.length co3 : Value).ownBlock) (.slice Ao3 t5.length co3) t5 t6 t7 w0 _ ?side1 ?side2 ?side3 ?side4 ?side5 A2.out).mono ?_); (case side1 => exact bel_); (case side2 => exact Kd.R_tight rfl HO2.out); (case side3 => exact fun k_ e_ => (HO2.out.1 k_ e_.symm).2.1); (case side4 => exact Kd.R_tight rfl HO3.out); (case side5 => exact fun k_ e_ => (HO3.out.1 k_ e_.symm).2.1); rintro e w11 ⟨v2, v3, rfl, ho0, ho1, hb, hkp⟩; refine ⟨_, rfl, ?_⟩; have HO6 := a_ (Kd.R_mono (ok' := fun k_ => ((P2_ k_ ∨ P3_ k_) ∨ w.heap.size ≤ k_) ∧ some k_ ≠ (v3 : Value).ownBlock ∧ k_ ≠ gb0 ∧ k_ ≠ gb1 ∧ k_ ≠ gb2) ho0 (fun k_ hk_ => ⟨Or.elim hk_.1 (fun hs_ => Or.elim hs_ (fun hs_ => (HO2.out.1 k_ (hs_).symm).1) (fun hs_ => (HO3.out.1 k_ (hs_).symm).1)) (fun hn_ => (.inr (Nat.le_trans (by first | exact HK.out.1 | exact (show Kept w _ (fun k_ => P2_ k_ ∨ P3_ k_) from by repeat (first | (with_reducible first | exact HK.out | apply Kept.alloc | apply Kept.drewN | apply Kept.drew | refine Kept.setCell ?_ (.inr GW0.out) _ | refine Kept.setCell ?_ (.inr GW1.out) _ | refine Kept.setCell ?_ (.inr GW2.out) _) | exact HK.out)).1) hn_))), hk_.2, Or.elim hk_.1 (fun hs_ => Or.elim hs_ (fun hs_ => fun e_ => (Kd.R_away HO2.out (fun _ hk => hk.2.2.1)) (by rw [← e_]; exact hs_)) (fun hs_ => fun e_ => (Kd.R_away HO3.out (fun _ hk => hk.2.2.1)) (by rw [← e_]; exact hs_))) (fun hn_ => (Kd.freshB (g := gb0) (o := .cells #[.int .i64 a0, .int .i64 a1] 100 (0, 0)) (blkU_ BK0.out) k_ hn_)), Or.elim hk_.1 (fun hs_ => Or.elim hs_ (fun hs_ => fun e_ => (Kd.R_away HO2.out (fun _ hk => hk.2.2.2.1)) (by rw [← e_]; exact hs_)) (fun hs_ => fun e_ => (Kd.R_away HO3.out (fun _ hk => hk.2.2.2.1)) (by rw [← e_]; exact hs_))) (fun hn_ => (Kd.freshB (g := gb1) (o := .cells #[.int .i64 t0, .int .i64 t1] 100 (0, 0)) (blkU_ BK1.out) k_ hn_)), Or.elim hk_.1 (fun hs_ => Or.elim hs_ (fun hs_ => fun e_ => (Kd.R_away HO2.out (fun _ hk => hk.2.2.2.2)) (by rw [← e_]; exact hs_)) (fun hs_ => fun e_ => (Kd.R_away HO3.out (fun _ hk => hk.2.2.2.2)) (by rw [← e_]; exact hs_))) (fun hn_ => (Kd.freshB (g := gb2) (o := .cells #[.int .i64 t2, .int .i64 t3] 100 (0, 0)) (blkU_ BK2.out) k_ hn_))⟩)); have HO7 := a_ (Kd.R_mono (ok' := fun k_ => ((P2_ k_ ∨ P3_ k_) ∨ w.heap.size ≤ k_) ∧ some k_ ≠ (v2 : Value).ownBlock ∧ k_ ≠ gb0 ∧ k_ ≠ gb1 ∧ k_ ≠ gb2) ho1 (fun k_ hk_ => ⟨Or.elim hk_.1 (fun hs_ => Or.elim hs_ (fun hs_ => (HO2.out.1 k_ (hs_).symm).1) (fun hs_ => (HO3.out.1 k_ (hs_).symm).1)) (fun hn_ => (.inr (Nat.le_trans (by first | exact HK.out.1 | exact (show Kept w _ (fun k_ => P2_ k_ ∨ P3_ k_) from by repeat (first | (with_reducible first | exact HK.out | apply Kept.alloc | apply Kept.drewN | apply Kept.drew | refine Kept.setCell ?_ (.inr GW0.out) _ | refine Kept.setCell ?_ (.inr GW1.out) _ | refine Kept.setCell ?_ (.inr GW2.out) _) | exact HK.out)).1) hn_))), hk_.2, Or.elim hk_.1 (fun hs_ => Or.elim hs_ (fun hs_ => fun e_ => (Kd.R_away HO2.out (fun _ hk => hk.2.2.1)) (by rw [← e_]; exact hs_)) (fun hs_ => fun e_ => (Kd.R_away HO3.out (fun _ hk => hk.2.2.1)) (by rw [← e_]; exact hs_))) (fun hn_ => (Kd.freshB (g := gb0) (o := .cells #[.int .i64 a0, .int .i64 a1] 100 (0, 0)) (blkU_ BK0.out) k_ hn_)), Or.elim hk_.1 (fun hs_ => Or.elim hs_ (fun hs_ => fun e_ => (Kd.R_away HO2.out (fun _ hk => hk.2.2.2.1)) (by rw [← e_]; exact hs_)) (fun hs_ => fun e_ => (Kd.R_away HO3.out (fun _ hk => hk.2.2.2.1)) (by rw [← e_]; exact hs_))) (fun hn_ => (Kd.freshB (g := gb1) (o := .cells #[.int .i64 t0, .int .i64 t1] 100 (0, 0)) (blkU_ BK1.out) k_ hn_)), Or.elim hk_.1 (fun hs_ => Or.elim hs_ (fun hs_ => fun e_ => (Kd.R_away HO2.out (fun _ hk => hk.2.2.2.2)) (by rw [← e_]; exact hs_)) (fun hs_ => fun e_ => (Kd.R_away HO3.out (fun _ hk => hk.2.2.2.2)) (by rw [← e_]; exact hs_))) (fun hn_ => (Kd.freshB (g := gb2) (o := .cells #[.int .i64 t2, .int .i64 t3] 100 (0, 0)) (blkU_ BK2.out) k_ hn_))⟩)); replace BK0 := a_ (blk_kept (blkU_ BK0.out) hkp (fun hs_ => Or.elim hs_ (fun e_ => (fun e_ => (Kd.R_away HO2.out (fun _ hk => hk.2.2.1)) e_) e_) (fun e_ => (fun e_ => (Kd.R_away HO3.out (fun _ hk => hk.2.2.1)) e_) e_))); replace BK1 := a_ (blk_kept (blkU_ BK1.out) hkp (fun hs_ => Or.elim hs_ (fun e_ => (fun e_ => (Kd.R_away HO2.out (fun _ hk => hk.2.2.2.1)) e_) e_) (fun e_ => (fun e_ => (Kd.R_away HO3.out (fun _ hk => hk.2.2.2.1)) e_) e_))); replace BK2 := a_ (blk_kept (blkU_ BK2.out) hkp (fun hs_ => Or.elim hs_ (fun e_ => (fun e_ => (Kd.R_away HO2.out (fun _ hk => hk.2.2.2.2)) e_) e_) (fun e_ => (fun e_ => (Kd.R_away HO3.out (fun _ hk => hk.2.2.2.2)) e_) e_))); replace HK := a_ (Kept.then_ (S := (fun k_ => P2_ k_ ∨ P3_ k_)) (by repeat (first | (with_reducible first | exact HK.out | apply Kept.alloc | apply Kept.drewN | apply Kept.drew | refine Kept.setCell ?_ (.inr GW0.out) _ | refine Kept.setCell ?_ (.inr GW1.out) _ | refine Kept.setCell ?_ (.inr GW2.out) _) | exact HK.out)) hkp (fun k_ hs_ => Or.elim hs_ (fun e_ => (fun e_ => (HO2.out.1 k_ e_.symm).1) e_) (fun e_ => (fun e_ => (HO3.out.1 k_ e_.symm).1) e_))); replace HB := a_ (hb); clear HO2 HO3; (try clear hkp); (try clear ho0); (try clear ho1)))
   go_ret2
   exact ⟨_, _, rfl_, uR_ (Kd.R_mono HO6.out (fun _ hk => ⟨hk.1, hk.2.1⟩)), uR_ (Kd.R_mono HO7.out (fun _ hk => ⟨hk.1, hk.2.1⟩)), bel_, by repeat (first | (with_reducible first | exact HK.out | apply Kept.alloc | apply Kept.drewN | apply Kept.drew | refine Kept.setCell ?_ (.inr GW0.out) _ | refine Kept.setCell ?_ (.inr GW1.out) _ | refine Kept.setCell ?_ (.inr GW2.out) _) | exact HK.out)⟩
end
section
def impl_growthNodes.f (k : Nat) (a0 a1 : Int) : Option ((List (S100)) × (List (S100))) := (impl_fall.f k 0 a1 a0 ([] : List (S100)) ([] : List (S100))).bind fun bt0 => (some (bt0.1, bt0.2))
theorem impl_growthNodes.calls (k : Nat) (a0 a1 : Int) (r0 r1 : List (S100)) (w : World) (h : impl_growthNodes.f k a0 a1 = some (r0, r1)) :
  Calls Try.prog 63 #[.int .i64 a0, .int .i64 a1] w fun e w' => ∃ v0_ v1_ : Value, e = .returned (.tuple #[v0_, v1_]) ∧ Kd.R k100 100 w' w.heap.size (fun k_ => some k_ ≠ (v1_ : Value).ownBlock) v0_ r0 ∧ Kd.R k100 100 w' w.heap.size (fun k_ => some k_ ≠ (v0_ : Value).ownBlock) v1_ r1 ∧ Below w.heap.size w w' := by
 have hu100 := Try.underlying100
 have HB := rB_ w
 have H := h
 unfold impl_growthNodes.f at H
 clear h
 obtain ⟨⟨t0, t1⟩, A0, H⟩ := bnd_ H
 dsimp only at H
 simp only [Option.some.injEq, Prod.mk.injEq] at H
 obtain ⟨rfl, rfl⟩ := H
 go_enter Try.func63, Try.ntmps63
 go_wp2_with (first | (refine gcL_ 107 (some 9) Try.func107 #[.agg #[.int .i64 0, .int .i64 a1], .int .i64 a0, .slice none 0 0, .slice none 0 0] ?_; (refine (impl_fall.calls _ _ _ _ (fun k_ => some k_ = (.slice none 0 0 : Value).ownBlock) (.slice none 0 0) _ (fun k_ => some k_ = (.slice none 0 0 : Value).ownBlock) (.slice none 0 0) _ _ _ w _ ?side1 ?side2 ?side3 ?side4 ?side5 A0.out).mono ?_); (case side1 => exact bel_); (case side2 => exact Kd.R_nil _ _ _ _ _); (case side3 => intro k_ e_ e2_; simp [Value.ownBlock] at e_ e2_); (case side4 => exact Kd.R_nil _ _ _ _ _); (case side5 => intro k_ e_ e2_; simp [Value.ownBlock] at e_ e2_); rintro e w1 ⟨v0, v1, rfl, ho0, ho1, hb, hkp⟩; refine ⟨_, rfl, ?_⟩; have HO0 := a_ (Kd.R_mono (ok' := fun k_ => some k_ ≠ (v1 : Value).ownBlock) ho0 (fun k_ hk_ => hk_.2)); have HO1 := a_ (Kd.R_mono (ok' := fun k_ => some k_ ≠ (v0 : Value).ownBlock) ho1 (fun k_ hk_ => hk_.2)); replace HB := a_ (hb); clear hb; (try clear hkp); (try clear ho0); (try clear ho1)))
 go_ret2
 exact ⟨_, _, rfl_, uR_ HO0.out, uR_ HO1.out, bel_⟩
end
section
def impl_GrowthLen.f (k : Nat) (a0 a1 : Int) : Option (Int) := (impl_mayGrow.f a0 a1).bind fun t0 => (if t0 = true then (if a0 = 0 then (some 0) else (if a0 = a1 then (some 0) else ((impl_growthNodes.f k a0 a1).bind fun bt0 => (some (wrap64 ((bt0.1.length : Int) + (bt0.2.length : Int))))))) else (some (-1)))
theorem impl_GrowthLen.calls (k : Nat) (a0 a1 r : Int) (w : World) (h : impl_GrowthLen.f k a0 a1 = some r) :
  Calls Try.prog 31 #[.int .i64 a0, .int .i64 a1] w fun e w' => e = .returned (.int .i64 r) ∧ Below w.heap.size w w' := by
 have HB := rB_ w
 have H := h
 unfold impl_GrowthLen.f at H
 clear h
 obtain ⟨t0, A0, H⟩ := bnd_ H
 by_cases c4 : t0 = true
 ·subst c4
  rw [if_pos rfl] at H
  by_cases c5 : a0 = 0
  ·rw [if_pos c5] at H
   have c0 := beq_iff_eq.mpr c5
   have c1 := bne_eq_false_iff_eq.mpr c5
   clear c5
   obtain rfl := Option.some.inj H
   go_enter Try.func31, Try.ntmps31
   go_wp2_with (first | (refine gcD_ 62 9 Try.func62 (impl_mayGrow.calls _ _ _ _ A0.out) ?_; intro nd))
   go_ret
   exact ⟨rfl_, bel_⟩
  ·rw [if_neg c5] at H
   have c0 := beq_eq_false_iff_ne.mpr c5
   have c1 := bne_iff_ne.mpr c5
   by_cases c6 : a0 = a1
   ·rw [if_pos c6] at H
    have c11 := beq_iff_eq.mpr c6
    have c12 := bne_eq_false_iff_eq.mpr c6
    clear c6
    obtain rfl := Option.some.inj H
    go_enter Try.func31, Try.ntmps31
    go_wp2_with (first | (refine gcD_ 62 9 Try.func62 (impl_mayGrow.calls _ _ _ _ A0.out) ?_; intro nd))
    go_ret
    exact ⟨rfl_, bel_⟩
   ·rw [if_neg c6] at H
    have c11 := beq_eq_false_iff_ne.mpr c6
    have c12 := bne_iff_ne.mpr c6
    obtain ⟨⟨t1, t2⟩, A1, H⟩ := bnd_ H
    dsimp only at H
    obtain rfl := Option.some.inj H
    go_enter Try.func31, Try.ntmps31
    go_wp2_with (first | (refine gcD_ 62 9 Try.func62 (impl_mayGrow.calls _ _ _ _ A0.out) ?_; intro nd) | (refine gcL_ 63 (some 21) Try.func63 #[.int .i64 a0, .int .i64 a1] ?_; (with_reducible refine (impl_growthNodes.calls _ _ _ _ _ _ A1.out).mono ?_); rintro e w8 ⟨v0, v1, rfl, ho0, ho1, hb⟩; refine ⟨_, rfl, ?_⟩; have HO0 := a_ (Kd.R_lower ho0 (below_size bel_)); have HO1 := a_ (Kd.R_lower ho1 (below_size bel_)); replace HB := s_ hb; clear hb; (try clear ho0); (try clear ho1); obtain ⟨Ao1, co1, eo1⟩ := Kd.R_slice HO0.out; subst eo1; obtain ⟨Ao0, co0, eo0⟩ := Kd.R_slice HO1.out; subst eo0))
    go_ret
    exact ⟨rfl_, bel_⟩
 ·replace c4 := Bool.eq_false_iff.mpr c4
  subst c4
  rw [if_neg (show ¬ (false = true) by decide)] at H
  obtain rfl := Option.some.inj H
  go_enter Try.func31, Try.ntmps31
  go_wp2_with (first | (refine gcD_ 62 9 Try.func62 (impl_mayGrow.calls _ _ _ _ A0.out) ?_; intro nd))
  go_ret
  exact ⟨rfl_, bel_⟩
end
section
def laws_szGrowthS.l0 : Nat → List (S42) → Int → Int → Option (Int)
 | 0, _, _, _ => none
 | k + 1, x1, x2, x0 => if x0 < (x1.length : Int) then (if 0 ≤ x0 then ((laws_szGrowth.f ((rd_T42 x1 x0).f0.f0) ((rd_T42 x1 x0).f0.f1.f0) ((rd_T42 x1 x0).f0.f1.f1) ((rd_T42 x1 x0).f0.f1.f2) ((rd_T42 x1 x0).f0.f1.f3) ((rd_T42 x1 x0).f1) x2).bind fun t0 => (if t0 < 0 then (some (-1)) else (laws_szGrowthS.l0 k x1 t0 (wrap64 (x0 + 1))))) else (none)) else (some x2)
def laws_szGrowthS.f (k : Nat) (l0 : List (S42)) (a0 : Int) : Option (Int) := if (wrap64 (a0 - (l0.length : Int))) < 0 then (some (-1)) else (laws_szGrowthS.l0 k l0 (wrap64 (a0 - (l0.length : Int))) 0)
theorem laws_szGrowthS.calls (k : Nat) (A0 : Option Addr) (c0 : Nat) (l0 : List (S42)) (a0 r : Int) (w : World) (hr0 : Kd.C k42 w A0 l0.length l0) (hc0 : l0.length ≤ c0) (h : laws_szGrowthS.f k l0 a0 = some r) :
  Calls Try.prog 10 #[.slice A0 l0.length c0, .int .i64 a0] w fun e w' => e = .returned (.int .i64 r) ∧ Below w.heap.size w w' := by
 have hu42 := Try.underlying42
 have HR0 := a_ hr0
 have HC0 := a_ hc0
 clear hr0 hc0
 have HB := rB_ w
 have H := h
 unfold laws_szGrowthS.f at H
 clear h
 by_cases c3 : (wrap64 (a0 - (l0.length : Int))) < 0
 ·rw [if_pos c3] at H
  have c1 := decide_eq_true c3
  clear c3
  obtain rfl := Option.some.inj H
  go_enter Try.func10, Try.ntmps10
  go_wp2
  go_ret
  exact ⟨rfl_, bel_⟩
 ·rw [if_neg c3] at H
  have c1 := decide_eq_false c3
  clear c3
  have H' := a_ H
  clear H
  go_enter Try.func10, Try.ntmps10
  go_wp2
  go_loopg [1, 5] k (fun kq v0 v1 w' => ∃ (x1 x0 : Int), v0 = .int .i64 x1 ∧ v1 = .int .i64 x0 ∧ Aside0 (laws_szGrowthS.l0 kq l0 x1 x0 = some r) ∧ Aside0 (kq ≤ k) ∧ Aside0 (Below w.heap.size w w'))
  case atStart => exact ⟨(wrap64 (a0 - (l0.length : Int))), (0), rl_, rl_, H', ⟨Nat.le_refl _⟩, ⟨bel_⟩⟩
  case round =>
   clear H'
   (try clear c3); (try clear c1)
   obtain ⟨x1, x0, rfl, rfl, HA, HK1, HB⟩ := hrel
   cases gk with
   | zero => exact absurd HA.out (by simp [laws_szGrowthS.l0])
   | succ k1 =>
    have H := HA.out
    clear HA
    simp only [laws_szGrowthS.l0] at H
    by_cases c4 : x0 < (l0.length : Int)
    ·rw [if_pos c4] at H
     have c12 := decide_eq_true c4
     clear c4
     obtain ⟨c14, H⟩ := ifd_ H
     obtain ⟨t0, A1, H⟩ := bnd_ H
     by_cases c7 : t0 < 0
     ·rw [if_pos c7] at H
      have c13 := decide_eq_true c7
      clear c7
      obtain rfl := Option.some.inj H
      have p0 : 0 ≤ (x0 : Int) := ofd_
      have q0 : x0 < (l0.length : Int) := ofd_
      obtain ⟨ad0, A2, c11, e0, hx0, hx1, hx2, hx3, hx4, hx5, hl0, hi0⟩ := at_T42 HR0.out x0 p0 q0
      cases e0
      replace hx0 := pc_ HB.out hx0
      replace hx1 := pc_ HB.out hx1
      replace hx2 := pc_ HB.out hx2
      replace hx3 := pc_ HB.out hx3
      replace hx4 := pc_ HB.out hx4
      replace hx5 := pc_ HB.out hx5
      have HR103_5 := a_ hi0
      have HC103_5 := a_ hl0
      clear hi0 hl0
      replace p0 := eq_true p0
      replace q0 := eq_true q0
      go_wp2_with (first | (refine gcB_ 17 23 Try.func17 (laws_szGrowth.calls _ _ _ _ _ _ _ _ _ _ _ ?side1 ?side2 A1.out) ?_; (case side1 => exact cU_ (Kd.C_below HR103_5.out HB.out)); (case side2 => exact HC103_5.out); intro w8 hb; replace HB := s_ hb; clear hb))
      go_ret
      exact ⟨rfl_, bel_⟩
     ·rw [if_neg c7] at H
      have c13 := decide_eq_false c7
      clear c7
      have H' := a_ H
      clear H
      have p0 : 0 ≤ (x0 : Int) := ofd_
      have q0 : x0 < (l0.length : Int) := ofd_
      obtain ⟨ad0, A2, c11, e0, hx0, hx1, hx2, hx3, hx4, hx5, hl0, hi0⟩ := at_T42 HR0.out x0 p0 q0
      cases e0
      replace hx0 := pc_ HB.out hx0
      replace hx1 := pc_ HB.out hx1
      replace hx2 := pc_ HB.out hx2
      replace hx3 := pc_ HB.out hx3
      replace hx4 := pc_ HB.out hx4
      replace hx5 := pc_ HB.out hx5
      have HR103_5 := a_ hi0
      have HC103_5 := a_ hl0
      clear hi0 hl0
      replace p0 := eq_true p0
      replace q0 := eq_true q0
      go_wp2_with (first | (refine gcB_ 17 23 Try.func17 (laws_szGrowth.calls _ _ _ _ _ _ _ _ _ _ _ ?side1 ?side2 A1.out) ?_; (case side1 => exact cU_ (Kd.C_below HR103_5.out HB.out)); (case side2 => exact HC103_5.out); intro w1 hb; replace HB := s_ hb; clear hb))
      go_roundg k1
      case measure => have := HK1.out; omega
      case rel => exact ⟨(t0), (wrap64 (x0 + 1)), rl_, rl_, H', ⟨by have := HK1.out; omega⟩, ⟨bel_⟩⟩
    ·rw [if_neg c4] at H
     have c12 := decide_eq_false c4
     clear c4
     obtain rfl := Option.some.inj H
     go_wp2
     go_ret
     exact ⟨rfl_, bel_⟩
end
section
def spec_l3Depth.l0 : Nat → Int → Int → Option (Int)
 | 0, _, _ => none
 | k + 1, x0, x1 => if x0 > 1 then (spec_l3Depth.l0 k (wrap64 (Int.tdiv x0 2)) (wrap64 (x1 + 1))) else (some x1)
def spec_l3Depth.f (k : Nat) (a0 : Int) : Option (Int) := spec_l3Depth.l0 k a0 0
theorem spec_l3Depth.calls (k : Nat) (a0 r : Int) (w : World) (h : spec_l3Depth.f k a0 = some r) :
  Calls Try.prog 84 #[.int .i64 a0] w fun e w' => e = .returned (.int .i64 r) ∧ Drawn0 w w' := by
 have H := h
 unfold spec_l3Depth.f at H
 clear h
 have H' := a_ H
 clear H
 go_enter Try.func84, Try.ntmps84
 go_wp2
 go_loopg [0, 3] k (fun kq v0 v1 w' => ∃ (x0 x1 : Int), v0 = .int .i64 x0 ∧ v1 = .int .i64 x1 ∧ Aside0 (spec_l3Depth.l0 kq x0 x1 = some r) ∧ Aside0 (kq ≤ k) ∧ Drawn0 w w')
 case atStart => exact ⟨(a0), (0), rl_, rl_, H', ⟨Nat.le_refl _⟩, by repeat (first | exact Drawn0.refl _ | apply Drawn0.step)⟩
 case round =>
  clear H'
  obtain ⟨x0, x1, rfl, rfl, HA, HK1, ⟨m1, rfl⟩⟩ := hrel
  cases gk with
  | zero => exact absurd HA.out (by simp [spec_l3Depth.l0])
  | succ k1 =>
   have H := HA.out
   clear HA
   simp only [spec_l3Depth.l0] at H
   by_cases c2 : x0 > 1
   ·rw [if_pos c2] at H
    have c0 : decide (1 < x0) = true := decide_eq_true c2
    clear c2
    have H' := a_ H
    clear H
    go_wp2
    go_roundg k1
    case measure => have := HK1.out; omega
    case rel => exact ⟨(wrap64 (Int.tdiv x0 2)), (wrap64 (x1 + 1)), rl_, rl_, H', ⟨by have := HK1.out; omega⟩, by repeat (first | exact Drawn0.refl _ | apply Drawn0.step)⟩
   ·rw [if_neg c2] at H
    have c0 : decide (1 < x0) = false := decide_eq_false c2
    clear c2
    obtain rfl := Option.some.inj H
    go_wp2
    go_ret
    exact ⟨rl_, dr_⟩
end
end
end Go.Proofs.Ytflckegggopdnaa.B
