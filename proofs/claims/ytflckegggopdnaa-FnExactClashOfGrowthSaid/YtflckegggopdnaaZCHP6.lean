/- Texts that this claim's law leans on, without what nothing names. What each says stands at its theorems; conditions stand in them. (Put together by the session's program shake.py; Lean checks it.) -/
import Derived.Test.YtflckegggopdnaaZCHP0
import Derived.Test.YtflckegggopdnaaZCHP5
import Derived.Test.YtflckegggopdnaaZCHP2
import Derived.Test.YtflckegggopdnaaZCHP4
import Derived.Test.YtflckegggopdnaaZCHGLawD1
namespace Go.Proofs.Ytflckegggopdnaa.B
section
open Go.RowKit Go.Proofs.YtflckegggopdnaaW.PrintWords Go.Proofs.YtflckegggopdnaaW.PrintLast Go.Proofs.YtflckegggopdnaaW.PrintMore
attribute [local go_sem] max2_int min2_int max_two min_two max_three min_three max_four min_four
set_option linter.unusedVariables false
set_option maxHeartbeats 8000000
set_option maxRecDepth 100000
set_option linter.unusedSimpArgs false
section
def spec_l3Sizes.f (a0 a1 : Int) : Option (Bool) := (spec_l1In.f a0 0 a1).bind fun t106 => (if t106 = true then (some (decide (a1 ≤ 256))) else (some false))
theorem spec_l3Sizes.calls (a0 a1 : Int) (r : Bool) (w : World) (h : spec_l3Sizes.f a0 a1 = some r) :
  Calls Try.prog 66 #[.int .i64 a0, .int .i64 a1] w fun e w' => e = .returned (.bool r) ∧ Drawn0 w w' := by
 have H := h
 unfold spec_l3Sizes.f at H
 clear h
 obtain ⟨t106, A3, H⟩ := bnd_ H
 by_cases c4 : t106 = true
 ·subst c4
  rw [if_pos rfl] at H
  obtain rfl := Option.some.inj H
  go_enter Try.func66, Try.ntmps66
  go_wp2_with (first | (refine gcL_ 94 (some 7) Try.func94 #[.int .i64 a0, .int .i64 0, .int .i64 a1] ?_; (with_reducible refine (spec_l1In.calls a0 0 a1 true _ A3.out).mono ?_); rintro e w' ⟨rfl, ⟨nd, rfl⟩⟩; refine ⟨_, rfl, ?_⟩))
  go_ret
  exact ⟨rl_, dr_⟩
 ·replace c4 := Bool.eq_false_iff.mpr c4
  subst c4
  rw [if_neg (show ¬ (false = true) by decide)] at H
  obtain rfl := Option.some.inj H
  go_enter Try.func66, Try.ntmps66
  go_wp2_with (first | (refine gcL_ 94 (some 7) Try.func94 #[.int .i64 a0, .int .i64 0, .int .i64 a1] ?_; (with_reducible refine (spec_l1In.calls a0 0 a1 false _ A3.out).mono ?_); rintro e w' ⟨rfl, ⟨nd, rfl⟩⟩; refine ⟨_, rfl, ?_⟩))
  go_ret
  exact ⟨rl_, dr_⟩
end
section
mutual
def spec_l3Rests.j0 : Nat → Int → Int → Int → Int → Bool → Option (Int)
 | 0, _, _, _, _, _ => none
 | k + 1, x0, x1, x2, x3, x17 => if x17 = true then (some 0) else (if x0 ≥ x2 then (some 1) else ((spec_TreeSplit.f k (wrap64 (x1 - x0))).bind fun t108 => ((spec_l3Rests.f k x0 (wrap64 (x0 + t108)) x2 x3).bind fun t109 => ((spec_l3Rests.f k (wrap64 (x0 + t108)) x1 x2 x3).bind fun t110 => (some (wrap64 (t109 + t110)))))))
def spec_l3Rests.f : Nat → Int → Int → Int → Int → Option (Int)
 | 0, _, _, _, _ => none
 | k + 1, a0, a1, a2, a3 => if a1 ≤ a2 then (spec_l3Rests.j0 k a0 a1 a2 a3 true) else (spec_l3Rests.j0 k a0 a1 a2 a3 (decide (a0 ≥ a3)))
end
theorem spec_l3Rests.calls (k : Nat) : ∀ (a0 a1 : Int) (a2 a3 r : Int) (w : World) (h : spec_l3Rests.f k a0 a1 a2 a3 = some r),
  Calls Try.prog 67 #[.int .i64 a0, .int .i64 a1, .int .i64 a2, .int .i64 a3] w fun e w' => e = .returned (.int .i64 r) ∧ Drawn0 w w' := by
 induction k using Nat.strongRecOn with
 | _ k ih =>
 intro a0 a1 a2 a3 r w h
 cases k with
 | zero => exact absurd h (by simp [spec_l3Rests.f])
 | succ k =>
 simp only [spec_l3Rests.f] at h
 have H : (if a1 ≤ a2 then (spec_l3Rests.j0 k a0 a1 a2 a3 true) else (spec_l3Rests.j0 k a0 a1 a2 a3 (decide (a0 ≥ a3)))) = some r := h
 clear h
 have HC5 := Aside0.mk H
 clear H
 go_enter Try.func67, Try.ntmps67
 go_upto_region 1 with (fail)
 go_cut [17] (fun v17 wc => ∃ (kq : Nat) (x17_4 : Bool), v17 = .bool x17_4 ∧ Aside0 (spec_l3Rests.j0 kq a0 a1 a2 a3 x17_4 = some r) ∧ Aside0 (kq ≤ k) ∧ Drawn0 w wc)
 case first =>
  have H := HC5.out
  clear HC5
  by_cases c6 : a1 ≤ a2
  ·rw [if_pos c6] at H
   have c6b0 := decide_eq_true c6
   clear c6
   (first | rw [c6b0] | (simp only [i64_w, i32_w]; rw [c6b0]) | skip)
   have H' := Aside0.mk H
   clear H
   go_wp2
   go_meet
   case rel => exact ⟨_, (true), rl_, H', ⟨by first | omega | exact Nat.le_refl _⟩, by repeat (first | exact Drawn0.refl _ | apply Drawn0.step)⟩
  ·rw [if_neg c6] at H
   have c6b0 := decide_eq_false c6
   clear c6
   (first | rw [c6b0] | (simp only [i64_w, i32_w]; rw [c6b0]) | skip)
   have H' := Aside0.mk H
   clear H
   go_wp2
   go_meet
   case rel => exact ⟨_, (decide (a0 ≥ a3)), rl_, H', ⟨by first | omega | exact Nat.le_refl _⟩, by repeat (first | exact Drawn0.refl _ | apply Drawn0.step)⟩
 case rest =>
  clear HC5
  (try clear c6); (try clear c6b0)
  obtain ⟨kq, x17_4, rfl, HA, HJ4, ⟨mc4, rfl⟩⟩ := hcut
  cases kq with
  | zero => exact absurd HA.out (by simp [spec_l3Rests.j0])
  | succ kj4 =>
   have H := HA.out
   clear HA
   simp only [spec_l3Rests.j0] at H
   by_cases c7 : x17_4 = true
   ·subst c7
    rw [if_pos rfl] at H
    obtain rfl := Option.some.inj H
    go_wp2
    go_ret
    exact ⟨rl_, dr_⟩
   ·replace c7 := Bool.eq_false_iff.mpr c7
    subst c7
    rw [if_neg (show ¬ (false = true) by decide)] at H
    by_cases c8 : a0 ≥ a2
    ·rw [if_pos c8] at H
     have c8b0 : decide (a2 ≤ a0) = true := decide_eq_true c8
     clear c8
     obtain rfl := Option.some.inj H
     go_wp2
     go_ret
     exact ⟨rl_, dr_⟩
    ·rw [if_neg c8] at H
     have c8b0 : decide (a2 ≤ a0) = false := decide_eq_false c8
     clear c8
     obtain ⟨t108, A9, H⟩ := bnd_ H
     obtain ⟨t109, A10, H⟩ := bnd_ H
     obtain ⟨t110, A11, H⟩ := bnd_ H
     obtain rfl := Option.some.inj H
     go_wp2_with (first | (refine gcL_ 88 (some 25) Try.func88 #[.int .i64 (wrap64 (a1 - a0))] ?_; (with_reducible refine (spec_TreeSplit.calls kj4 (wrap64 (a1 - a0)) t108 _ A9.out).mono ?_); rintro e w' ⟨rfl, ⟨nd, rfl⟩⟩; refine ⟨_, rfl, ?_⟩) | (refine gcL_ 67 (some 31) Try.func67 #[.int .i64 a0, .int .i64 (wrap64 (a0 + t108)), .int .i64 a2, .int .i64 a3] ?_; (with_reducible refine (ih kj4 (by have := HJ4.out; omega) a0 (wrap64 (a0 + t108)) a2 a3 t109 _ A10.out).mono ?_); rintro e w' ⟨rfl, ⟨nd, rfl⟩⟩; refine ⟨_, rfl, ?_⟩) | (refine gcL_ 67 (some 36) Try.func67 #[.int .i64 (wrap64 (a0 + t108)), .int .i64 a1, .int .i64 a2, .int .i64 a3] ?_; (with_reducible refine (ih kj4 (by have := HJ4.out; omega) (wrap64 (a0 + t108)) a1 a2 a3 t110 _ A11.out).mono ?_); rintro e w' ⟨rfl, ⟨nd, rfl⟩⟩; refine ⟨_, rfl, ?_⟩))
     go_ret
     exact ⟨rl_, dr_⟩
end
section
def spec_GrowthLen.j0 : Nat → Int → Int → Bool → Option (Int)
 | 0, _, _, _ => none
 | k + 1, x0, x1, x15 => if x15 = true then (some 0) else ((spec_PeaksCount.f k x0).bind fun t112 => ((spec_l3Rests.f k 0 x1 x0 x1).bind fun t113 => (some (wrap64 (t112 + t113)))))
def spec_GrowthLen.f (k : Nat) (a0 a1 : Int) : Option (Int) := (spec_l3Sizes.f a0 a1).bind fun t111 => (if t111 = true then (if a0 = 0 then (spec_GrowthLen.j0 k a0 a1 true) else (spec_GrowthLen.j0 k a0 a1 (a0 == a1))) else (some (-1)))
theorem spec_GrowthLen.calls (k : Nat) (a0 a1 r : Int) (w : World) (h : spec_GrowthLen.f k a0 a1 = some r) :
  Calls Try.prog 32 #[.int .i64 a0, .int .i64 a1] w fun e w' => e = .returned (.int .i64 r) ∧ Drawn0 w w' := by
 have H := h
 unfold spec_GrowthLen.f at H
 clear h
 obtain ⟨t111, A3, H⟩ := bnd_ H
 by_cases c4 : t111 = true
 ·subst c4
  rw [if_pos rfl] at H
  have HC5 := Aside0.mk H
  clear H
  go_enter Try.func32, Try.ntmps32
  go_upto_region 3 with (first | (refine gcL_ 66 (some 7) Try.func66 #[.int .i64 a0, .int .i64 a1] ?_; (with_reducible refine (spec_l3Sizes.calls a0 a1 true _ A3.out).mono ?_); rintro e w' ⟨rfl, ⟨nd, rfl⟩⟩; refine ⟨_, rfl, ?_⟩))
  (try simp only [Act.put, List.setIfInBounds_toArray, List.set_cons_zero, List.set_cons_succ])
  go_cut [15] (fun v15 wc => ∃ (kq : Nat) (x15_4 : Bool), v15 = .bool x15_4 ∧ Aside0 (spec_GrowthLen.j0 kq a0 a1 x15_4 = some r) ∧ Aside0 (kq ≤ k) ∧ Drawn0 w wc)
  case first =>
   have H := HC5.out
   clear HC5
   by_cases c6 : a0 = 0
   ·rw [if_pos c6] at H
    have c6b0 := beq_iff_eq.mpr c6
    have c6b1 := bne_eq_false_iff_eq.mpr c6
    clear c6
    (first | rw [c6b0] | (simp only [i64_w, i32_w]; rw [c6b0]) | skip)
    have H' := Aside0.mk H
    clear H
    go_wp2
    go_meet
    case rel => exact ⟨_, (true), rl_, H', ⟨by first | omega | exact Nat.le_refl _⟩, by repeat (first | exact Drawn0.refl _ | apply Drawn0.step)⟩
   ·rw [if_neg c6] at H
    have c6b0 := beq_eq_false_iff_ne.mpr c6
    have c6b1 := bne_iff_ne.mpr c6
    (first | rw [c6b0] | (simp only [i64_w, i32_w]; rw [c6b0]) | skip)
    have H' := Aside0.mk H
    clear H
    go_wp2
    go_meet
    case rel => exact ⟨_, ((a0 == a1)), rl_, H', ⟨by first | omega | exact Nat.le_refl _⟩, by repeat (first | exact Drawn0.refl _ | apply Drawn0.step)⟩
  case rest =>
   clear HC5
   (try clear c4); (try clear c6); (try clear c6b0); (try clear c6b1)
   obtain ⟨kq, x15_4, rfl, HA, HJ4, ⟨mc4, rfl⟩⟩ := hcut
   cases kq with
   | zero => exact absurd HA.out (by simp [spec_GrowthLen.j0])
   | succ kj4 =>
    have H := HA.out
    clear HA
    simp only [spec_GrowthLen.j0] at H
    by_cases c7 : x15_4 = true
    ·subst c7
     rw [if_pos rfl] at H
     obtain rfl := Option.some.inj H
     go_wp2
     go_ret
     exact ⟨rl_, dr_⟩
    ·replace c7 := Bool.eq_false_iff.mpr c7
     subst c7
     rw [if_neg (show ¬ (false = true) by decide)] at H
     obtain ⟨t112, A8, H⟩ := bnd_ H
     obtain ⟨t113, A9, H⟩ := bnd_ H
     obtain rfl := Option.some.inj H
     go_wp2_with (first | (refine gcL_ 50 (some 17) Try.func50 #[.int .i64 a0] ?_; (with_reducible refine (spec_PeaksCount.calls kj4 a0 t112 _ A8.out).mono ?_); rintro e w' ⟨rfl, ⟨nd, rfl⟩⟩; refine ⟨_, rfl, ?_⟩) | (refine gcL_ 67 (some 21) Try.func67 #[.int .i64 0, .int .i64 a1, .int .i64 a0, .int .i64 a1] ?_; (with_reducible refine (spec_l3Rests.calls kj4 0 a1 a0 a1 t113 _ A9.out).mono ?_); rintro e w' ⟨rfl, ⟨nd, rfl⟩⟩; refine ⟨_, rfl, ?_⟩))
     go_ret
     exact ⟨rl_, dr_⟩
 ·replace c4 := Bool.eq_false_iff.mpr c4
  subst c4
  rw [if_neg (show ¬ (false = true) by decide)] at H
  obtain rfl := Option.some.inj H
  go_enter Try.func32, Try.ntmps32
  go_wp2_with (first | (refine gcL_ 66 (some 7) Try.func66 #[.int .i64 a0, .int .i64 a1] ?_; (with_reducible refine (spec_l3Sizes.calls a0 a1 false _ A3.out).mono ?_); rintro e w' ⟨rfl, ⟨nd, rfl⟩⟩; refine ⟨_, rfl, ?_⟩))
  go_ret
  exact ⟨rl_, dr_⟩
end
section
def impl_mayGrow.f (a0 a1 : Int) : Option (Bool) := (impl_in.f a1 0 256).bind fun t276 => (if t276 = true then ((impl_in.f a0 0 a1).bind fun t277 => (some t277)) else (some false))
theorem impl_mayGrow.calls (a0 a1 : Int) (r : Bool) (w : World) (h : impl_mayGrow.f a0 a1 = some r) :
  Calls Try.prog 62 #[.int .i64 a0, .int .i64 a1] w fun e w' => e = .returned (.bool r) ∧ Drawn0 w w' := by
 have H := h
 unfold impl_mayGrow.f at H
 clear h
 obtain ⟨t276, A3, H⟩ := bnd_ H
 by_cases c4 : t276 = true
 ·subst c4
  rw [if_pos rfl] at H
  obtain ⟨t277, A5, H⟩ := bnd_ H
  obtain rfl := Option.some.inj H
  go_enter Try.func62, Try.ntmps62
  go_wp2_with (first | (refine gcL_ 75 (some 6) Try.func75 #[.int .i64 a1, .int .i64 0, .int .i64 256] ?_; (with_reducible refine (impl_in.calls a1 0 256 true _ A3.out).mono ?_); rintro e w' ⟨rfl, ⟨nd, rfl⟩⟩; refine ⟨_, rfl, ?_⟩) | (go_at_call 75; (with_reducible refine (impl_in.calls a0 0 a1 t277 _ A5.out).mono ?_); rintro e w' ⟨rfl, ⟨nd, rfl⟩⟩))
  go_ret
  exact ⟨rl_, dr_⟩
 ·replace c4 := Bool.eq_false_iff.mpr c4
  subst c4
  rw [if_neg (show ¬ (false = true) by decide)] at H
  obtain rfl := Option.some.inj H
  go_enter Try.func62, Try.ntmps62
  go_wp2_with (first | (refine gcL_ 75 (some 6) Try.func75 #[.int .i64 a1, .int .i64 0, .int .i64 256] ?_; (with_reducible refine (impl_in.calls a1 0 256 false _ A3.out).mono ?_); rintro e w' ⟨rfl, ⟨nd, rfl⟩⟩; refine ⟨_, rfl, ?_⟩))
  go_ret
  exact ⟨rl_, dr_⟩
end
section
def impl_fall.f : Nat → Int → Int → Int → List (S100) → List (S100) → Option ((List (S100)) × (List (S100)))
 | 0, _, _, _, _, _ => none
 | k + 1, a0_0, a0_1, a1, l2, l3 => if a0_1 ≤ a1 then (if l2.length < 8796093022208 then (some ((l2 ++ [(⟨a0_0, a0_1⟩ : S100)]), l3)) else (none)) else (if a0_0 ≥ a1 then (if l3.length < 8796093022208 then (some (l2, (l3 ++ [(⟨a0_0, a0_1⟩ : S100)]))) else (none)) else ((impl_node_halves.f k a0_0 a0_1).bind fun bt290 => ((impl_fall.f k bt290.1 bt290.2.1 a1 l2 l3).bind fun bt296 => ((impl_fall.f k bt290.2.2.1 bt290.2.2.2 a1 bt296.1 bt296.2).bind fun bt302 => (some (bt302.1, bt302.2))))))
theorem impl_fall.calls (k : Nat) : ∀ (a0_0 a0_1 a1 : Int) (P2_ : Nat → Prop) (u9000_ : Value) (l2 : List (S100)) (P3_ : Nat → Prop) (u9001_ : Value) (l3 r1 r2 : List (S100)) (w0 w : World) (hB : Below w0.heap.size w0 w) (ho2 : Kd.R k100 100 w w0.heap.size P2_ u9000_ l2) (hp2_3 : ∀ k_, P2_ k_ → ¬ P3_ k_) (ho3 : Kd.R k100 100 w w0.heap.size P3_ u9001_ l3) (hp3_2 : ∀ k_, P3_ k_ → ¬ P2_ k_) (h : impl_fall.f k a0_0 a0_1 a1 l2 l3 = some (r1, r2)),
  Calls Try.prog 107 #[.agg #[.int .i64 a0_0, .int .i64 a0_1], .int .i64 a1, u9000_, u9001_] w fun e w' => ∃ v0_ v1_ : Value, e = .returned (.tuple #[v0_, v1_]) ∧ Kd.R k100 100 w' w0.heap.size (fun k_ => ((P2_ k_ ∨ P3_ k_) ∨ w.heap.size ≤ k_) ∧ some k_ ≠ (v1_ : Value).ownBlock) v0_ r1 ∧ Kd.R k100 100 w' w0.heap.size (fun k_ => ((P2_ k_ ∨ P3_ k_) ∨ w.heap.size ≤ k_) ∧ some k_ ≠ (v0_ : Value).ownBlock) v1_ r2 ∧ Below w0.heap.size w0 w' ∧ Kept w w' (fun k_ => P2_ k_ ∨ P3_ k_) := by
 induction k using Nat.strongRecOn with
 | _ k ih =>
 intro a0_0 a0_1 a1 P2_ u9000_ l2 P3_ u9001_ l3 r1 r2 w0 w hB ho2 hp2_3 ho3 hp3_2 h
 cases k with
 | zero => exact absurd h (by simp [impl_fall.f])
 | succ k =>
 simp only [impl_fall.f] at h
 have hu100 := Try.underlying100
 have HO2 := a_ (show Kd.R k100 100 w w0.heap.size (fun k_ => ((P2_ k_ ∨ P3_ k_) ∨ w.heap.size ≤ k_) ∧ some k_ ≠ (u9001_ : Value).ownBlock) u9000_ l2 from Kd.R_mono ho2 (fun k_ hk => ⟨(.inl (.inl hk)), fun e_ => hp2_3 k_ hk (ho3.1 k_ e_.symm)⟩))
 have HO3 := a_ (show Kd.R k100 100 w w0.heap.size (fun k_ => ((P2_ k_ ∨ P3_ k_) ∨ w.heap.size ≤ k_) ∧ some k_ ≠ (u9000_ : Value).ownBlock) u9001_ l3 from Kd.R_mono ho3 (fun k_ hk => ⟨(.inl (.inr hk)), fun e_ => hp3_2 k_ hk (ho2.1 k_ e_.symm)⟩))
 have HK := a_ (Kept.refl w (fun k_ => P2_ k_ ∨ P3_ k_))
 have HW0 := Aside0.mk hB.size
 have HB := Aside0.mk hB
 clear hB
 have H : (if a0_1 ≤ a1 then (if l2.length < 8796093022208 then (some ((l2 ++ [(⟨a0_0, a0_1⟩ : S100)]), l3)) else (none)) else (if a0_0 ≥ a1 then (if l3.length < 8796093022208 then (some (l2, (l3 ++ [(⟨a0_0, a0_1⟩ : S100)]))) else (none)) else ((impl_node_halves.f k a0_0 a0_1).bind fun bt290 => ((impl_fall.f k bt290.1 bt290.2.1 a1 l2 l3).bind fun bt296 => ((impl_fall.f k bt290.2.2.1 bt290.2.2.2 a1 bt296.1 bt296.2).bind fun bt302 => (some (bt302.1, bt302.2))))))) = some (r1, r2) := h
 clear h
 by_cases c5 : a0_1 ≤ a1
 ·rw [if_pos c5] at H
  have c5b0 := decide_eq_true c5
  clear c5
  by_cases c6 : l2.length < 8796093022208
  ·rw [if_pos c6] at H
   have LMc6 := Aside0.mk c6
   clear c6
   obtain ⟨y284, hy284⟩ : ∃ y_ : List (S100), y_ = (l2 ++ [(⟨a0_0, a0_1⟩ : S100)]) := ⟨_, rfl⟩
   replace H : (some (y284, l3)) = some (r1, r2) := rpl_ hy284 H
   have Ny284 := Aside0.mk hy284
   clear hy284
   simp only [Option.some.injEq, Prod.mk.injEq] at H
   obtain ⟨rfl, rfl⟩ := H
   go_enter Try.func107, Try.ntmps107
   go_wp2_with (first | ((with_reducible refine gate_dst (N := 4) rfl ?_); refine boxE_ (cs := #[.int .i64 a0_0, .int .i64 a0_1]) (t := 100) ?_; intro gb283 hg w7 hbox hb; replace HO2 := a_ (Kd.R_below (Kd.R_elderB (kdU_ HO2.out) gb283 (Nat.le_of_eq hg.symm)) hb); replace HO3 := a_ (Kd.R_below (Kd.R_elderB (kdU_ HO3.out) gb283 (Nat.le_of_eq hg.symm)) hb); have BK283 := a_ (hbox); have GW283 := a_ ((by rw [hg]; exact (by first | exact HK.out.1 | exact (show Kept w _ (fun k_ => P2_ k_ ∨ P3_ k_) from by repeat (first | (with_reducible first | exact HK.out | apply Kept.alloc | apply Kept.drewN | apply Kept.drew) | exact HK.out)).1) : w.heap.size ≤ gb283)); replace HK := a_ (Kept.below (S := (fun k_ => P2_ k_ ∨ P3_ k_)) (by repeat (first | (with_reducible first | exact HK.out | apply Kept.alloc | apply Kept.drewN | apply Kept.drew) | exact HK.out)) hb); have GE283 := sizeB_ hg; replace HB := stepB_ hb; clear hb hbox hg; obtain ⟨z8_0, z8_1, f8_0, f8_1⟩ := cz2_ BK283.out) | ((with_reducible refine gate_builtin (b := .append) (xs := #[.tmp 17, .tmp 19]) rfl ?_); at_builtin; refine Kd.R_append k100 (w0 := w0) w0.heap.size rfl (.tmp 17) (.tmp 19) 96 100 (.agg #[(.int .i64 0), (.int .i64 0)]) 16 rfl Try.underlying96 info100 rfl (by decide) (by omega) u9000_ l2 (⟨a0_0, a0_1⟩ : S100) [.int .i64 a0_0, .int .i64 a0_1] (fun k_ => ((P2_ k_ ∨ P3_ k_) ∨ w.heap.size ≤ k_) ∧ some k_ ≠ (u9001_ : Value).ownBlock ∧ k_ ≠ gb283) (fun _ => False) rfl rfl ?aP (fun _ hk => hk.elim) ?aF ?aO ?aB ?aS ?aL ?_; (case aP => exact k100_mkM _ _ _ (⟨a0_0, a0_1⟩ : S100)); (case aB => exact bel_); (case aF => exact (fun k_ hk => ⟨(.inr (Nat.le_trans (by first | exact HK.out.1 | exact (show Kept w _ (fun k_ => P2_ k_ ∨ P3_ k_) from by repeat (first | (with_reducible first | exact HK.out | apply Kept.alloc | apply Kept.drewN | apply Kept.drew | refine Kept.setCell ?_ (.inr GW283.out) _) | exact HK.out)).1) hk)), Kd.fresh' (Kd.R_lt (kdU_ HO3.out)) k_ hk, Kd.freshB (g := gb283) (o := .cells #[.int .i64 a0_0, .int .i64 a0_1] 100 (0, 0)) (blkU_ BK283.out) k_ hk⟩)); (case aO => exact (by (with_reducible repeat (first | apply Kd.R_alloc | apply Kd.R_drewN | apply Kd.R_drew)); exact Kd.R_mono HO2.out (fun _ hk => ⟨hk.1.1, ⟨hk.1.2, hk.2⟩⟩))); (case aS => exact (below_size bel_)); (case aL => have := LMc6.out; omega); intro v285 w9 ho hb hg hat; rw [← Ny284.out] at ho; replace HO3 := a_ (Kd.R_after (ok := (fun k_ => ((P2_ k_ ∨ P3_ k_) ∨ w.heap.size ≤ k_) ∧ k_ ≠ gb283)) (by (with_reducible repeat (first | apply Kd.R_alloc | apply Kd.R_drewN | apply Kd.R_drew)); exact Kd.R_mono HO3.out (fun _ hk => ⟨⟨hk.1.1, hk.2⟩, hk.1.2⟩)) hg hat); replace BK283 := a_ (blk_grown (g := gb283) (o := .cells #[.int .i64 a0_0, .int .i64 a0_1] 100 (0, 0)) (blkU_ BK283.out) hg (Kd.R_away HO2.out (fun _ hk => hk.2))); replace HB := a_ (hb); replace HK := a_ (Kept.of_grown (S := (fun k_ => P2_ k_ ∨ P3_ k_)) hg (by repeat (first | (with_reducible first | exact HK.out | apply Kept.alloc | apply Kept.drewN | apply Kept.drew | refine Kept.setCell ?_ (.inr GW283.out) _) | exact HK.out)) (fun k_ e_ => (HO2.out.1 k_ e_).1.1)); have HO286 := a_ (ho); clear HO2; clear ho hb hg hat))
   go_ret2
   exact ⟨_, _, rfl_, by (with_reducible repeat (first | apply Kd.R_alloc | apply Kd.R_drewN | apply Kd.R_drew)); exact Kd.R_mono HO286.out (fun _ hk => ⟨hk.1, hk.2.1⟩), by (with_reducible repeat (first | apply Kd.R_alloc | apply Kd.R_drewN | apply Kd.R_drew)); exact Kd.R_mono HO3.out (fun _ hk => ⟨hk.1.1, hk.2⟩), bel_, by repeat (first | (with_reducible first | exact HK.out | apply Kept.alloc | apply Kept.drewN | apply Kept.drew | refine Kept.setCell ?_ (.inr GW283.out) _) | exact HK.out)⟩
  ·rw [if_neg c6] at H
   exact absurd H (by simp)
 ·rw [if_neg c5] at H
  have c5b0 := decide_eq_false c5
  clear c5
  by_cases c10 : a0_0 ≥ a1
  ·rw [if_pos c10] at H
   have c10b0 : decide (a1 ≤ a0_0) = true := decide_eq_true c10
   clear c10
   by_cases c11 : l3.length < 8796093022208
   ·rw [if_pos c11] at H
    have LMc11 := Aside0.mk c11
    clear c11
    obtain ⟨y287, hy287⟩ : ∃ y_ : List (S100), y_ = (l3 ++ [(⟨a0_0, a0_1⟩ : S100)]) := ⟨_, rfl⟩
    replace H : (some (l2, y287)) = some (r1, r2) := rpl_ hy287 H
    have Ny287 := Aside0.mk hy287
    clear hy287
    simp only [Option.some.injEq, Prod.mk.injEq] at H
    obtain ⟨rfl, rfl⟩ := H
    go_enter Try.func107, Try.ntmps107
    go_wp2_with (first | ((with_reducible refine gate_dst (N := 4) rfl ?_); refine boxE_ (cs := #[.int .i64 a0_0, .int .i64 a0_1]) (t := 100) ?_; intro gb283 hg w12 hbox hb; replace HO2 := a_ (Kd.R_below (Kd.R_elderB (kdU_ HO2.out) gb283 (Nat.le_of_eq hg.symm)) hb); replace HO3 := a_ (Kd.R_below (Kd.R_elderB (kdU_ HO3.out) gb283 (Nat.le_of_eq hg.symm)) hb); have BK283 := a_ (hbox); have GW283 := a_ ((by rw [hg]; exact (by first | exact HK.out.1 | exact (show Kept w _ (fun k_ => P2_ k_ ∨ P3_ k_) from by repeat (first | (with_reducible first | exact HK.out | apply Kept.alloc | apply Kept.drewN | apply Kept.drew) | exact HK.out)).1) : w.heap.size ≤ gb283)); replace HK := a_ (Kept.below (S := (fun k_ => P2_ k_ ∨ P3_ k_)) (by repeat (first | (with_reducible first | exact HK.out | apply Kept.alloc | apply Kept.drewN | apply Kept.drew) | exact HK.out)) hb); have GE283 := sizeB_ hg; replace HB := stepB_ hb; clear hb hbox hg; obtain ⟨z13_0, z13_1, f13_0, f13_1⟩ := cz2_ BK283.out) | ((with_reducible refine gate_builtin (b := .append) (xs := #[.tmp 28, .tmp 30]) rfl ?_); at_builtin; refine Kd.R_append k100 (w0 := w0) w0.heap.size rfl (.tmp 28) (.tmp 30) 96 100 (.agg #[(.int .i64 0), (.int .i64 0)]) 16 rfl Try.underlying96 info100 rfl (by decide) (by omega) u9001_ l3 (⟨a0_0, a0_1⟩ : S100) [.int .i64 a0_0, .int .i64 a0_1] (fun k_ => ((P2_ k_ ∨ P3_ k_) ∨ w.heap.size ≤ k_) ∧ some k_ ≠ (u9000_ : Value).ownBlock ∧ k_ ≠ gb283) (fun _ => False) rfl rfl ?aP (fun _ hk => hk.elim) ?aF ?aO ?aB ?aS ?aL ?_; (case aP => exact k100_mkM _ _ _ (⟨a0_0, a0_1⟩ : S100)); (case aB => exact bel_); (case aF => exact (fun k_ hk => ⟨(.inr (Nat.le_trans (by first | exact HK.out.1 | exact (show Kept w _ (fun k_ => P2_ k_ ∨ P3_ k_) from by repeat (first | (with_reducible first | exact HK.out | apply Kept.alloc | apply Kept.drewN | apply Kept.drew | refine Kept.setCell ?_ (.inr GW283.out) _) | exact HK.out)).1) hk)), Kd.fresh' (Kd.R_lt (kdU_ HO2.out)) k_ hk, Kd.freshB (g := gb283) (o := .cells #[.int .i64 a0_0, .int .i64 a0_1] 100 (0, 0)) (blkU_ BK283.out) k_ hk⟩)); (case aO => exact (by (with_reducible repeat (first | apply Kd.R_alloc | apply Kd.R_drewN | apply Kd.R_drew)); exact Kd.R_mono HO3.out (fun _ hk => ⟨hk.1.1, ⟨hk.1.2, hk.2⟩⟩))); (case aS => exact (below_size bel_)); (case aL => have := LMc11.out; omega); intro v288 w14 ho hb hg hat; rw [← Ny287.out] at ho; replace HO2 := a_ (Kd.R_after (ok := (fun k_ => ((P2_ k_ ∨ P3_ k_) ∨ w.heap.size ≤ k_) ∧ k_ ≠ gb283)) (by (with_reducible repeat (first | apply Kd.R_alloc | apply Kd.R_drewN | apply Kd.R_drew)); exact Kd.R_mono HO2.out (fun _ hk => ⟨⟨hk.1.1, hk.2⟩, hk.1.2⟩)) hg hat); replace BK283 := a_ (blk_grown (g := gb283) (o := .cells #[.int .i64 a0_0, .int .i64 a0_1] 100 (0, 0)) (blkU_ BK283.out) hg (Kd.R_away HO3.out (fun _ hk => hk.2))); replace HB := a_ (hb); replace HK := a_ (Kept.of_grown (S := (fun k_ => P2_ k_ ∨ P3_ k_)) hg (by repeat (first | (with_reducible first | exact HK.out | apply Kept.alloc | apply Kept.drewN | apply Kept.drew | refine Kept.setCell ?_ (.inr GW283.out) _) | exact HK.out)) (fun k_ e_ => (HO3.out.1 k_ e_).1.1)); have HO289 := a_ (ho); clear HO3; clear ho hb hg hat))
    go_ret2
    exact ⟨_, _, rfl_, by (with_reducible repeat (first | apply Kd.R_alloc | apply Kd.R_drewN | apply Kd.R_drew)); exact Kd.R_mono HO2.out (fun _ hk => ⟨hk.1.1, hk.2⟩), by (with_reducible repeat (first | apply Kd.R_alloc | apply Kd.R_drewN | apply Kd.R_drew)); exact Kd.R_mono HO289.out (fun _ hk => ⟨hk.1, hk.2.1⟩), bel_, by repeat (first | (with_reducible first | exact HK.out | apply Kept.alloc | apply Kept.drewN | apply Kept.drew | refine Kept.setCell ?_ (.inr GW283.out) _) | exact HK.out)⟩
   ·rw [if_neg c11] at H
    exact absurd H (by simp)
  ·rw [if_neg c10] at H
   have c10b0 : decide (a1 ≤ a0_0) = false := decide_eq_false c10
   clear c10
   obtain ⟨⟨t290, t291, t292, t293⟩, A15, H⟩ := bnd_ H
   dsimp only at H
   obtain ⟨⟨t296, t299⟩, A16, H⟩ := bnd_ H
   dsimp only at H
   obtain ⟨⟨t302, t305⟩, A17, H⟩ := bnd_ H
   dsimp only at H
   simp only [Option.some.injEq, Prod.mk.injEq] at H
   obtain ⟨rfl, rfl⟩ := H
   go_enter Try.func107, Try.ntmps107
   go_wp2_with (first | ((with_reducible refine gate_dst (N := 4) rfl ?_); refine boxE_ (cs := #[.int .i64 a0_0, .int .i64 a0_1]) (t := 100) ?_; intro gb283 hg w18 hbox hb; replace HO2 := a_ (Kd.R_below (Kd.R_elderB (kdU_ HO2.out) gb283 (Nat.le_of_eq hg.symm)) hb); replace HO3 := a_ (Kd.R_below (Kd.R_elderB (kdU_ HO3.out) gb283 (Nat.le_of_eq hg.symm)) hb); have BK283 := a_ (hbox); have GW283 := a_ ((by rw [hg]; exact (by first | exact HK.out.1 | exact (show Kept w _ (fun k_ => P2_ k_ ∨ P3_ k_) from by repeat (first | (with_reducible first | exact HK.out | apply Kept.alloc | apply Kept.drewN | apply Kept.drew) | exact HK.out)).1) : w.heap.size ≤ gb283)); replace HK := a_ (Kept.below (S := (fun k_ => P2_ k_ ∨ P3_ k_)) (by repeat (first | (with_reducible first | exact HK.out | apply Kept.alloc | apply Kept.drewN | apply Kept.drew) | exact HK.out)) hb); have GE283 := sizeB_ hg; replace HB := stepB_ hb; clear hb hbox hg; obtain ⟨z19_0, z19_1, f19_0, f19_1⟩ := cz2_ BK283.out) | (refine gcL_ 77 (some 34) Try.func77 #[.agg #[.int .i64 a0_0, .int .i64 a0_1]] ?_; (with_reducible refine (impl_node_halves.calls k a0_0 a0_1 t290 t291 t292 t293 _ A15.out).mono ?_); rintro e w20 ⟨rfl, hb⟩; refine ⟨_, rfl, ?_⟩; replace HO2 := rb_ HO2.out hb; replace HO3 := rb_ HO3.out hb; replace BK283 := bb_ BK283.out hb; replace HK := a_ (Kept.below (S := (fun k_ => P2_ k_ ∨ P3_ k_)) (by repeat (first | (with_reducible first | exact HK.out | apply Kept.alloc | apply Kept.drewN | apply Kept.drew | refine Kept.setCell ?_ (.inr GW283.out) _) | exact HK.out)) hb); replace HB := stepB_ hb; (try clear hb); (try clear hk)) | ((with_reducible refine gate_dst (N := 10) rfl ?_); refine boxE_ (cs := #[.int .i64 0, .int .i64 0]) (t := 100) ?_; intro gb294 hg w21 hbox hb; replace HO2 := a_ (Kd.R_below (Kd.R_elderB (kdU_ HO2.out) gb294 (Nat.le_of_eq hg.symm)) hb); replace HO3 := a_ (Kd.R_below (Kd.R_elderB (kdU_ HO3.out) gb294 (Nat.le_of_eq hg.symm)) hb); have BK294 := a_ (hbox); have GW294 := a_ ((by rw [hg]; exact (by first | exact HK.out.1 | exact (show Kept w _ (fun k_ => P2_ k_ ∨ P3_ k_) from by repeat (first | (with_reducible first | exact HK.out | apply Kept.alloc | apply Kept.drewN | apply Kept.drew | refine Kept.setCell ?_ (.inr GW283.out) _) | exact HK.out)).1) : w.heap.size ≤ gb294)); replace HK := a_ (Kept.below (S := (fun k_ => P2_ k_ ∨ P3_ k_)) (by repeat (first | (with_reducible first | exact HK.out | apply Kept.alloc | apply Kept.drewN | apply Kept.drew | refine Kept.setCell ?_ (.inr GW283.out) _) | exact HK.out)) hb); have GE294 := sizeB_ hg; replace HB := stepB_ hb; obtain ⟨NB283_294, NB294_283⟩ := ne2_ BK283.out hg; replace BK283 := bb_ BK283.out hb; clear hb hbox hg) | ((with_reducible refine gate_dst (N := 11) rfl ?_); refine boxE_ (cs := #[.int .i64 0, .int .i64 0]) (t := 100) ?_; intro gb295 hg w22 hbox hb; replace HO2 := a_ (Kd.R_below (Kd.R_elderB (kdU_ HO2.out) gb295 (Nat.le_of_eq hg.symm)) hb); replace HO3 := a_ (Kd.R_below (Kd.R_elderB (kdU_ HO3.out) gb295 (Nat.le_of_eq hg.symm)) hb); have BK295 := a_ (hbox); have GW295 := a_ ((by rw [hg]; exact (by first | exact HK.out.1 | exact (show Kept w _ (fun k_ => P2_ k_ ∨ P3_ k_) from by repeat (first | (with_reducible first | exact HK.out | apply Kept.alloc | apply Kept.drewN | apply Kept.drew | refine Kept.setCell ?_ (.inr GW283.out) _ | refine Kept.setCell ?_ (.inr GW294.out) _) | exact HK.out)).1) : w.heap.size ≤ gb295)); replace HK := a_ (Kept.below (S := (fun k_ => P2_ k_ ∨ P3_ k_)) (by repeat (first | (with_reducible first | exact HK.out | apply Kept.alloc | apply Kept.drewN | apply Kept.drew | refine Kept.setCell ?_ (.inr GW283.out) _ | refine Kept.setCell ?_ (.inr GW294.out) _) | exact HK.out)) hb); have GE295 := sizeB_ hg; replace HB := stepB_ hb; obtain ⟨NB283_295, NB295_283⟩ := ne2_ BK283.out hg; replace BK283 := bb_ BK283.out hb; obtain ⟨NB294_295, NB295_294⟩ := ne2_ BK294.out hg; replace BK294 := bb_ BK294.out hb; clear hb hbox hg; have hnb23 := NB294_283.out; have hnc23 := NB283_294.out; have hnb24 := NB294_295.out; have hnc24 := NB295_294.out; obtain ⟨z25_0, z25_1, f25_0, f25_1⟩ := cz2_ BK294.out) | ((with_reducible refine gate_store (t := 100) (p := 10) rfl ?_); refine store_event (t := 100) (p := 10) (v := ?vo_w26) (w1 := ((w22.setCell ⟨gb294, 0, none⟩ (.int .i64 t290)).setCell ⟨gb294, 1, none⟩ (.int .i64 t291))) ?hg ?ho ?hn ?hr ?_; (case ho => rfl); (case hg => rfl); (case hn => rfl); (case hr => first | (go_simp; done) | (go_simp; rfl)); intro w26 hw; have n0_ : Aside0 (Kd.R k100 100 w26 w0.heap.size (fun k_ => ((P2_ k_ ∨ P3_ k_) ∨ w.heap.size ≤ k_) ∧ some k_ ≠ (u9001_ : Value).ownBlock ∧ k_ ≠ gb283 ∧ k_ ≠ gb294 ∧ k_ ≠ gb295) u9000_ l2) := ⟨(by rw [hw]; exact (by (with_reducible repeat (first | apply Kd.R_alloc | apply Kd.R_drewN | apply Kd.R_drew)); exact Kd.R_mono (Kd.R_far (p := ⟨gb294, 1, none⟩) (Kd.R_far (p := ⟨gb294, 0, none⟩) (Kd.R_mono HO2.out (fun k_ hk => (⟨hk, hk.1.2⟩ : _ ∧ k_ ≠ gb294))) (fun _ hk => hk.2) (.int .i64 t290)) (fun _ hk => hk.2) (.int .i64 t291)) (fun _ hk => ⟨hk.1.1.1.1.1, ⟨hk.1.1.1.1.2, ⟨hk.1.1.1.2, ⟨hk.1.1.2, hk.1.2⟩⟩⟩⟩)))⟩; have n1_ : Aside0 (Kd.R k100 100 w26 w0.heap.size (fun k_ => ((P2_ k_ ∨ P3_ k_) ∨ w.heap.size ≤ k_) ∧ some k_ ≠ (u9000_ : Value).ownBlock ∧ k_ ≠ gb283 ∧ k_ ≠ gb294 ∧ k_ ≠ gb295) u9001_ l3) := ⟨(by rw [hw]; exact (by (with_reducible repeat (first | apply Kd.R_alloc | apply Kd.R_drewN | apply Kd.R_drew)); exact Kd.R_mono (Kd.R_far (p := ⟨gb294, 1, none⟩) (Kd.R_far (p := ⟨gb294, 0, none⟩) (Kd.R_mono HO3.out (fun k_ hk => (⟨hk, hk.1.2⟩ : _ ∧ k_ ≠ gb294))) (fun _ hk => hk.2) (.int .i64 t290)) (fun _ hk => hk.2) (.int .i64 t291)) (fun _ hk => ⟨hk.1.1.1.1.1, ⟨hk.1.1.1.1.2, ⟨hk.1.1.1.2, ⟨hk.1.1.2, hk.1.2⟩⟩⟩⟩)))⟩; have n2_ : Aside0 (w26.heap[gb283]? = some (.cells #[.int .i64 a0_0, .int .i64 a0_1] 100 (0, 0))) := ⟨(by rw [hw]; exact (blkU_ BK283.out))⟩; have n3_ : Aside0 (w26.heap[gb294]? = some (.cells #[.int .i64 t290, .int .i64 t291] 100 (0, 0))) := ⟨(by rw [hw]; exact (blkF_ BK294.out))⟩; have n4_ : Aside0 (w26.heap[gb295]? = some (.cells #[.int .i64 0, .int .i64 0] 100 (0, 0))) := ⟨(by rw [hw]; exact (blkU_ BK295.out))⟩; have n5_ : Aside0 (Kept w w26 (fun k_ => P2_ k_ ∨ P3_ k_)) := ⟨(by rw [hw]; exact (by repeat (first | (with_reducible first | exact HK.out | apply Kept.alloc | apply Kept.drewN | apply Kept.drew | refine Kept.setCell ?_ (.inr GW283.out) _ | refine Kept.setCell ?_ (.inr GW294.out) _ | refine Kept.setCell ?_ (.inr GW295.out) _) | exact HK.out)))⟩; have n6_ : Aside0 (Below w0.heap.size w0 w26) := ⟨(by rw [hw]; exact bel_)⟩; clear hw; clear HO2; clear HO3; clear BK283; clear BK294; clear BK295; clear HK; clear HB; have HO2 := n0_; have HO3 := n1_; have BK283 := n2_; have BK294 := n3_; have BK295 := n4_; have HK := n5_; have HB := n6_; clear n0_ n1_ n2_ n3_ n4_ n5_ n6_; have hnb27 := NB295_283.out; have hnc27 := NB283_295.out; obtain ⟨z28_0, z28_1, f28_0, f28_1⟩ := cz2_ BK295.out) | ((with_reducible refine gate_store (t := 100) (p := 11) rfl ?_); refine store_event (t := 100) (p := 11) (v := ?vo_w29) (w1 := ((w26.setCell ⟨gb295, 0, none⟩ (.int .i64 t292)).setCell ⟨gb295, 1, none⟩ (.int .i64 t293))) ?hg ?ho ?hn ?hr ?_; (case ho => rfl); (case hg => rfl); (case hn => rfl); (case hr => first | (go_simp; done) | (go_simp; rfl)); intro w29 hw; have n0_ : Aside0 (Kd.R k100 100 w29 w0.heap.size (fun k_ => ((P2_ k_ ∨ P3_ k_) ∨ w.heap.size ≤ k_) ∧ some k_ ≠ (u9001_ : Value).ownBlock ∧ k_ ≠ gb283 ∧ k_ ≠ gb294 ∧ k_ ≠ gb295) u9000_ l2) := ⟨(by rw [hw]; exact (by (with_reducible repeat (first | apply Kd.R_alloc | apply Kd.R_drewN | apply Kd.R_drew)); exact Kd.R_mono (Kd.R_far (p := ⟨gb295, 1, none⟩) (Kd.R_far (p := ⟨gb295, 0, none⟩) (Kd.R_mono HO2.out (fun k_ hk => (⟨hk, hk.2.2.2.2⟩ : _ ∧ k_ ≠ gb295))) (fun _ hk => hk.2) (.int .i64 t292)) (fun _ hk => hk.2) (.int .i64 t293)) (fun _ hk => ⟨hk.1.1, ⟨hk.1.2.1, ⟨hk.1.2.2.1, ⟨hk.1.2.2.2.1, hk.1.2.2.2.2⟩⟩⟩⟩)))⟩; have n1_ : Aside0 (Kd.R k100 100 w29 w0.heap.size (fun k_ => ((P2_ k_ ∨ P3_ k_) ∨ w.heap.size ≤ k_) ∧ some k_ ≠ (u9000_ : Value).ownBlock ∧ k_ ≠ gb283 ∧ k_ ≠ gb294 ∧ k_ ≠ gb295) u9001_ l3) := ⟨(by rw [hw]; exact (by (with_reducible repeat (first | apply Kd.R_alloc | apply Kd.R_drewN | apply Kd.R_drew)); exact Kd.R_mono (Kd.R_far (p := ⟨gb295, 1, none⟩) (Kd.R_far (p := ⟨gb295, 0, none⟩) (Kd.R_mono HO3.out (fun k_ hk => (⟨hk, hk.2.2.2.2⟩ : _ ∧ k_ ≠ gb295))) (fun _ hk => hk.2) (.int .i64 t292)) (fun _ hk => hk.2) (.int .i64 t293)) (fun _ hk => ⟨hk.1.1, ⟨hk.1.2.1, ⟨hk.1.2.2.1, ⟨hk.1.2.2.2.1, hk.1.2.2.2.2⟩⟩⟩⟩)))⟩; have n2_ : Aside0 (w29.heap[gb283]? = some (.cells #[.int .i64 a0_0, .int .i64 a0_1] 100 (0, 0))) := ⟨(by rw [hw]; exact (blkU_ BK283.out))⟩; have n3_ : Aside0 (w29.heap[gb294]? = some (.cells #[.int .i64 t290, .int .i64 t291] 100 (0, 0))) := ⟨(by rw [hw]; exact (blkU_ BK294.out))⟩; have n4_ : Aside0 (w29.heap[gb295]? = some (.cells #[.int .i64 t292, .int .i64 t293] 100 (0, 0))) := ⟨(by rw [hw]; exact (blkF_ BK295.out))⟩; have n5_ : Aside0 (Kept w w29 (fun k_ => P2_ k_ ∨ P3_ k_)) := ⟨(by rw [hw]; exact (by repeat (first | (with_reducible first | exact HK.out | apply Kept.alloc | apply Kept.drewN | apply Kept.drew | refine Kept.setCell ?_ (.inr GW283.out) _ | refine Kept.setCell ?_ (.inr GW294.out) _ | refine Kept.setCell ?_ (.inr GW295.out) _) | exact HK.out)))⟩; have n6_ : Aside0 (Below w0.heap.size w0 w29) := ⟨(by rw [hw]; exact bel_)⟩; clear hw; clear HO2; clear HO3; clear BK283; clear BK294; clear BK295; clear HK; clear HB; have HO2 := n0_; have HO3 := n1_; have BK283 := n2_; have BK294 := n3_; have BK295 := n4_; have HK := n5_; have HB := n6_; clear n0_ n1_ n2_ n3_ n4_ n5_ n6_; obtain ⟨z30_0, z30_1, f30_0, f30_1⟩ := cz2_ BK294.out; obtain ⟨Ao31, co31, eo31⟩ := Kd.R_slice HO2.out; subst eo31; obtain ⟨Ao32, co32, eo32⟩ := Kd.R_slice HO3.out; subst eo32) | (refine gcL_ 107 (some 42) Try.func107 #[.agg #[.int .i64 t290, .int .i64 t291], .int .i64 a1, .slice Ao31 l2.length co31, .slice Ao32 l3.length co32] ?_; (with_reducible refine (ih k (by omega) t290 t291 a1 (fun k_ => some k_ = (.slice Ao31 l2.length co31 : Value).ownBlock) (.slice Ao31 l2.length co31) l2 (fun k_ => some k_ = (.slice Ao32 l3.length co32 : Value).ownBlock) (.slice Ao32 l3.length co32) l3 t296 t299 w0 _ ?side1 ?side2 ?side3 ?side4 ?side5 A16.out).mono ?_); (case side1 => exact bel_); (case side2 => exact Kd.R_tight rfl HO2.out); (case side3 => exact fun k_ e_ => (HO2.out.1 k_ e_.symm).2.1); (case side4 => exact Kd.R_tight rfl HO3.out); (case side5 => exact fun k_ e_ => (HO3.out.1 k_ e_.symm).2.1); rintro e w33 ⟨v297, v300, rfl, ho0, ho1, hb, hkp⟩; refine ⟨_, rfl, ?_⟩; have HO298 := a_ (Kd.R_mono (ok' := fun k_ => ((P2_ k_ ∨ P3_ k_) ∨ w.heap.size ≤ k_) ∧ some k_ ≠ (v300 : Value).ownBlock ∧ k_ ≠ gb283 ∧ k_ ≠ gb294 ∧ k_ ≠ gb295) ho0 (fun k_ hk_ => ⟨Or.elim hk_.1 (fun hs_ => Or.elim hs_ (fun hs_ => (HO2.out.1 k_ (hs_).symm).1) (fun hs_ => (HO3.out.1 k_ (hs_).symm).1)) (fun hn_ => (.inr (Nat.le_trans (by first | exact HK.out.1 | exact (show Kept w _ (fun k_ => P2_ k_ ∨ P3_ k_) from by repeat (first | (with_reducible first | exact HK.out | apply Kept.alloc | apply Kept.drewN | apply Kept.drew | refine Kept.setCell ?_ (.inr GW283.out) _ | refine Kept.setCell ?_ (.inr GW294.out) _ | refine Kept.setCell ?_ (.inr GW295.out) _) | exact HK.out)).1) hn_))), hk_.2, Or.elim hk_.1 (fun hs_ => Or.elim hs_ (fun hs_ => fun e_ => (Kd.R_away HO2.out (fun _ hk => hk.2.2.1)) (by rw [← e_]; exact hs_)) (fun hs_ => fun e_ => (Kd.R_away HO3.out (fun _ hk => hk.2.2.1)) (by rw [← e_]; exact hs_))) (fun hn_ => (Kd.freshB (g := gb283) (o := .cells #[.int .i64 a0_0, .int .i64 a0_1] 100 (0, 0)) (blkU_ BK283.out) k_ hn_)), Or.elim hk_.1 (fun hs_ => Or.elim hs_ (fun hs_ => fun e_ => (Kd.R_away HO2.out (fun _ hk => hk.2.2.2.1)) (by rw [← e_]; exact hs_)) (fun hs_ => fun e_ => (Kd.R_away HO3.out (fun _ hk => hk.2.2.2.1)) (by rw [← e_]; exact hs_))) (fun hn_ => (Kd.freshB (g := gb294) (o := .cells #[.int .i64 t290, .int .i64 t291] 100 (0, 0)) (blkU_ BK294.out) k_ hn_)), Or.elim hk_.1 (fun hs_ => Or.elim hs_ (fun hs_ => fun e_ => (Kd.R_away HO2.out (fun _ hk => hk.2.2.2.2)) (by rw [← e_]; exact hs_)) (fun hs_ => fun e_ => (Kd.R_away HO3.out (fun _ hk => hk.2.2.2.2)) (by rw [← e_]; exact hs_))) (fun hn_ => (Kd.freshB (g := gb295) (o := .cells #[.int .i64 t292, .int .i64 t293] 100 (0, 0)) (blkU_ BK295.out) k_ hn_))⟩)); have HO301 := a_ (Kd.R_mono (ok' := fun k_ => ((P2_ k_ ∨ P3_ k_) ∨ w.heap.size ≤ k_) ∧ some k_ ≠ (v297 : Value).ownBlock ∧ k_ ≠ gb283 ∧ k_ ≠ gb294 ∧ k_ ≠ gb295) ho1 (fun k_ hk_ => ⟨Or.elim hk_.1 (fun hs_ => Or.elim hs_ (fun hs_ => (HO2.out.1 k_ (hs_).symm).1) (fun hs_ => (HO3.out.1 k_ (hs_).symm).1)) (fun hn_ => (.inr (Nat.le_trans (by first | exact HK.out.1 | exact (show Kept w _ (fun k_ => P2_ k_ ∨ P3_ k_) from by repeat (first | (with_reducible first | exact HK.out | apply Kept.alloc | apply Kept.drewN | apply Kept.drew | refine Kept.setCell ?_ (.inr GW283.out) _ | refine Kept.setCell ?_ (.inr GW294.out) _ | refine Kept.setCell ?_ (.inr GW295.out) _) | exact HK.out)).1) hn_))), hk_.2, Or.elim hk_.1 (fun hs_ => Or.elim hs_ (fun hs_ => fun e_ => (Kd.R_away HO2.out (fun _ hk => hk.2.2.1)) (by rw [← e_]; exact hs_)) (fun hs_ => fun e_ => (Kd.R_away HO3.out (fun _ hk => hk.2.2.1)) (by rw [← e_]; exact hs_))) (fun hn_ => (Kd.freshB (g := gb283) (o := .cells #[.int .i64 a0_0, .int .i64 a0_1] 100 (0, 0)) (blkU_ BK283.out) k_ hn_)), Or.elim hk_.1 (fun hs_ => Or.elim hs_ (fun hs_ => fun e_ => (Kd.R_away HO2.out (fun _ hk => hk.2.2.2.1)) (by rw [← e_]; exact hs_)) (fun hs_ => fun e_ => (Kd.R_away HO3.out (fun _ hk => hk.2.2.2.1)) (by rw [← e_]; exact hs_))) (fun hn_ => (Kd.freshB (g := gb294) (o := .cells #[.int .i64 t290, .int .i64 t291] 100 (0, 0)) (blkU_ BK294.out) k_ hn_)), Or.elim hk_.1 (fun hs_ => Or.elim hs_ (fun hs_ => fun e_ => (Kd.R_away HO2.out (fun _ hk => hk.2.2.2.2)) (by rw [← e_]; exact hs_)) (fun hs_ => fun e_ => (Kd.R_away HO3.out (fun _ hk => hk.2.2.2.2)) (by rw [← e_]; exact hs_))) (fun hn_ => (Kd.freshB (g := gb295) (o := .cells #[.int .i64 t292, .int .i64 t293] 100 (0, 0)) (blkU_ BK295.out) k_ hn_))⟩)); replace BK283 := a_ (blk_kept (blkU_ BK283.out) hkp (fun hs_ => Or.elim hs_ (fun e_ => (fun e_ => (Kd.R_away HO2.out (fun _ hk => hk.2.2.1)) e_) e_) (fun e_ => (fun e_ => (Kd.R_away HO3.out (fun _ hk => hk.2.2.1)) e_) e_))); replace BK294 := a_ (blk_kept (blkU_ BK294.out) hkp (fun hs_ => Or.elim hs_ (fun e_ => (fun e_ => (Kd.R_away HO2.out (fun _ hk => hk.2.2.2.1)) e_) e_) (fun e_ => (fun e_ => (Kd.R_away HO3.out (fun _ hk => hk.2.2.2.1)) e_) e_))); replace BK295 := a_ (blk_kept (blkU_ BK295.out) hkp (fun hs_ => Or.elim hs_ (fun e_ => (fun e_ => (Kd.R_away HO2.out (fun _ hk => hk.2.2.2.2)) e_) e_) (fun e_ => (fun e_ => (Kd.R_away HO3.out (fun _ hk => hk.2.2.2.2)) e_) e_))); replace HK := a_ (Kept.then_ (S := (fun k_ => P2_ k_ ∨ P3_ k_)) (by repeat (first | (with_reducible first | exact HK.out | apply Kept.alloc | apply Kept.drewN | apply Kept.drew | refine Kept.setCell ?_ (.inr GW283.out) _ | refine Kept.setCell ?_ (.inr GW294.out) _ | refine Kept.setCell ?_ (.inr GW295.out) _) | exact HK.out)) hkp (fun k_ hs_ => Or.elim hs_ (fun e_ => (fun e_ => (HO2.out.1 k_ e_.symm).1) e_) (fun e_ => (fun e_ => (HO3.out.1 k_ e_.symm).1) e_))); replace HB := a_ (hb); clear HO2 HO3; (try clear hb); (try clear hkp); (try clear ho0); (try clear ho1); obtain ⟨z34_0, z34_1, f34_0, f34_1⟩ := cz2_ BK295.out; obtain ⟨Ao35, co35, eo35⟩ := Kd.R_slice HO298.out; subst eo35; obtain ⟨Ao36, co36, eo36⟩ := Kd.R_slice HO301.out; subst eo36) | (refine gcL_ 107 (some 49) Try.func107 #[.agg #[.int .i64 t292, .int .i64 t293], .int .i64 a1, .slice Ao35 t296.length co35, .slice Ao36 t299.length co36] ?_; (with_reducible refine (ih k (by omega) t292 t293 a1 (fun k_ => some k_ = (.slice Ao35 t296.length co35 : Value).ownBlock) (.slice Ao35 t296.length co35) t296 (fun k_ => some k_ = (.slice Ao36 t299.length co36 : Value).ownBlock) (.slice Ao36 t299.length co36) t299 t302 t305 w0 _ ?side1 ?side2 ?side3 ?side4 ?side5 A17.out).mono ?_); (case side1 => exact bel_); (case side2 => exact Kd.R_tight rfl HO298.out); (case side3 => exact fun k_ e_ => (HO298.out.1 k_ e_.symm).2.1); (case side4 => exact Kd.R_tight rfl HO301.out); (case side5 => exact fun k_ e_ => (HO301.out.1 k_ e_.symm).2.1); rintro e w37 ⟨v303, v306, rfl, ho0, ho1, hb, hkp⟩; refine ⟨_, rfl, ?_⟩; have HO304 := a_ (Kd.R_mono (ok' := fun k_ => ((P2_ k_ ∨ P3_ k_) ∨ w.heap.size ≤ k_) ∧ some k_ ≠ (v306 : Value).ownBlock ∧ k_ ≠ gb283 ∧ k_ ≠ gb294 ∧ k_ ≠ gb295) ho0 (fun k_ hk_ => ⟨Or.elim hk_.1 (fun hs_ => Or.elim hs_ (fun hs_ => (HO298.out.1 k_ (hs_).symm).1) (fun hs_ => (HO301.out.1 k_ (hs_).symm).1)) (fun hn_ => (.inr (Nat.le_trans (by first | exact HK.out.1 | exact (show Kept w _ (fun k_ => P2_ k_ ∨ P3_ k_) from by repeat (first | (with_reducible first | exact HK.out | apply Kept.alloc | apply Kept.drewN | apply Kept.drew | refine Kept.setCell ?_ (.inr GW283.out) _ | refine Kept.setCell ?_ (.inr GW294.out) _ | refine Kept.setCell ?_ (.inr GW295.out) _) | exact HK.out)).1) hn_))), hk_.2, Or.elim hk_.1 (fun hs_ => Or.elim hs_ (fun hs_ => fun e_ => (Kd.R_away HO298.out (fun _ hk => hk.2.2.1)) (by rw [← e_]; exact hs_)) (fun hs_ => fun e_ => (Kd.R_away HO301.out (fun _ hk => hk.2.2.1)) (by rw [← e_]; exact hs_))) (fun hn_ => (Kd.freshB (g := gb283) (o := .cells #[.int .i64 a0_0, .int .i64 a0_1] 100 (0, 0)) (blkU_ BK283.out) k_ hn_)), Or.elim hk_.1 (fun hs_ => Or.elim hs_ (fun hs_ => fun e_ => (Kd.R_away HO298.out (fun _ hk => hk.2.2.2.1)) (by rw [← e_]; exact hs_)) (fun hs_ => fun e_ => (Kd.R_away HO301.out (fun _ hk => hk.2.2.2.1)) (by rw [← e_]; exact hs_))) (fun hn_ => (Kd.freshB (g := gb294) (o := .cells #[.int .i64 t290, .int .i64 t291] 100 (0, 0)) (blkU_ BK294.out) k_ hn_)), Or.elim hk_.1 (fun hs_ => Or.elim hs_ (fun hs_ => fun e_ => (Kd.R_away HO298.out (fun _ hk => hk.2.2.2.2)) (by rw [← e_]; exact hs_)) (fun hs_ => fun e_ => (Kd.R_away HO301.out (fun _ hk => hk.2.2.2.2)) (by rw [← e_]; exact hs_))) (fun hn_ => (Kd.freshB (g := gb295) (o := .cells #[.int .i64 t292, .int .i64 t293] 100 (0, 0)) (blkU_ BK295.out) k_ hn_))⟩)); have HO307 := a_ (Kd.R_mono (ok' := fun k_ => ((P2_ k_ ∨ P3_ k_) ∨ w.heap.size ≤ k_) ∧ some k_ ≠ (v303 : Value).ownBlock ∧ k_ ≠ gb283 ∧ k_ ≠ gb294 ∧ k_ ≠ gb295) ho1 (fun k_ hk_ => ⟨Or.elim hk_.1 (fun hs_ => Or.elim hs_ (fun hs_ => (HO298.out.1 k_ (hs_).symm).1) (fun hs_ => (HO301.out.1 k_ (hs_).symm).1)) (fun hn_ => (.inr (Nat.le_trans (by first | exact HK.out.1 | exact (show Kept w _ (fun k_ => P2_ k_ ∨ P3_ k_) from by repeat (first | (with_reducible first | exact HK.out | apply Kept.alloc | apply Kept.drewN | apply Kept.drew | refine Kept.setCell ?_ (.inr GW283.out) _ | refine Kept.setCell ?_ (.inr GW294.out) _ | refine Kept.setCell ?_ (.inr GW295.out) _) | exact HK.out)).1) hn_))), hk_.2, Or.elim hk_.1 (fun hs_ => Or.elim hs_ (fun hs_ => fun e_ => (Kd.R_away HO298.out (fun _ hk => hk.2.2.1)) (by rw [← e_]; exact hs_)) (fun hs_ => fun e_ => (Kd.R_away HO301.out (fun _ hk => hk.2.2.1)) (by rw [← e_]; exact hs_))) (fun hn_ => (Kd.freshB (g := gb283) (o := .cells #[.int .i64 a0_0, .int .i64 a0_1] 100 (0, 0)) (blkU_ BK283.out) k_ hn_)), Or.elim hk_.1 (fun hs_ => Or.elim hs_ (fun hs_ => fun e_ => (Kd.R_away HO298.out (fun _ hk => hk.2.2.2.1)) (by rw [← e_]; exact hs_)) (fun hs_ => fun e_ => (Kd.R_away HO301.out (fun _ hk => hk.2.2.2.1)) (by rw [← e_]; exact hs_))) (fun hn_ => (Kd.freshB (g := gb294) (o := .cells #[.int .i64 t290, .int .i64 t291] 100 (0, 0)) (blkU_ BK294.out) k_ hn_)), Or.elim hk_.1 (fun hs_ => Or.elim hs_ (fun hs_ => fun e_ => (Kd.R_away HO298.out (fun _ hk => hk.2.2.2.2)) (by rw [← e_]; exact hs_)) (fun hs_ => fun e_ => (Kd.R_away HO301.out (fun _ hk => hk.2.2.2.2)) (by rw [← e_]; exact hs_))) (fun hn_ => (Kd.freshB (g := gb295) (o := .cells #[.int .i64 t292, .int .i64 t293] 100 (0, 0)) (blkU_ BK295.out) k_ hn_))⟩)); replace BK283 := a_ (blk_kept (blkU_ BK283.out) hkp (fun hs_ => Or.elim hs_ (fun e_ => (fun e_ => (Kd.R_away HO298.out (fun _ hk => hk.2.2.1)) e_) e_) (fun e_ => (fun e_ => (Kd.R_away HO301.out (fun _ hk => hk.2.2.1)) e_) e_))); replace BK294 := a_ (blk_kept (blkU_ BK294.out) hkp (fun hs_ => Or.elim hs_ (fun e_ => (fun e_ => (Kd.R_away HO298.out (fun _ hk => hk.2.2.2.1)) e_) e_) (fun e_ => (fun e_ => (Kd.R_away HO301.out (fun _ hk => hk.2.2.2.1)) e_) e_))); replace BK295 := a_ (blk_kept (blkU_ BK295.out) hkp (fun hs_ => Or.elim hs_ (fun e_ => (fun e_ => (Kd.R_away HO298.out (fun _ hk => hk.2.2.2.2)) e_) e_) (fun e_ => (fun e_ => (Kd.R_away HO301.out (fun _ hk => hk.2.2.2.2)) e_) e_))); replace HK := a_ (Kept.then_ (S := (fun k_ => P2_ k_ ∨ P3_ k_)) (by repeat (first | (with_reducible first | exact HK.out | apply Kept.alloc | apply Kept.drewN | apply Kept.drew | refine Kept.setCell ?_ (.inr GW283.out) _ | refine Kept.setCell ?_ (.inr GW294.out) _ | refine Kept.setCell ?_ (.inr GW295.out) _) | exact HK.out)) hkp (fun k_ hs_ => Or.elim hs_ (fun e_ => (fun e_ => (HO298.out.1 k_ e_.symm).1) e_) (fun e_ => (fun e_ => (HO301.out.1 k_ e_.symm).1) e_))); replace HB := a_ (hb); clear HO298 HO301; (try clear hb); (try clear hkp); (try clear ho0); (try clear ho1)))
   go_ret2
   exact ⟨_, _, rfl_, by (with_reducible repeat (first | apply Kd.R_alloc | apply Kd.R_drewN | apply Kd.R_drew)); exact Kd.R_mono HO304.out (fun _ hk => ⟨hk.1, hk.2.1⟩), by (with_reducible repeat (first | apply Kd.R_alloc | apply Kd.R_drewN | apply Kd.R_drew)); exact Kd.R_mono HO307.out (fun _ hk => ⟨hk.1, hk.2.1⟩), bel_, by repeat (first | (with_reducible first | exact HK.out | apply Kept.alloc | apply Kept.drewN | apply Kept.drew | refine Kept.setCell ?_ (.inr GW283.out) _ | refine Kept.setCell ?_ (.inr GW294.out) _ | refine Kept.setCell ?_ (.inr GW295.out) _) | exact HK.out)⟩
end
section
def impl_growthNodes.f (k : Nat) (a0 a1 : Int) : Option ((List (S100)) × (List (S100))) := (impl_fall.f k 0 a1 a0 ([] : List (S100)) ([] : List (S100))).bind fun bt308 => (some (bt308.1, bt308.2))
theorem impl_growthNodes.calls (k : Nat) (a0 a1 : Int) (r1 r2 : List (S100)) (w : World) (h : impl_growthNodes.f k a0 a1 = some (r1, r2)) :
  Calls Try.prog 63 #[.int .i64 a0, .int .i64 a1] w fun e w' => ∃ v0_ v1_ : Value, e = .returned (.tuple #[v0_, v1_]) ∧ Kd.R k100 100 w' w.heap.size (fun k_ => some k_ ≠ (v1_ : Value).ownBlock) v0_ r1 ∧ Kd.R k100 100 w' w.heap.size (fun k_ => some k_ ≠ (v0_ : Value).ownBlock) v1_ r2 ∧ Below w.heap.size w w' := by
 have hu100 := Try.underlying100
 have HB := a_ (Below.refl w.heap.size w)
 have H := h
 unfold impl_growthNodes.f at H
 clear h
 obtain ⟨⟨t308, t311⟩, A3, H⟩ := bnd_ H
 dsimp only at H
 simp only [Option.some.injEq, Prod.mk.injEq] at H
 obtain ⟨rfl, rfl⟩ := H
 go_enter Try.func63, Try.ntmps63
 go_wp2_with (first | (refine gcL_ 107 (some 9) Try.func107 #[.agg #[.int .i64 0, .int .i64 a1], .int .i64 a0, .slice none 0 0, .slice none 0 0] ?_; (refine (impl_fall.calls k 0 a1 a0 (fun k_ => some k_ = (.slice none 0 0 : Value).ownBlock) (.slice none 0 0) ([] : List (S100)) (fun k_ => some k_ = (.slice none 0 0 : Value).ownBlock) (.slice none 0 0) ([] : List (S100)) t308 t311 w _ ?side1 ?side2 ?side3 ?side4 ?side5 A3.out).mono ?_); (case side1 => exact bel_); (case side2 => exact Kd.R_nil _ _ _ _ _); (case side3 => intro k_ e_ e2_; simp [Value.ownBlock] at e_ e2_); (case side4 => exact Kd.R_nil _ _ _ _ _); (case side5 => intro k_ e_ e2_; simp [Value.ownBlock] at e_ e2_); rintro e w4 ⟨v309, v312, rfl, ho0, ho1, hb, hkp⟩; refine ⟨_, rfl, ?_⟩; have HO310 := a_ (Kd.R_mono (ok' := fun k_ => some k_ ≠ (v312 : Value).ownBlock) ho0 (fun k_ hk_ => hk_.2)); have HO313 := a_ (Kd.R_mono (ok' := fun k_ => some k_ ≠ (v309 : Value).ownBlock) ho1 (fun k_ hk_ => hk_.2)); replace HB := a_ (hb); (try clear hb); (try clear hkp); (try clear ho0); (try clear ho1)))
 go_ret2
 exact ⟨_, _, rfl_, by (with_reducible repeat (first | apply Kd.R_alloc | apply Kd.R_drewN | apply Kd.R_drew)); exact HO310.out, by (with_reducible repeat (first | apply Kd.R_alloc | apply Kd.R_drewN | apply Kd.R_drew)); exact HO313.out, bel_⟩
end
section
def impl_GrowthLen.f (k : Nat) (a0 a1 : Int) : Option (Int) := (impl_mayGrow.f a0 a1).bind fun t314 => (if t314 = true then (if a0 = 0 then (some 0) else (if a0 = a1 then (some 0) else ((impl_growthNodes.f k a0 a1).bind fun bt315 => (some (wrap64 ((bt315.1.length : Int) + (bt315.2.length : Int))))))) else (some (-1)))
theorem impl_GrowthLen.calls (k : Nat) (a0 a1 r : Int) (w : World) (h : impl_GrowthLen.f k a0 a1 = some r) :
  Calls Try.prog 31 #[.int .i64 a0, .int .i64 a1] w fun e w' => e = .returned (.int .i64 r) ∧ Below w.heap.size w w' := by
 have HB := a_ (Below.refl w.heap.size w)
 have H := h
 unfold impl_GrowthLen.f at H
 clear h
 obtain ⟨t314, A3, H⟩ := bnd_ H
 by_cases c4 : t314 = true
 ·subst c4
  rw [if_pos rfl] at H
  by_cases c5 : a0 = 0
  ·rw [if_pos c5] at H
   have c5b0 := beq_iff_eq.mpr c5
   have c5b1 := bne_eq_false_iff_eq.mpr c5
   clear c5
   obtain rfl := Option.some.inj H
   go_enter Try.func31, Try.ntmps31
   go_wp2_with (first | (refine gcL_ 62 (some 9) Try.func62 #[.int .i64 a0, .int .i64 a1] ?_; (with_reducible refine (impl_mayGrow.calls a0 a1 true _ A3.out).mono ?_); rintro e w' ⟨rfl, ⟨nd, rfl⟩⟩; refine ⟨_, rfl, ?_⟩))
   go_ret
   exact ⟨rfl_, bel_⟩
  ·rw [if_neg c5] at H
   have c5b0 := beq_eq_false_iff_ne.mpr c5
   have c5b1 := bne_iff_ne.mpr c5
   by_cases c6 : a0 = a1
   ·rw [if_pos c6] at H
    have c6b0 := beq_iff_eq.mpr c6
    have c6b1 := bne_eq_false_iff_eq.mpr c6
    clear c6
    obtain rfl := Option.some.inj H
    go_enter Try.func31, Try.ntmps31
    go_wp2_with (first | (refine gcL_ 62 (some 9) Try.func62 #[.int .i64 a0, .int .i64 a1] ?_; (with_reducible refine (impl_mayGrow.calls a0 a1 true _ A3.out).mono ?_); rintro e w' ⟨rfl, ⟨nd, rfl⟩⟩; refine ⟨_, rfl, ?_⟩))
    go_ret
    exact ⟨rfl_, bel_⟩
   ·rw [if_neg c6] at H
    have c6b0 := beq_eq_false_iff_ne.mpr c6
    have c6b1 := bne_iff_ne.mpr c6
    obtain ⟨⟨t315, t316⟩, A7, H⟩ := bnd_ H
    dsimp only at H
    obtain rfl := Option.some.inj H
    go_enter Try.func31, Try.ntmps31
    go_wp2_with (first | (refine gcL_ 62 (some 9) Try.func62 #[.int .i64 a0, .int .i64 a1] ?_; (with_reducible refine (impl_mayGrow.calls a0 a1 true _ A3.out).mono ?_); rintro e w' ⟨rfl, ⟨nd, rfl⟩⟩; refine ⟨_, rfl, ?_⟩) | (refine gcL_ 63 (some 21) Try.func63 #[.int .i64 a0, .int .i64 a1] ?_; (with_reducible refine (impl_growthNodes.calls k a0 a1 t315 t316 _ A7.out).mono ?_); rintro e w8 ⟨v317, v319, rfl, ho0, ho1, hb⟩; refine ⟨_, rfl, ?_⟩; have HO318 := a_ (Kd.R_lower ho0 (below_size bel_)); have HO320 := a_ (Kd.R_lower ho1 (below_size bel_)); replace HB := stepB_ hb; (try clear hb); (try clear ho0); (try clear ho1); obtain ⟨Ao9, co9, eo9⟩ := Kd.R_slice HO318.out; subst eo9; obtain ⟨Ao10, co10, eo10⟩ := Kd.R_slice HO320.out; subst eo10))
    go_ret
    exact ⟨rfl_, bel_⟩
 ·replace c4 := Bool.eq_false_iff.mpr c4
  subst c4
  rw [if_neg (show ¬ (false = true) by decide)] at H
  obtain rfl := Option.some.inj H
  go_enter Try.func31, Try.ntmps31
  go_wp2_with (first | (refine gcL_ 62 (some 9) Try.func62 #[.int .i64 a0, .int .i64 a1] ?_; (with_reducible refine (impl_mayGrow.calls a0 a1 false _ A3.out).mono ?_); rintro e w' ⟨rfl, ⟨nd, rfl⟩⟩; refine ⟨_, rfl, ?_⟩))
  go_ret
  exact ⟨rfl_, bel_⟩
end
section
def laws_toGrowth.f (k : Nat) (a0_0 a0_1 : Int) (a0_2 a0_3 a0_4 : Int) (l0_5 : List (S24)) : Option (Int × Int × Int × Int × Int × (List (S29))) := (laws_toPoint.f a0_0 a0_1 a0_2 a0_3 a0_4).bind fun bt255 => ((laws_toDigestS.f k l0_5).bind fun t260 => (some (bt255.1, bt255.2.1, bt255.2.2.1, bt255.2.2.2.1, bt255.2.2.2.2, t260)))
theorem laws_toGrowth.calls (k : Nat) (a0_0 a0_1 : Int) (a0_2 a0_3 a0_4 : Int) (A0_5 : Option Addr) (c0_5 : Nat) (l0_5 : List (S24)) (r1 r2 : Int) (r3 r4 r5 : Int) (r6 : List (S29)) (w : World) (hr0_5 : Kd.C k24 w A0_5 l0_5.length l0_5) (hc0_5 : l0_5.length ≤ c0_5) (h : laws_toGrowth.f k a0_0 a0_1 a0_2 a0_3 a0_4 l0_5 = some (r1, r2, r3, r4, r5, r6)) :
  Calls Try.prog 20 #[.agg #[.int .i64 a0_0, .int .u64 a0_1, .int .u64 a0_2, .int .u64 a0_3, .int .u64 a0_4, .slice A0_5 l0_5.length c0_5]] w fun e w' => ∃ v5_ : Value, e = .returned (.agg #[.int .i64 r1, .int .u64 r2, .int .u64 r3, .int .u64 r4, .int .u64 r5, v5_]) ∧ Kd.R k29 29 w' w.heap.size (fun _ => True) v5_ r6 ∧ Below w.heap.size w w' := by
 have hu42 := Try.underlying42
 have hu51 := Try.underlying51
 have hu26 := Try.underlying26
 have hu31 := Try.underlying31
 have HR0_5 := Aside0.mk hr0_5
 have HC0_5 := Aside0.mk hc0_5
 clear hr0_5 hc0_5
 have HB := a_ (Below.refl w.heap.size w)
 have H := h
 unfold laws_toGrowth.f at H
 clear h
 obtain ⟨⟨t255, t256, t257, t258, t259⟩, A2, H⟩ := bnd_ H
 dsimp only at H
 obtain ⟨t260, A3, H⟩ := bnd_ H
 simp only [Option.some.injEq, Prod.mk.injEq] at H
 obtain ⟨rfl, rfl, rfl, rfl, rfl, rfl⟩ := H
 go_enter Try.func20, Try.ntmps20
 go_wp2_with (first | ((with_reducible refine gate_dst (N := 1) rfl ?_); refine boxE_ (cs := #[.int .i64 a0_0, .int .u64 a0_1, .int .u64 a0_2, .int .u64 a0_3, .int .u64 a0_4, .slice A0_5 l0_5.length c0_5]) (t := 42) ?_; intro gb252 hg w4 hbox hb; have BK252 := a_ (hbox); have GW252 := sizeB_ hg; replace HB := stepB_ hb; clear hb hbox hg) | ((with_reducible refine gate_dst (N := 2) rfl ?_); refine boxE_ (cs := #[.int .i64 0, .int .u64 0, .int .u64 0, .int .u64 0, .int .u64 0, .slice none 0 0]) (t := 51) ?_; intro gb253 hg w5 hbox hb; have BK253 := a_ (hbox); have GW253 := sizeB_ hg; replace HB := stepB_ hb; obtain ⟨NB252_253, NB253_252⟩ := ne2_ BK252.out hg; replace BK252 := bb_ BK252.out hb; clear hb hbox hg) | ((with_reducible refine gate_dst (N := 3) rfl ?_); refine boxE_ (cs := #[.int .i64 0, .int .u64 0, .int .u64 0, .int .u64 0, .int .u64 0, .slice none 0 0]) (t := 51) ?_; intro gb254 hg w6 hbox hb; have BK254 := a_ (hbox); have GW254 := sizeB_ hg; replace HB := stepB_ hb; obtain ⟨NB252_254, NB254_252⟩ := ne2_ BK252.out hg; replace BK252 := bb_ BK252.out hb; obtain ⟨NB253_254, NB254_253⟩ := ne2_ BK253.out hg; replace BK253 := bb_ BK253.out hb; clear hb hbox hg; have hnb7 := NB252_253.out; have hnc7 := NB253_252.out; have hnb8 := NB252_254.out; have hnc8 := NB254_252.out; obtain ⟨z9_0, z9_1, z9_2, z9_3, z9_4, z9_5, f9_0, f9_1, f9_2, f9_3, f9_4, f9_5⟩ := cz6_ BK252.out) | (refine gcL_ 12 (some 6) Try.func12 #[.agg #[.int .i64 a0_0, .int .u64 a0_1, .int .u64 a0_2, .int .u64 a0_3, .int .u64 a0_4]] ?_; (with_reducible refine (laws_toPoint.calls a0_0 a0_1 a0_2 a0_3 a0_4 t255 t256 t257 t258 t259 _ A2.out).mono ?_); rintro e w10 ⟨rfl, hb⟩; refine ⟨_, rfl, ?_⟩; replace BK252 := bb_ BK252.out hb; replace BK253 := bb_ BK253.out hb; replace BK254 := bb_ BK254.out hb; replace HB := stepB_ hb; (try clear hb); have hnb11 := NB254_253.out; have hnc11 := NB253_254.out; obtain ⟨z12_0, z12_1, z12_2, z12_3, z12_4, z12_5, f12_0, f12_1, f12_2, f12_3, f12_4, f12_5⟩ := cz6_ BK254.out; obtain ⟨z13_0, z13_1, z13_2, z13_3, z13_4, z13_5, f13_0, f13_1, f13_2, f13_3, f13_4, f13_5⟩ := cz6_ BK252.out) | (refine gcL_ 21 (some 10) Try.func21 #[.slice A0_5 l0_5.length c0_5] ?_; (with_reducible refine (laws_toDigestS.calls k _ _ l0_5 t260 _ ?side1 ?side2 A3.out).mono ?_); (case side1 => exact Kd.C_below HR0_5.out bel_); (case side2 => exact HC0_5.out); rintro e w14 ⟨v261, rfl, ho0, hb⟩; refine ⟨_, rfl, ?_⟩; have HO262 := a_ (Kd.R_lower ho0 (below_size bel_)); replace BK252 := bb_ BK252.out hb; replace BK253 := bb_ BK253.out hb; replace BK254 := blkPB_ (cs := #[.int .i64 t255, .int .u64 t256, .int .u64 t257, .int .u64 t258, .int .u64 t259, .slice none 0 0]) BK254.out hb; replace HB := stepB_ hb; (try clear hb); (try clear ho0); obtain ⟨Ao15, co15, eo15⟩ := Kd.R_slice HO262.out; subst eo15; obtain ⟨z16_0, z16_1, z16_2, z16_3, z16_4, z16_5, f16_0, f16_1, f16_2, f16_3, f16_4, f16_5⟩ := cz6_ BK254.out; obtain ⟨z17_0, z17_1, z17_2, z17_3, z17_4, z17_5, f17_0, f17_1, f17_2, f17_3, f17_4, f17_5⟩ := cz6_ BK253.out))
 refine bodyPost_ret (results_cell_row rfl _ _ gb253 51 #[.int .i64 t255, .int .u64 t256, .int .u64 t257, .int .u64 t258, .int .u64 t259, .slice Ao15 t260.length co15] (0, 0) _ rfl (blkF_ BK253.out) Try.underlying51 rfl (by kernel_rfl)) rfl ?_
 exact ⟨_, rfl_, by (with_reducible repeat (first | apply Kd.R_alloc | apply Kd.R_drewN | apply Kd.R_drew)); exact Kd.R_mono (Kd.R_far (p := ⟨gb253, 5, none⟩) (Kd.R_far (p := ⟨gb253, 4, none⟩) (Kd.R_far (p := ⟨gb253, 3, none⟩) (Kd.R_far (p := ⟨gb253, 2, none⟩) (Kd.R_far (p := ⟨gb253, 1, none⟩) (Kd.R_far (p := ⟨gb253, 0, none⟩) (Kd.R_far (p := ⟨gb254, 5, none⟩) (Kd.R_types (Kd.R_types HO262.out BK254.out (by decide)) BK253.out (by decide)) (fun _ hk => hk.1.2) (.slice Ao15 t260.length co15)) (fun _ hk => hk.2) (.int .i64 t255)) (fun _ hk => hk.2) (.int .u64 t256)) (fun _ hk => hk.2) (.int .u64 t257)) (fun _ hk => hk.2) (.int .u64 t258)) (fun _ hk => hk.2) (.int .u64 t259)) (fun _ hk => hk.2) (.slice Ao15 t260.length co15)) (fun _ hk => trivial), bel_⟩
end
end
end Go.Proofs.Ytflckegggopdnaa.B
