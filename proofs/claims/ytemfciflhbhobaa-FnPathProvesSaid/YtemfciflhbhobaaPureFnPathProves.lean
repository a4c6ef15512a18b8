/- PathOf of a drawn leaf proves it: the plain law behind FnPathProves. No condition. -/
import Derived.Test.YtemfciflhbhobaaFLawsFnPathProves
import Derived.Test.YtemfciflhbhobaaOpenK
import Derived.Test.YtemfciflhbhobaaQProves
import Derived.Test.YtemfciflhbhobaaQSome
namespace Go.Proofs.Ytemfciflhbhobaa.Pure
open Go.RowKit Go.Proofs.Ytemfciflhbhobaa.B Go.Proofs.Ytemfciflhbhobaa.Q Go.Proofs.YtemfciflhbhobaaW.PrintWords Go.Proofs.YtemfciflhbhobaaW.PrintLast
set_option linter.unusedVariables false
set_option linter.unusedSimpArgs false
theorem treeRoot_impl3 {k : Nat} (hk : 40000 < k) {l : List ByteArray} (c : leavesOk l = true) : impl_TreeRoot.f k l = some (root l) := by
  obtain ⟨h2, hz⟩ := leaves_fit c
  unfold impl_TreeRoot.f
  refine bs (impl_leaves l (by omega) (by omega)) ?_
  rw [if_pos c]
  exact bs (impl_root (by omega) h2 hz) rfl
theorem treeRoot_spec3 {k : Nat} (hk : 40000 < k) {l : List ByteArray} (c : leavesOk l = true) : spec_TreeRoot.f k l = some (root l) := by
  obtain ⟨h2, hz⟩ := leaves_fit c
  unfold spec_TreeRoot.f
  refine bs (spec_leaves l (by omega) (by omega)) ?_
  rw [if_pos c]
  exact bs (spec_root (by omega) h2 hz) rfl
theorem treePoint_impl3 {k : Nat} (hk : 40000 < k) {l : List ByteArray} (c : leavesOk l = true) : impl_TreePoint.f k l = some ((l.length : Int), root l) := by
  obtain ⟨h2, hz⟩ := leaves_fit c
  unfold impl_TreePoint.f
  refine bs (impl_leaves l (by omega) (by omega)) ?_
  rw [if_pos c]
  exact bs (impl_root (by omega) h2 hz) rfl
theorem proves_at (k : Nat) (hk : 1099511627780 < k) (c : List Int) (hc : Bytes8 c) : laws_FnPathProves.f (k + 2) c = some true := by
  unfold laws_FnPathProves.f
  by_cases h0 : (c.length : Int) > 1048576
  · rw [if_pos h0]
  · rw [if_neg h0]
    obtain ⟨b, e1, hr⟩ := open_ok c hc
    obtain ⟨l, q, e2, hl, hs, hr2, _⟩ := some_ok (k := k + 2) (by omega) hr (by omega)
    obtain ⟨v, e4, v0, v1, v2⟩ := pick_ok (k := k + 2) (by omega) hr2 (by omega) ((l.length : Int) + 2)
    have v3 := v1 (by omega)
    have e3 : spec_DrawPathOf.f (k + 2) c = some (l, v - 1) := by
      unfold spec_DrawPathOf.f spec_l3Open.f spec_l2Open.f
      refine bs e1 (bs e2 ?_)
      rw [show wrap64 ((l.length : Int) + 2) = (l.length : Int) + 2 by unfold wrap64; omega]
      refine bs e4 ?_
      rw [show wrap64 (v - 1) = v - 1 by unfold wrap64; omega]
    refine bs e3 (bs (impl_pathOf' (l := l) (by omega) (by omega) (v - 1) (by omega)) (bs (spec_leaves l (by omega) (by omega)) ?_))
    obtain ⟨i, hi⟩ : ∃ i, i = v - 1 := ⟨_, rfl⟩
    rw [← hi]
    dsimp only
    have hbad : ¬ (leavesOk l = true ∧ 0 ≤ i ∧ i < (l.length : Int)) → laws_FnPathProves.j0 (k + 2) l i (pathOf l i).1 (pathOf l i).2 true = some true := by
      intro hn
      unfold pathOf
      rw [if_neg hn]
      simp only [laws_FnPathProves.j0]
      rw [if_pos trivial, if_neg (by simp)]
      rfl
    by_cases cl : leavesOk l = true
    · rw [if_pos cl]
      obtain ⟨h2, hz⟩ := leaves_fit cl
      by_cases c1 : i < 0
      · rw [if_pos c1]
        exact hbad (fun h => by omega)
      · rw [if_neg c1]
        by_cases c2 : i ≥ (l.length : Int)
        · rw [decide_eq_true c2]
          exact hbad (fun h => by omega)
        · rw [decide_eq_false c2]
          obtain ⟨n, rfl⟩ : ∃ n : Nat, i = (n : Int) := ⟨i.toNat, by omega⟩
          have hn : n < l.length := by omega
          have hp : pathOf l (n : Int) = ((way l.length n).reverse.map (sib l n), true) := by
            unfold pathOf
            rw [if_pos ⟨cl, by omega, by omega⟩, Int.toNat_natCast]
          rw [hp]
          dsimp only
          have hpl : pathLen (l.length : Int) (n : Int) = ((way l.length n).length : Int) := by
            unfold pathLen
            rw [if_pos (by omega), Int.toNat_natCast, Int.toNat_natCast]
          have hP : ((way l.length n).reverse.map (sib l n)).length = (way l.length n).length := by rw [List.length_map, List.length_reverse]
          have hw := wayF_len l.length n 0 l.length (by omega)
          have hw2 : (way l.length n).length ≤ l.length := hw
          simp only [laws_FnPathProves.j0]
          rw [if_neg (by simp), if_pos trivial]
          refine bs (impl_pathLen (by omega) _ _) ?_
          rw [hpl, hP, if_pos rfl]
          refine bs (spec_pathLen (by omega) _ _) ?_
          rw [hpl, bne_self_eq_false]
          simp only [laws_FnPathProves.j1]
          rw [if_neg (by simp), if_pos (by omega), if_pos (by omega), rdOf_nat hn]
          have ht := path_proves cl n hn
          have er : impl_PathRoot.f k (l.length : Int) (n : Int) l[n] ((way l.length n).reverse.map (sib l n)) = some ((root l).1, (root l).2.1, (root l).2.2.1, (root l).2.2.2, true) := by
            rw [impl_pathRoot (by omega) _ _ _ _ (by omega), ht]
          refine bs er ?_
          dsimp only
          rw [if_pos rfl]
          refine bs (treeRoot_impl3 (by omega) cl) ?_
          rw [if_pos (by simp)]
          refine bs (treeRoot_spec3 (by omega) cl) ?_
          rw [if_pos (by simp)]
          refine bs (treePoint_impl3 (by omega) cl) ?_
          unfold impl_PathCheck.f
          refine bs (v := true) (bs er ?_) rfl
          dsimp only
          rw [if_pos rfl]
          simp
    · rw [if_neg cl]
      exact hbad (fun h => cl h.1)
theorem FnPathProves (y0 : List Int) (h : y0.length ≤ 9223372036854775807 ∧ ∀ y_ ∈ y0, (Lit.int .u8 y_).wf = true) : ∃ k, laws_FnPathProves.f k y0 = some true := ⟨1099511627781 + 2, proves_at _ (by omega) y0 fun x hx => by
    have := h.2 x hx
    simp [Lit.wf, IntKind.min, IntKind.max, IntKind.signed, IntKind.bits] at this
    omega⟩
end Go.Proofs.Ytemfciflhbhobaa.Pure
