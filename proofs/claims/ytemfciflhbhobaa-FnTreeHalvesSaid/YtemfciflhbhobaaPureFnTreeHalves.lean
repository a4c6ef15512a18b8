/- The root of a drawn tree is the pair of its halves' roots: the plain law behind FnTreeHalves. No condition. -/
import Derived.Test.YtemfciflhbhobaaFLawsFnTreeHalves
import Derived.Test.YtemfciflhbhobaaOpenK
import Derived.Test.YtemfciflhbhobaaQRoots
import Derived.Test.YtemfciflhbhobaaQSome
namespace Go.Proofs.Ytemfciflhbhobaa.Pure
open Go.RowKit Go.Proofs.Ytemfciflhbhobaa.B Go.Proofs.Ytemfciflhbhobaa.Q Go.Proofs.YtemfciflhbhobaaW.PrintWords Go.Proofs.YtemfciflhbhobaaW.PrintLast
set_option linter.unusedVariables false
set_option linter.unusedSimpArgs false
theorem treeRoot_impl {k : Nat} (hk : 40000 < k) {l : List ByteArray} (c : leavesOk l = true) : impl_TreeRoot.f k l = some (root l) := by
  obtain ⟨h2, hz⟩ := leaves_fit c
  unfold impl_TreeRoot.f
  refine bs (impl_leaves l (by omega) (by omega)) ?_
  rw [if_pos c]
  exact bs (impl_root (by omega) h2 hz) rfl
theorem treePoint_impl {k : Nat} (hk : 40000 < k) {l : List ByteArray} (h : l.length ≤ 300) : impl_TreePoint.f k l = some (if leavesOk l = true then ((l.length : Int), root l) else (0, 0, 0, 0, 0)) := by
  unfold impl_TreePoint.f
  refine bs (impl_leaves l (by omega) (by omega)) ?_
  by_cases c : leavesOk l = true
  · obtain ⟨h2, hz⟩ := leaves_fit c
    rw [if_pos c, if_pos c]
    exact bs (impl_root (by omega) h2 hz) rfl
  · rw [if_neg c, if_neg c]
theorem treePoint_spec {k : Nat} (hk : 40000 < k) {l : List ByteArray} (h : l.length ≤ 300) : spec_TreePoint.f k l = some (if leavesOk l = true then ((l.length : Int), root l) else (0, 0, 0, 0, 0)) := by
  unfold spec_TreePoint.f
  refine bs (spec_leaves l (by omega) (by omega)) ?_
  by_cases c : leavesOk l = true
  · obtain ⟨h2, hz⟩ := leaves_fit c
    rw [if_pos c, if_pos c]
    exact bs (spec_root (by omega) h2 hz) rfl
  · rw [if_neg c, if_neg c]
theorem lo_take {l : List ByteArray} (c : leavesOk l = true) (n : Nat) : leavesOk (l.take n) = true := by
  simp only [leavesOk, Bool.and_eq_true, decide_eq_true_eq, List.all_eq_true] at c ⊢
  exact ⟨by rw [List.length_take]; omega, fun s hs => c.2 s (List.mem_of_mem_take hs)⟩
theorem lo_drop {l : List ByteArray} (c : leavesOk l = true) (n : Nat) : leavesOk (l.drop n) = true := by
  simp only [leavesOk, Bool.and_eq_true, decide_eq_true_eq, List.all_eq_true] at c ⊢
  exact ⟨by rw [List.length_drop]; omega, fun s hs => c.2 s (List.mem_of_mem_drop hs)⟩
theorem halves_at (k : Nat) (hk : 100000 < k) (c : List Int) (hc : Bytes8 c) : laws_FnTreeHalves.f (k + 2) c = some true := by
  unfold laws_FnTreeHalves.f
  by_cases h0 : (c.length : Int) > 1048576
  · rw [if_pos h0]
  · rw [if_neg h0]
    obtain ⟨b, e1, hr⟩ := open_ok c hc
    obtain ⟨l, q, e2, hl, hs, _, _⟩ := some_ok (k := k + 2) (by omega) hr (by omega)
    have e3 : spec_DrawTreeRoot.f (k + 2) c = some l := by
      unfold spec_DrawTreeRoot.f spec_l2Open.f
      exact bs e1 (bs e2 rfl)
    refine bs e3 (bs (spec_leaves l (by omega) (by omega)) ?_)
    have eqs : ∀ v : Int × D4, (some (v.1 == v.1 && ((v.2.1 == v.2.1 && (v.2.2.1 == v.2.2.1 && (v.2.2.2.1 == v.2.2.2.1 && (v.2.2.2.2 == v.2.2.2.2)))))) : Option Bool) = some true := by intro v; simp
    by_cases cl : leavesOk l = true
    · rw [if_pos cl]
      obtain ⟨h2, hz⟩ := leaves_fit cl
      by_cases hn : (l.length : Int) < 2
      · rw [decide_eq_true hn]
        simp only [laws_FnTreeHalves.j0]
        rw [if_pos trivial]
        exact bs (treePoint_impl (by omega) hl) (bs (treePoint_spec (by omega) hl) (eqs _))
      · rw [decide_eq_false hn]
        have hsp := spl_lt (n := l.length) (by omega) h2
        simp only [laws_FnTreeHalves.j0]
        rw [if_neg (by simp)]
        refine bs (impl_split (by omega) (by omega) h2) (bs (spec_split (by omega) (by omega) h2) ?_)
        rw [if_pos rfl, if_neg (by omega), if_neg (by omega)]
        refine bs (treeRoot_impl (by omega) cl) ?_
        rw [if_pos (by omega), if_pos (by omega), Int.toNat_natCast]
        refine bs (treeRoot_impl (by omega) (lo_take cl _)) (bs (treeRoot_impl (by omega) (lo_drop cl _)) (bs (impl_pair (by omega) _ _ _ _ _ _ _ _) ?_))
        have er := root_split (l := l) (by omega) h2
        have eb : (!((root l).1 == (hashPair (root (l.take (spl l.length))) (root (l.drop (spl l.length)))).1) || (!((root l).2.1 == (hashPair (root (l.take (spl l.length))) (root (l.drop (spl l.length)))).2.1) || (!((root l).2.2.1 == (hashPair (root (l.take (spl l.length))) (root (l.drop (spl l.length)))).2.2.1) || (!((root l).2.2.2 == (hashPair (root (l.take (spl l.length))) (root (l.drop (spl l.length)))).2.2.2))))) = false := by
          rw [← er]; simp
        refine (congrArg (laws_FnTreeHalves.j1 (k + 1) l) eb).trans ?_
        simp only [laws_FnTreeHalves.j1]
        rw [if_neg (by simp)]
        refine bs (treePoint_impl (by omega) hl) ?_
        rw [if_pos cl, if_pos rfl]
        refine bs (treeRoot_impl (by omega) cl) ?_
        simp
    · rw [if_neg cl]
      simp only [laws_FnTreeHalves.j0]
      rw [if_pos trivial]
      exact bs (treePoint_impl (by omega) hl) (bs (treePoint_spec (by omega) hl) (eqs _))
theorem FnTreeHalves (y0 : List Int) (h : y0.length ≤ 9223372036854775807 ∧ ∀ y_ ∈ y0, (Lit.int .u8 y_).wf = true) : ∃ k, laws_FnTreeHalves.f k y0 = some true := ⟨100001 + 2, halves_at _ (by omega) y0 fun x hx => by
    have := h.2 x hx
    simp [Lit.wf, IntKind.min, IntKind.max, IntKind.signed, IntKind.bits] at this
    omega⟩
end Go.Proofs.Ytemfciflhbhobaa.Pure
