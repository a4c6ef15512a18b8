/- GrowthCheck as a plain function: the program's and the reference's come to it. Condition: proofs of fewer than 2^40 digests. -/
import Derived.Test.YtflckegggopdnaaQKnown
import Derived.Test.YtflckegggopdnaaQPeaks
import Derived.Test.YtflckegggopdnaaFImplGrowthCheck
import Derived.Test.YtflckegggopdnaaFSpecGrowthCheck
namespace Go.Proofs.Ytflckegggopdnaa.Q
open Go.RowKit Go.Proofs.Ytflckegggopdnaa.B Go.Proofs.YtflckegggopdnaaW.PrintWords Go.Proofs.YtflckegggopdnaaW.PrintLast Go.Proofs.YtflckegggopdnaaW.PrintMore
set_option linter.unusedVariables false
set_option linter.unusedSimpArgs false
/-- Whether two digests differ. -/
def nd (a b : D4) : Bool := !(a.1 == b.1) || (!(a.2.1 == b.2.1) || (!(a.2.2.1 == b.2.2.1) || (!(a.2.2.2 == b.2.2.2))))
theorem nd_iff (a b : D4) : nd a b = true ↔ a ≠ b := by
  obtain ⟨a1, a2, a3, a4⟩ := a
  obtain ⟨b1, b2, b3, b4⟩ := b
  simp only [nd, Bool.or_eq_true, Bool.not_eq_true', beq_eq_false_iff_ne, ne_eq, Prod.mk.injEq]
  constructor
  · rintro h ⟨rfl, rfl, rfl, rfl⟩
    simp at h
  · intro h
    by_cases h1 : a1 = b1
    · by_cases h2 : a2 = b2
      · by_cases h3 : a3 = b3
        · exact .inr (.inr (.inr fun h4 => h ⟨h1, h2, h3, h4⟩))
        · exact .inr (.inr (.inl h3))
      · exact .inr (.inl h2)
    · exact .inl h1
theorem nd_comm (a b : D4) : nd a b = nd b a := by
  by_cases h : a = b
  · rw [h]
  · rw [(nd_iff a b).2 h, (nd_iff b a).2 (fun e => h e.symm)]
theorem nd_self (a : D4) : nd a a = false := by
  cases h : nd a a
  · rfl
  · exact absurd rfl ((nd_iff a a).1 h)
/-- What the tree of n leaves has at its root by a proof. -/
def digRoot (m n : Nat) (P : List SD) : D4 := digF n 0 n m (given m n P)
/-- What GrowthCheck tells. -/
def gcheck (m n : Int) (a b : D4) (P : List SD) : Int :=
  if 0 ≤ m ∧ m ≤ n ∧ n ≤ 256 then
    if (P.length : Int) = growLen m n then
      if m = 0 then (if nd a (hashOf (⟨#[]⟩ : ByteArray)) = true then 3 else if n = 0 ∧ nd a b = true then 4 else 0)
      else if m = n then (if nd a b = true then 4 else 0)
      else if nd (peaksRoot (P.take (popc m.toNat))) a = true then 3 else if nd (digRoot m.toNat n.toNat P) b = true then 4 else 0
    else 2
  else 1
theorem mayGrow (m n : Int) : impl_mayGrow.f m n = some (decide (0 ≤ m ∧ m ≤ n ∧ n ≤ 256)) := by
  unfold impl_mayGrow.f
  refine bsk impl_in ?_
  by_cases h : 0 ≤ n ∧ n ≤ 256
  · rw [if_pos (by simpa using h)]
    refine bsk impl_in ?_
    refine congrArg some (decide_eq_decide.2 ?_)
    omega
  · rw [if_neg (by simpa using h)]
    refine congrArg some (decide_eq_false ?_).symm
    omega
theorem sizesOk (m n : Int) : spec_l3Sizes.f m n = some (decide (0 ≤ m ∧ m ≤ n ∧ n ≤ 256)) := by
  unfold spec_l3Sizes.f
  refine bsk spec_in ?_
  by_cases h : 0 ≤ m ∧ m ≤ n
  · rw [if_pos (by simpa using h)]
    refine congrArg some (decide_eq_decide.2 ?_)
    omega
  · rw [if_neg (by simpa using h)]
    refine congrArg some (decide_eq_false ?_).symm
    omega
theorem growLen_in {m n : Nat} (h0 : 0 < m) (h1 : m < n) (h : n ≤ 256) : growLen (m : Int) (n : Int) = (((gnodes m n).length : Nat) : Int) := by
  unfold growLen gnodes
  rw [if_pos (by omega), if_neg (by omega), Int.toNat_natCast, Int.toNat_natCast, List.length_append]
theorem popc_old {m n : Nat} (h0 : 0 < m) (h1 : m < n) (h : n ≤ 256) : popc m ≤ (gnodes m n).length := by
  have := fall_old n 0 n m (by omega) h h0 h1
  rw [Nat.sub_zero] at this
  unfold gnodes grow
  rw [List.length_append, this]
  exact Nat.le_add_right _ _
theorem impl_gcheck1 {k : Nat} (hk : 60000 < k) {m n : Nat} (h0 : 0 < m) (h1 : m < n) (h : n ≤ 256) (a b : D4) {P : List SD} (hP : P.length = (gnodes m n).length) (x : Bool) :
    impl_GrowthCheck.j1 (k + 1) P (m : Int) (n : Int) true x (m : Int) a.1 a.2.1 a.2.2.1 a.2.2.2 (n : Int) b.1 b.2.1 b.2.2.1 b.2.2.2 = some (if x = true then 3 else if nd (digRoot m n P) b = true then 4 else 0) := by
  rw [impl_GrowthCheck.j1]
  cases x with
  | true => rw [if_pos rfl, if_pos rfl]
  | false =>
    rw [if_neg (show ¬ false = true by simp), if_neg (show ¬ ((m : Int) = (n : Int)) by omega), if_pos rfl, if_neg (show ¬ false = true by simp)]
    refine bsk (impl_known (by omega) (by omega) h hP) ?_
    have := impl_digestBy n (m := m) (by omega) h hP k 0 n (by omega) (by omega) (Nat.le_refl _) (within_all m n) (by omega)
    refine bsk this ?_
    show (if nd (digRoot m n P) b = true then _ else _) = _
    by_cases c : nd (digRoot m n P) b = true
    · rw [if_pos c, if_pos c]
    · rw [if_neg c, if_neg c]
theorem impl_gcheck {k : Nat} (hk : 60000 < k) (m n : Int) (a b : D4) {P : List SD} (hm : P.length < 1099511627776) :
    impl_GrowthCheck.f (k + 2) m a.1 a.2.1 a.2.2.1 a.2.2.2 n b.1 b.2.1 b.2.2.1 b.2.2.2 P = some (gcheck m n a b P) := by
  have e : impl_GrowthCheck.f (k + 2) m a.1 a.2.1 a.2.2.1 a.2.2.2 n b.1 b.2.1 b.2.2.1 b.2.2.2 P = impl_GrowthCheck.j0 (k + 2) P m n (decide (0 < m ∧ m < n)) m a.1 a.2.1 a.2.2.1 a.2.2.2 n b.1 b.2.1 b.2.2.1 b.2.2.2 := by
    unfold impl_GrowthCheck.f
    by_cases c : m > 0
    · rw [if_pos c]
      refine congrArg (fun x => impl_GrowthCheck.j0 (k + 2) P m n x m a.1 a.2.1 a.2.2.1 a.2.2.2 n b.1 b.2.1 b.2.2.1 b.2.2.2) (decide_eq_decide.2 ?_)
      omega
    · rw [if_neg c]
      refine congrArg (fun x => impl_GrowthCheck.j0 (k + 2) P m n x m a.1 a.2.1 a.2.2.1 a.2.2.2 n b.1 b.2.1 b.2.2.1 b.2.2.2) (decide_eq_false ?_).symm
      omega
  rw [e]
  unfold gcheck
  rw [impl_GrowthCheck.j0]
  refine bsk (mayGrow m n) ?_
  by_cases c : 0 ≤ m ∧ m ≤ n ∧ n ≤ 256
  · rw [if_pos (by simpa using c), if_pos c]
    refine bsk (impl_growLen (by omega) m n) ?_
    by_cases c1 : (P.length : Int) = growLen m n
    · rw [if_pos c1, if_pos c1]
      by_cases c2 : m = 0
      · rw [if_pos c2, if_pos c2]
        refine bsk (impl_hash (by omega) _) ?_
        show (if nd a (hashOf (⟨#[]⟩ : ByteArray)) = true then _ else _) = _
        by_cases c3 : nd a (hashOf (⟨#[]⟩ : ByteArray)) = true
        · rw [if_pos c3, if_pos c3]
          rw [impl_GrowthCheck.j1]
          rw [if_pos rfl]
        · rw [if_neg c3, if_neg c3, if_neg (by simp; omega)]
          rw [impl_GrowthCheck.j1]
          rw [if_neg (by simp)]
          by_cases c4 : n = 0
          · rw [if_pos (by omega)]
            show (if nd a b = true then _ else _) = _
            by_cases c5 : nd a b = true
            · rw [if_pos c5, if_pos ⟨c4, c5⟩]
            · rw [if_neg c5, if_neg (by simp; omega), if_neg (fun hh => c5 hh.2)]
          · rw [if_neg (by omega), if_neg (by simp; omega), if_neg (fun hh => c4 hh.1)]
      · rw [if_neg c2, if_neg c2]
        by_cases c3 : m = n
        · rw [if_neg (by simp; omega), if_pos c3]
          rw [impl_GrowthCheck.j1]
          rw [if_neg (by simp), if_pos c3]
          show (if nd a b = true then _ else _) = _
          by_cases c5 : nd a b = true
          · rw [if_pos c5, if_pos c5]
          · rw [if_neg c5, if_neg (by simp; omega), if_neg c5]
        · rw [if_pos (by simp; omega), if_neg c3]
          obtain ⟨m, rfl⟩ : ∃ q : Nat, m = (q : Int) := ⟨m.toNat, by omega⟩
          obtain ⟨n, rfl⟩ : ∃ q : Nat, n = (q : Int) := ⟨n.toNat, by omega⟩
          have hmn : m < n := by omega
          rw [growLen_in (by omega) hmn (by omega)] at c1
          have hP : P.length = (gnodes m n).length := by omega
          have hp := popc_old (m := m) (n := n) (by omega) hmn (by omega)
          refine bsk (impl_count (by omega)) ?_
          rw [if_pos (Int.natCast_nonneg _), if_pos (Int.ofNat_le.2 (by rw [hP]; exact hp)), Int.toNat_natCast, Int.toNat_natCast, Int.toNat_natCast]
          refine bsk (impl_proot (by omega) _ (by rw [List.length_take]; omega)) ?_
          rw [decide_eq_true (show 0 < (m : Int) ∧ (m : Int) < (n : Int) by omega)]
          exact impl_gcheck1 (by omega) (by omega) hmn (by omega) a b hP _
    · rw [if_neg c1, if_neg c1]
  · rw [if_neg (by simpa using c), if_neg c]
theorem spec_gcheck {k : Nat} (hk : 60000 < k) (m n : Int) (a b : D4) {P : List SD} (hm : P.length < 1099511627776) :
    spec_GrowthCheck.f (k + 1) m a.1 a.2.1 a.2.2.1 a.2.2.2 n b.1 b.2.1 b.2.2.1 b.2.2.2 P = some (gcheck m n a b P) := by
  unfold spec_GrowthCheck.f gcheck
  refine bsk (sizesOk m n) ?_
  by_cases c : 0 ≤ m ∧ m ≤ n ∧ n ≤ 256
  · rw [if_pos (by simpa using c), if_pos c]
    refine bsk (spec_growLen (by omega) m n) ?_
    by_cases c1 : (P.length : Int) = growLen m n
    · rw [if_pos c1, if_pos c1]
      by_cases c2 : m = 0
      · rw [if_pos c2, if_pos c2]
        refine bsk (spec_hash (by omega) _) ?_
        show spec_GrowthCheck.j0 (k + 1) P m n (nd a (hashOf (⟨#[]⟩ : ByteArray))) m a.1 a.2.1 a.2.2.1 a.2.2.2 n b.1 b.2.1 b.2.2.1 b.2.2.2 = _
        rw [spec_GrowthCheck.j0]
        by_cases c3 : nd a (hashOf (⟨#[]⟩ : ByteArray)) = true
        · rw [if_pos c3, if_pos c3]
        · rw [if_neg c3, if_neg c3]
          by_cases c4 : n = 0
          · rw [if_pos (by omega)]
            show (if nd b a = true then _ else _) = _
            rw [nd_comm b a]
            by_cases c5 : nd a b = true
            · rw [if_pos c5, if_pos ⟨c4, c5⟩]
            · rw [if_neg c5, if_neg (fun hh => c5 hh.2)]
          · rw [if_neg (by omega), if_pos c2, if_neg (fun hh => c4 hh.1)]
      · rw [if_neg c2, if_neg c2]
        rw [spec_GrowthCheck.j0]
        rw [if_neg (by simp)]
        by_cases c3 : m = n
        · rw [if_pos c3, if_pos c3]
          show (if nd b a = true then _ else _) = _
          rw [nd_comm b a]
          by_cases c5 : nd a b = true
          · rw [if_pos c5, if_pos c5]
          · rw [if_neg c5, if_neg c5]
        · rw [if_neg c3, if_neg c3, if_neg c2]
          obtain ⟨m, rfl⟩ : ∃ q : Nat, m = (q : Int) := ⟨m.toNat, by omega⟩
          obtain ⟨n, rfl⟩ : ∃ q : Nat, n = (q : Int) := ⟨n.toNat, by omega⟩
          have hmn : m < n := by omega
          rw [growLen_in (by omega) hmn (by omega)] at c1
          have hP : P.length = (gnodes m n).length := by omega
          have hp := popc_old (m := m) (n := n) (by omega) hmn (by omega)
          refine bsk (spec_count (by omega) (by omega)) ?_
          rw [if_pos (Int.natCast_nonneg _), if_pos (Int.ofNat_le.2 (by rw [hP]; exact hp)), Int.toNat_natCast, Int.toNat_natCast, Int.toNat_natCast]
          refine bsk (spec_proot (by omega) _ (by rw [List.length_take]; omega)) ?_
          show (if nd (peaksRoot (P.take (popc m))) a = true then _ else _) = _
          by_cases c5 : nd (peaksRoot (P.take (popc m))) a = true
          · rw [if_pos c5, if_pos c5]
          · rw [if_neg c5, if_neg c5]
            have := spec_node n (m := m) (by omega) hmn (by omega) hP k 0 n (by omega) (by omega) (Nat.le_refl _) (within_all m n) (by omega)
            refine bsk this ?_
            show (if nd (digRoot m n P) b = true then _ else _) = _
            by_cases c6 : nd (digRoot m n P) b = true
            · rw [if_pos c6, if_pos c6]
            · rw [if_neg c6, if_neg c6]
    · rw [if_neg c1, if_neg c1]
  · rw [if_neg (by simpa using c), if_neg c]
end Go.Proofs.Ytflckegggopdnaa.Q
