/- The laws' marking of a list of digests and the look whether the marks still stand: they do, and the look tells the same number. Condition: fewer than 2^40 digests. -/
import Derived.Test.YtemfciflhbhobaaQList
import Derived.Test.YtemfciflhbhobaaGLawMD1
namespace Go.Proofs.Ytemfciflhbhobaa.Q
open Go.RowKit Go.Proofs.Ytemfciflhbhobaa.B Go.Proofs.YtemfciflhbhobaaW.PrintWords Go.Proofs.YtemfciflhbhobaaW.PrintLast Go.Proofs.YtemfciflhbhobaaW.PrintMore
theorem rdS_nat {l : List SD} {i : Nat} (h : i < l.length) : rd_T29 l (i : Int) = l[i] := by simp [rd_T29, List.getD, List.getElem?_eq_getElem h]
theorem rdS_set {l : List SD} {i : Nat} (h : i < l.length) (v : SD) : rd_T29 (l.set i v) (i : Int) = v := by
  rw [rdS_nat (by simpa using h)]
  simp
/-- The mark of a digest: four numbers from a on. -/
def mkD (a : Int) : SD := ⟨IntKind.u64.wrap a, IntKind.u64.wrap (a + 1), IntKind.u64.wrap (a + 1 + 1), IntKind.u64.wrap (a + 1 + 1 + 1)⟩
theorem w1 {a : Int} (h0 : 0 ≤ a) (h1 : a < 9223372036854775807) : wrap64 (a + 1) = a + 1 := by unfold wrap64; omega
theorem markDigs_l (n : Nat) : ∀ (k : Nat) (l : List SD) (i : Nat) (a : Int), l.length = i + n → n < k → l.length < 1099511627776 → 0 ≤ a → a + 4 * n < 4611686018427387904 →
    ∃ l', laws_markDigestS.l0 k l a (i : Int) = some (a + 4 * n, l') ∧ l'.length = l.length ∧ (∀ j, j < i → l'[j]? = l[j]?) ∧ ∀ j, j < n → l'[i + j]? = some (mkD (a + 4 * j)) := by
  induction n with
  | zero =>
    intro k l i a hl hk hm h0 h1
    obtain ⟨k, rfl⟩ : ∃ m, k = m + 1 := ⟨k - 1, by omega⟩
    simp only [laws_markDigestS.l0]
    rw [if_neg (by omega)]
    exact ⟨l, by simp, rfl, fun _ _ => rfl, fun j hj => by omega⟩
  | succ n ih =>
    intro k l i a hl hk hm h0 h1
    obtain ⟨k, rfl⟩ : ∃ m, k = m + 1 := ⟨k - 1, by omega⟩
    have hi : i < l.length := by omega
    obtain ⟨l', e, h2, h3, h4⟩ := ih k (l.set i (mkD a)) (i + 1) (a + 1 + 1 + 1 + 1) (by simp; omega) (by omega) (by simpa using hm) (by omega) (by omega)
    refine ⟨l', ?_, by simpa using h2, fun j hj => ?_, fun j hj => ?_⟩
    · simp only [laws_markDigestS.l0, Option.bind_some]
      rw [if_pos (by omega), if_pos (by omega), show ((i : Nat) : Int).toNat = i from rfl, w1 h0 (by omega), w1 (by omega : 0 ≤ a + 1) (by omega), w1 (by omega : 0 ≤ a + 1 + 1) (by omega), w1 (by omega : 0 ≤ a + 1 + 1 + 1) (by omega), step64 (by omega)]
      simp only [rdS_set hi, List.set_set]
      rw [show (⟨IntKind.u64.wrap a, IntKind.u64.wrap (a + 1), IntKind.u64.wrap (a + 1 + 1), IntKind.u64.wrap (a + 1 + 1 + 1)⟩ : SD) = mkD a from rfl, e]
      refine congrArg some (Prod.ext ?_ rfl)
      show a + 1 + 1 + 1 + 1 + 4 * (n : Int) = a + 4 * ((n + 1 : Nat) : Int)
      omega
    · rw [h3 j (by omega), List.getElem?_set_ne (by omega)]
    · cases j with
      | zero =>
        rw [Nat.add_zero, h3 i (by omega), List.getElem?_set_self hi]
        simp
      | succ j =>
        rw [show i + (j + 1) = i + 1 + j by omega, h4 j (by omega)]
        refine congrArg some ?_
        rw [show a + 1 + 1 + 1 + 1 + 4 * (j : Int) = a + 4 * ((j + 1 : Nat) : Int) by omega]
theorem heldDigs_l (n : Nat) : ∀ (k : Nat) (l : List SD) (i : Nat) (a : Int), l.length = i + n → n < k → l.length < 1099511627776 → 0 ≤ a → a + 4 * n < 4611686018427387904 →
    (∀ j, j < n → l[i + j]? = some (mkD (a + 4 * j))) → laws_heldDigestS.l0 k l a (i : Int) = some (a + 4 * n) := by
  induction n with
  | zero =>
    intro k l i a hl hk hm h0 h1 _
    obtain ⟨k, rfl⟩ : ∃ m, k = m + 1 := ⟨k - 1, by omega⟩
    simp only [laws_heldDigestS.l0]
    rw [if_neg (by omega)]
    simp
  | succ n ih =>
    intro k l i a hl hk hm h0 h1 hj
    obtain ⟨k, rfl⟩ : ∃ m, k = m + 1 := ⟨k - 1, by omega⟩
    have hi : i < l.length := by omega
    have e := hj 0 (by omega)
    rw [Nat.add_zero, List.getElem?_eq_getElem hi] at e
    have e := Option.some.inj e
    simp only [Int.natCast_zero, Int.mul_zero, Int.add_zero] at e
    have e2 := ih k l (i + 1) (a + 1 + 1 + 1 + 1) (by omega) (by omega) hm (by omega) (by omega) (fun j hjn => by
      have := hj (j + 1) (by omega)
      rw [show i + (j + 1) = i + 1 + j by omega] at this
      rw [this]
      refine congrArg some ?_
      rw [show a + 1 + 1 + 1 + 1 + 4 * (j : Int) = a + 4 * ((j + 1 : Nat) : Int) by omega])
    simp only [laws_heldDigestS.l0]
    rw [if_pos (by omega), if_pos (by omega), rdS_nat hi, e, w1 h0 (by omega), w1 (by omega : 0 ≤ a + 1) (by omega), w1 (by omega : 0 ≤ a + 1 + 1) (by omega), w1 (by omega : 0 ≤ a + 1 + 1 + 1) (by omega), step64 (by omega)]
    rw [if_pos (show (mkD a).f0 = IntKind.u64.wrap a from rfl), if_pos (show (mkD a).f1 = IntKind.u64.wrap (a + 1) from rfl), if_pos (show (mkD a).f2 = IntKind.u64.wrap (a + 1 + 1) from rfl), if_pos (show (mkD a).f3 = IntKind.u64.wrap (a + 1 + 1 + 1) from rfl), e2]
    refine congrArg some ?_
    omega
/-- A list of digests marked from 1 on: the marks stand. -/
theorem markDigs {k : Nat} (l : List SD) (hk : l.length < k) (hm : l.length < 1099511627776) : ∃ r : Int × List SD, laws_markDigestS.f k l 1 = some r ∧ laws_heldDigestS.f k r.2 1 = some r.1 ∧ ¬ r.1 < 0 := by
  obtain ⟨l', e, h2, _, h4⟩ := markDigs_l l.length k l 0 1 (by omega) hk hm (by omega) (by omega)
  refine ⟨_, e, ?_, ?_⟩
  · have := heldDigs_l l.length k l' 0 1 (by omega) hk (by omega) (by omega) (by omega) h4
    exact this
  · show ¬ (1 + 4 * (l.length : Int)) < 0
    omega
/-- The same, and the look again with a round less. -/
theorem markDigs2 {k : Nat} (l : List SD) (hk : l.length < k) (hm : l.length < 1099511627776) : ∃ r : Int × List SD, laws_markDigestS.f (k + 1) l 1 = some r ∧ laws_heldDigestS.f (k + 1) r.2 1 = some r.1 ∧ laws_heldDigestS.f k r.2 1 = some r.1 ∧ ¬ r.1 < 0 := by
  obtain ⟨l', e, h2, _, h4⟩ := markDigs_l l.length (k + 1) l 0 1 (by omega) (by omega) hm (by omega) (by omega)
  refine ⟨_, e, ?_, ?_, ?_⟩
  · exact heldDigs_l l.length (k + 1) l' 0 1 (by omega) (by omega) (by omega) (by omega) (by omega) h4
  · exact heldDigs_l l.length k l' 0 1 (by omega) hk (by omega) (by omega) (by omega) h4
  · show ¬ (1 + 4 * (l.length : Int)) < 0
    omega
end Go.Proofs.Ytemfciflhbhobaa.Q
