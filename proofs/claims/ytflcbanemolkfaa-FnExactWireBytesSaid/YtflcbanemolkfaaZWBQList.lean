/- The laws' own copies of lists, and the comparisons of them: a copy is the list itself, and equal lists are told equal. Conditions: lists of fewer than 2^40 elements. -/
import Derived.Test.YtflcbanemolkfaaZWBQIn
import Derived.Test.YtflcbanemolkfaaZWBGLawD1
namespace Go.Proofs.Ytflcbanemolkfaa.Q
open Go.RowKit Go.Proofs.Ytflcbanemolkfaa.B Go.Proofs.YtflcbanemolkfaaW.PrintWords Go.Proofs.YtflcbanemolkfaaW.PrintLast Go.Proofs.YtflcbanemolkfaaW.PrintMore
abbrev SD := S26
abbrev LD := S24
theorem step64 {i : Nat} (h : i < 4611686018427387904) : wrap64 ((i : Int) + 1) = ((i + 1 : Nat) : Int) := by unfold wrap64; omega
theorem set_step {α β : Type} (l : List α) (f : α → β) (z : β) (i : Nat) (h : i < l.length) : ((l.take i).map f ++ List.replicate (l.length - i) z).set i (f l[i]) = (l.take (i + 1)).map f ++ List.replicate (l.length - (i + 1)) z := by
  rw [List.set_append_right _ _ (by simp; omega)]
  have e1 : i - ((l.take i).map f).length = 0 := by simp; omega
  have e2 : l.length - i = (l.length - (i + 1)) + 1 := by omega
  rw [e1, e2, List.replicate_succ, List.set_cons_zero, List.take_succ_eq_append_getElem h, List.map_append, List.append_assoc]
  rfl
theorem rdOf_nat {l : List ByteArray} {i : Nat} (h : i < l.length) : rdOf ByteArray.empty l (i : Int) = l[i] := by simp [rdOf, List.getD, List.getElem?_eq_getElem h]
def conv (d : LD) : SD := ⟨d.f0, d.f1, d.f2, d.f3⟩
theorem toDigs_l (n : Nat) : ∀ (k : Nat) (l : List LD) (i : Nat), l.length = i + n → n < k → l.length < 1099511627776 →
    laws_toDigestS.l0 k l ((l.take i).map conv ++ List.replicate (l.length - i) z26) (i : Int) = some (l.map conv) := by
  induction n with
  | zero =>
    intro k l i hl hk hm
    obtain ⟨k, rfl⟩ : ∃ m, k = m + 1 := ⟨k - 1, by omega⟩
    simp only [laws_toDigestS.l0]
    rw [if_neg (by omega), show l.length - i = 0 by omega, List.take_of_length_le (by omega)]
    simp
  | succ n ih =>
    intro k l i hl hk hm
    obtain ⟨k, rfl⟩ : ∃ m, k = m + 1 := ⟨k - 1, by omega⟩
    have hi : i < l.length := by omega
    simp only [laws_toDigestS.l0]
    unfold laws_toDigest.f
    rw [if_pos (by omega), if_pos (by omega)]
    simp only [Option.bind_some]
    have e : rd_T24 l (i : Int) = l[i] := by simp [rd_T24, List.getD, List.getElem?_eq_getElem hi]
    rw [if_pos (by simp; omega), e, show ((i : Nat) : Int).toNat = i from rfl, show (⟨l[i].f0, l[i].f1, l[i].f2, l[i].f3⟩ : SD) = conv l[i] from rfl, set_step l conv _ i hi, step64 (by omega), ih k l (i + 1) (by omega) (by omega) hm]
theorem toDigs {k : Nat} (l : List LD) (hk : l.length < k) (hm : l.length < 1099511627776) : laws_toDigestS.f k l = some (l.map conv) := by
  unfold laws_toDigestS.f
  rw [if_pos (by omega), if_pos (by simp; omega)]
  have := toDigs_l l.length k l 0 (by omega) hk hm
  simpa using this
theorem eqDigs_l (n : Nat) : ∀ (k : Nat) (l : List SD) (i : Nat), l.length = i + n → n < k → l.length < 1099511627776 → laws_eqDigestS.l0 k l l (i : Int) = some true := by
  induction n with
  | zero =>
    intro k l i hl hk hm
    obtain ⟨k, rfl⟩ : ∃ m, k = m + 1 := ⟨k - 1, by omega⟩
    simp only [laws_eqDigestS.l0]
    rw [if_neg (by omega)]
  | succ n ih =>
    intro k l i hl hk hm
    obtain ⟨k, rfl⟩ : ∃ m, k = m + 1 := ⟨k - 1, by omega⟩
    simp only [laws_eqDigestS.l0]
    unfold laws_eqDigest.f
    rw [if_pos (by omega), if_pos (by omega), if_pos (by omega)]
    simp only [if_true, Option.bind_some]
    rw [step64 (by omega), ih k l (i + 1) (by omega) (by omega) hm]
theorem eqDigs {k : Nat} (l : List SD) (hk : l.length < k) (hm : l.length < 1099511627776) : laws_eqDigestS.f k l l = some true := by
  unfold laws_eqDigestS.f
  rw [if_pos rfl]
  exact eqDigs_l l.length k l 0 (by omega) hk hm
theorem szDigs (l : List LD) (left : Int) (hl : l.length ≤ 9223372036854775807) (h0 : 0 ≤ left) (h1 : left ≤ 1048576) :
    ∃ r, laws_szDigestS.f l left = some r ∧ (r < 0 ∨ (0 ≤ r ∧ r ≤ left ∧ l.length ≤ 1048576)) := by
  unfold laws_szDigestS.f
  rw [w64 (by omega) (by omega)]
  by_cases h : left - (l.length : Int) < 0
  · rw [if_pos h]
    exact ⟨-1, rfl, .inl (by omega)⟩
  · rw [if_neg h]
    exact ⟨_, rfl, .inr (by omega)⟩
end Go.Proofs.Ytflcbanemolkfaa.Q
