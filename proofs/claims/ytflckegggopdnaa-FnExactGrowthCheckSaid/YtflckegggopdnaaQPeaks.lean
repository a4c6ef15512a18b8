/- PeaksRoot as a plain function: the program's and the reference's come to it. No condition. -/
import Derived.Test.YtflckegggopdnaaQPair
import Derived.Test.YtflckegggopdnaaQList
import Derived.Test.YtflckegggopdnaaGPeaksR1
namespace Go.Proofs.Ytflckegggopdnaa.Q
open Go.RowKit Go.Proofs.Ytflckegggopdnaa.B Go.Proofs.YtflckegggopdnaaW.PrintWords Go.Proofs.YtflckegggopdnaaW.PrintLast Go.Proofs.YtflckegggopdnaaW.PrintMore
def d4 (d : SD) : D4 := (d.f0, d.f1, d.f2, d.f3)
/-- The root that some peaks make. -/
def proot : List SD → D4
  | [] => hashOf ⟨#[]⟩
  | [p] => d4 p
  | p :: q :: r => hashPair (d4 p) (proot (q :: r))
def peaksRoot (l : List SD) : D4 := if l.length > 8 then (0, 0, 0, 0) else proot l
theorem rdD_nat {l : List SD} {i : Nat} (h : i < l.length) : rd_T29 l (i : Int) = l[i] := by simp [rd_T29, List.getD, List.getElem?_eq_getElem h]
theorem proot_drop {l : List SD} {i : Nat} (h : i + 1 < l.length) : proot (l.drop i) = hashPair (d4 l[i]) (proot (l.drop (i + 1))) := by
  rw [List.drop_eq_getElem_cons (by omega : i < l.length), List.drop_eq_getElem_cons h]
  rfl
theorem impl_proot_l (n : Nat) : ∀ (k : Nat) (l : List SD), l.length = n → n ≤ 8 → 30000 + n < k → impl_PeaksRoot.f k l = some (proot l) := by
  induction n with
  | zero =>
    intro k l hl _ hk
    obtain ⟨k, rfl⟩ : ∃ m, k = m + 1 := ⟨k - 1, by omega⟩
    obtain rfl : l = [] := List.eq_nil_of_length_eq_zero hl
    simp only [impl_PeaksRoot.f]
    rw [if_pos (by simp), impl_hash (by omega)]
    rfl
  | succ n ih =>
    intro k l hl hn hk
    obtain ⟨k, rfl⟩ : ∃ m, k = m + 1 := ⟨k - 1, by omega⟩
    simp only [impl_PeaksRoot.f]
    rw [if_neg (by omega), if_neg (by omega)]
    match l, hl with
    | [p], _ => rfl
    | p :: q :: r, hl =>
      rw [if_neg (by simp; omega), if_pos (by omega), if_pos (by simp; omega), List.drop_one, List.tail_cons, ih k (q :: r) (by simpa using hl) (by omega) (by omega)]
      simp only [Option.bind_some]
      rw [impl_pair (by omega)]
      rfl
theorem impl_proot {k : Nat} (hk : 30010 < k) (l : List SD) (hm : l.length < 1099511627776) : impl_PeaksRoot.f k l = some (peaksRoot l) := by
  unfold peaksRoot
  by_cases h : l.length > 8
  · rw [if_pos h]
    obtain ⟨k, rfl⟩ : ∃ m, k = m + 1 := ⟨k - 1, by omega⟩
    simp only [impl_PeaksRoot.f]
    rw [if_neg (by omega), if_pos (by omega)]
  · rw [if_neg h]
    exact impl_proot_l l.length k l rfl (by omega) (by omega)
theorem spec_proot_l (i : Nat) : ∀ (k : Nat) (l : List SD) (r : D4), i < l.length → l.length ≤ 8 → r = proot (l.drop i) → 30000 + i < k → spec_PeaksRoot.l0 k l ((i : Int) - 1) r.1 r.2.1 r.2.2.1 r.2.2.2 = some (proot l) := by
  induction i with
  | zero =>
    intro k l r hl h8 hr hk
    obtain ⟨k, rfl⟩ : ∃ m, k = m + 1 := ⟨k - 1, by omega⟩
    simp only [spec_PeaksRoot.l0]
    rw [if_neg (by omega)]
    simp only [List.drop_zero] at hr
    rw [← hr]
  | succ i ih =>
    intro k l r hl h8 hr hk
    obtain ⟨k, rfl⟩ : ∃ m, k = m + 1 := ⟨k - 1, by omega⟩
    simp only [spec_PeaksRoot.l0]
    rw [show (((i + 1 : Nat) : Int) - 1) = (i : Int) by omega, if_pos (by omega), if_pos (by omega), if_pos (by omega), rdD_nat (by omega : i < l.length), spec_pair (by omega)]
    simp only [Option.bind_some]
    rw [show wrap64 ((i : Int) - 1) = (i : Int) - 1 by unfold wrap64; omega]
    exact ih k l _ (by omega) h8 (by rw [proot_drop hl, ← hr]; rfl) (by omega)
theorem spec_proot {k : Nat} (hk : 30010 < k) (l : List SD) (hm : l.length < 1099511627776) : spec_PeaksRoot.f k l = some (peaksRoot l) := by
  unfold spec_PeaksRoot.f peaksRoot
  by_cases h : l.length > 8
  · rw [if_pos (by omega), if_pos h]
  · rw [if_neg (by omega), if_neg h]
    by_cases h0 : l.length = 0
    · obtain rfl : l = [] := List.eq_nil_of_length_eq_zero h0
      rw [if_pos (by simp), spec_hash (by omega)]
      rfl
    · rw [if_neg (by omega), show wrap64 ((l.length : Int) - 1) = ((l.length - 1 : Nat) : Int) by unfold wrap64; omega, if_pos (by omega), if_pos (by omega), rdD_nat (by omega), show wrap64 ((l.length : Int) - 2) = ((l.length - 1 : Nat) : Int) - 1 by unfold wrap64; omega]
      exact spec_proot_l (l.length - 1) k l (d4 l[l.length - 1]) (by omega) (by omega) (by
        rw [List.drop_eq_getElem_cons (by omega : l.length - 1 < l.length), List.drop_of_length_le (by omega)]
        rfl) (by omega)
end Go.Proofs.Ytflckegggopdnaa.Q
