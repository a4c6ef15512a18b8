/- PeaksAdd as a plain function; the program's and the reference's come to it; and what it does to the peaks of a list of leaves. No condition but fewer than 2^40 peaks. -/
import Derived.Test.YtemfciflhbhobaaQRoots
import Derived.Test.YtemfciflhbhobaaFImplPeaksAdd
import Derived.Test.YtemfciflhbhobaaFSpecPeaksAdd
namespace Go.Proofs.Ytemfciflhbhobaa.Q
open Go.RowKit Go.Proofs.Ytemfciflhbhobaa.B Go.Proofs.YtemfciflhbhobaaW.PrintWords Go.Proofs.YtemfciflhbhobaaW.PrintLast Go.Proofs.YtemfciflhbhobaaW.PrintMore
set_option linter.unusedVariables false
set_option linter.unusedSimpArgs false
def hpS (a b : SD) : SD := toSD (hashPair (d4 a) (d4 b))
/-- A new right-most run t behind the runs P of a list whose length over the run's is n. -/
def addF : Nat → Nat → List SD → SD → List SD
  | 0, _, P, t => P ++ [t]
  | f + 1, n, P, t => if n % 2 = 1 then addF f (n / 2) P.dropLast (hpS (P.getLastD t) t) else P ++ [t]
theorem addF_len (f : Nat) : ∀ (n : Nat) (P : List SD) (t : SD), (addF f n P t).length ≤ P.length + 1 := by
  induction f with
  | zero => intro n P t; simp [addF]
  | succ f ih =>
    intro n P t
    unfold addF
    by_cases c : n % 2 = 1
    · rw [if_pos c]
      have := ih (n / 2) P.dropLast (hpS (P.getLastD t) t)
      rw [List.length_dropLast] at this
      omega
    · rw [if_neg c]; simp
theorem implAdd_l (f : Nat) : ∀ (k m : Nat) (P : List SD) (t : SD), m < 2 ^ f → m ≤ 255 → P.length = pc f m → P.length ≤ 300 → 40000 + f < k →
    impl_PeaksAdd.l0 k (m : Int) (P ++ [t]) = some (addF f m P t, true) := by
  induction f with
  | zero =>
    intro k m P t hm h0 hP hP2 hk
    obtain ⟨k, rfl⟩ : ∃ q, k = q + 1 := ⟨k - 1, by omega⟩
    obtain rfl : m = 0 := by simpa using hm
    simp only [impl_PeaksAdd.l0, addF]
    rw [if_neg (by decide)]
    exact bs (copiedD (by simp; omega)) rfl
  | succ f ih =>
    intro k m P t hm h0 hP hP2 hk
    obtain ⟨k, rfl⟩ : ∃ q, k = q + 1 := ⟨k - 1, by omega⟩
    simp only [impl_PeaksAdd.l0, addF]
    have et : Int.tmod (m : Int) 2 = ((m % 2 : Nat) : Int) := rfl
    have ed : Int.tdiv (m : Int) 2 = ((m / 2 : Nat) : Int) := rfl
    rw [et]
    by_cases c : m % 2 = 1
    · rw [if_pos (by omega), if_pos c]
      unfold pc at hP
      obtain ⟨R, p, rfl⟩ : ∃ R p, P = R ++ [p] := by
        rcases List.eq_nil_or_concat P with e | ⟨R, p, e⟩
        · subst e; simp at hP; omega
        · exact ⟨R, p, by simpa using e⟩
      simp only [List.length_append, List.length_singleton] at hP hP2
      have hl : ((R ++ [p] ++ [t]).length : Int) = (R.length : Int) + 2 := by rw [List.length_append, List.length_append, List.length_singleton, List.length_singleton]; omega
      have hl2 : (R ++ [p] ++ [t]).length = R.length + 2 := by simp
      rw [hl, show wrap64 ((R.length : Int) + 2 - 2) = (R.length : Int) by unfold wrap64; omega, show wrap64 ((R.length : Int) + 1) = ((R.length + 1 : Nat) : Int) by unfold wrap64; omega]
      rw [if_pos (by omega), if_pos (by omega), if_pos (by omega), if_pos (by omega), if_pos (by omega)]
      simp only [Option.bind_some]
      rw [rdD_nat (show R.length < (R ++ [p] ++ [t]).length by omega), rdD_nat (show R.length + 1 < (R ++ [p] ++ [t]).length by omega)]
      have e1 : (R ++ [p] ++ [t])[R.length]'(by omega) = p := by simp
      have e2 : (R ++ [p] ++ [t])[R.length + 1]'(by omega) = t := by simp
      have e3 : (R ++ [p] ++ [t]).take R.length = R := by simp
      rw [e1, e2, Int.toNat_natCast, e3]
      refine bs (impl_pair (by omega) _ _ _ _ _ _ _ _) ?_
      rw [if_pos (by omega), ed, show wrap64 ((m / 2 : Nat) : Int) = ((m / 2 : Nat) : Int) by unfold wrap64; omega]
      have e4 : (R ++ [p]).dropLast = R := by simp
      have e5 : (R ++ [p]).getLastD t = p := by simp
      rw [e4, e5]
      exact ih k (m / 2) R (hpS p t) (by rw [Nat.pow_succ] at hm; omega) (by omega) (by omega) (by omega) (by omega)
    · rw [if_neg (by omega), if_neg c]
      exact bs (copiedD (by simp; omega)) rfl
theorem specAdd_l (f : Nat) : ∀ (k m : Nat) (P : List SD) (t : SD), m < 2 ^ f → m ≤ 255 → P.length = pc f m → P.length ≤ 300 → 40000 + f < k →
    spec_PeaksAdd.l1 k (m : Int) P t.f0 t.f1 t.f2 t.f3 = some (addF f m P t, true) := by
  induction f with
  | zero =>
    intro k m P t hm h0 hP hP2 hk
    obtain ⟨k, rfl⟩ : ∃ q, k = q + 1 := ⟨k - 1, by omega⟩
    obtain rfl : m = 0 := by simpa using hm
    simp only [spec_PeaksAdd.l1, addF]
    rw [if_neg (by decide), if_pos (by omega)]
  | succ f ih =>
    intro k m P t hm h0 hP hP2 hk
    obtain ⟨k, rfl⟩ : ∃ q, k = q + 1 := ⟨k - 1, by omega⟩
    simp only [spec_PeaksAdd.l1, addF]
    have et : Int.tmod (m : Int) 2 = ((m % 2 : Nat) : Int) := rfl
    have ed : Int.tdiv (m : Int) 2 = ((m / 2 : Nat) : Int) := rfl
    rw [et]
    by_cases c : m % 2 = 1
    · rw [if_pos (by omega), if_pos c]
      unfold pc at hP
      obtain ⟨R, p, rfl⟩ : ∃ R p, P = R ++ [p] := by
        rcases List.eq_nil_or_concat P with e | ⟨R, p, e⟩
        · subst e; simp at hP; omega
        · exact ⟨R, p, by simpa using e⟩
      simp only [List.length_append, List.length_singleton] at hP hP2
      have hl : ((R ++ [p]).length : Int) = (R.length : Int) + 1 := by simp
      have hl2 : (R ++ [p]).length = R.length + 1 := by simp
      rw [hl, show wrap64 ((R.length : Int) + 1 - 1) = (R.length : Int) by unfold wrap64; omega]
      rw [if_pos (by omega), if_pos (by omega)]
      rw [rdD_nat (show R.length < (R ++ [p]).length by omega)]
      have e1 : (R ++ [p])[R.length]'(by omega) = p := by simp
      have e3 : (R ++ [p]).take R.length = R := by simp
      rw [e1]
      refine bs (spec_pair (by omega) _ _ _ _ _ _ _ _) ?_
      rw [if_pos (by omega), Int.toNat_natCast, e3, ed, show wrap64 ((m / 2 : Nat) : Int) = ((m / 2 : Nat) : Int) by unfold wrap64; omega]
      have e4 : (R ++ [p]).dropLast = R := by simp
      have e5 : (R ++ [p]).getLastD t = p := by simp
      rw [e4, e5]
      exact ih k (m / 2) R (hpS p t) (by rw [Nat.pow_succ] at hm; omega) (by omega) (by omega) (by omega) (by omega)
    · rw [if_neg (by omega), if_neg c, if_pos (by omega)]
theorem specRow_l (s : ByteArray) (hs : s.size ≤ 4611686018427387904) (m : Nat) (hm : m ≤ 255) (P : List SD) (hP : P.length = popc m) (hP2 : P.length ≤ 300) (n : Nat) : ∀ (k : Nat) (acc : List SD) (i : Nat), P.length = i + n → acc.length = i → acc ++ P.drop i = P → 50000 + n < k →
    spec_PeaksAdd.l0 k (m : Int) P s acc (i : Int) = some (addF 9 m P (toSD (hashLeaf s)), true) := by
  induction n with
  | zero =>
    intro k acc i hl ha he hk
    obtain ⟨k, rfl⟩ : ∃ q, k = q + 1 := ⟨k - 1, by omega⟩
    simp only [spec_PeaksAdd.l0]
    rw [if_neg (by omega)]
    rw [List.drop_of_length_le (by omega), List.append_nil] at he
    rw [he]
    refine bs (spec_leaf (by omega) hs) ?_
    exact specAdd_l 9 k m P (toSD (hashLeaf s)) (by omega) hm hP hP2 (by omega)
  | succ n ih =>
    intro k acc i hl ha he hk
    obtain ⟨k, rfl⟩ : ∃ q, k = q + 1 := ⟨k - 1, by omega⟩
    have hi : i < P.length := by omega
    simp only [spec_PeaksAdd.l0]
    rw [if_pos (by omega), if_pos (by omega), if_pos (by omega), rdD_nat hi, step64 (by omega)]
    refine ih k _ (i + 1) (by omega) (by simp; omega) ?_ (by omega)
    rw [List.append_assoc]
    rw [List.drop_eq_getElem_cons hi] at he
    exact he
def addFits (n : Int) (P : List SD) (s : ByteArray) : Bool := decide (0 ≤ n ∧ n ≤ 255 ∧ P.length = popc n.toNat ∧ s.size ≤ 40)
/-- What PeaksAdd tells. -/
def peaksAdd (n : Int) (P : List SD) (s : ByteArray) : List SD × Bool := if addFits n P s = true then (addF 9 n.toNat P (toSD (hashLeaf s)), true) else ([], false)
theorem impl_peaksAdd {k : Nat} (hk : 60000 < k) (n : Int) (P : List SD) (s : ByteArray) (hP : P.length < 1099511627776) : impl_PeaksAdd.f (k + 1) n P s = some (peaksAdd n P s) := by
  unfold impl_PeaksAdd.f peaksAdd addFits
  rw [impl_in]
  simp only [Option.bind_some]
  by_cases c : 0 ≤ n ∧ n ≤ 255
  · rw [if_pos (by simpa using c)]
    obtain ⟨m, rfl⟩ : ∃ m : Nat, n = (m : Int) := ⟨n.toNat, by omega⟩
    refine bs (impl_count (by omega)) ?_
    rw [Int.toNat_natCast]
    by_cases c2 : P.length = popc m
    · rw [if_pos (by omega)]
      have hp := popc_le ⟨m, by omega⟩
      simp only at hp
      simp only [impl_PeaksAdd.j0]
      by_cases c3 : (s.size : Int) > 40
      · rw [if_pos (by simpa using c3), if_neg (by simp; omega)]
      · rw [if_neg (by simpa using c3), if_pos (by simp; omega)]
        simp only [Option.bind_some, List.nil_append]
        rw [if_pos (by simp; omega)]
        refine bs (impl_leaf (by omega) (by omega)) ?_
        rw [if_pos (by omega)]
        exact implAdd_l 9 k m P (toSD (hashLeaf s)) (by omega) (by omega) c2 (by omega) (by omega)
    · rw [if_neg (by omega), if_neg (by simp; omega)]
      simp only [impl_PeaksAdd.j0]
      rw [if_pos trivial]
  · rw [if_neg (by simpa using c), if_neg (by simp; omega)]
    simp only [impl_PeaksAdd.j0]
    rw [if_pos trivial]
theorem spec_peaksAdd {k : Nat} (hk : 60000 < k) (n : Int) (P : List SD) (s : ByteArray) (hP : P.length < 1099511627776) : spec_PeaksAdd.f (k + 1) n P s = some (peaksAdd n P s) := by
  unfold spec_PeaksAdd.f peaksAdd addFits
  simp only [Option.bind_some]
  rw [spec_in]
  simp only [Option.bind_some]
  by_cases c : 0 ≤ n ∧ n ≤ 255
  · rw [if_pos (by simpa using c)]
    obtain ⟨m, rfl⟩ : ∃ m : Nat, n = (m : Int) := ⟨n.toNat, by omega⟩
    refine bs (spec_count (by omega) (by omega)) ?_
    rw [Int.toNat_natCast]
    by_cases c2 : P.length = popc m
    · rw [if_pos (by omega)]
      have hp := popc_le ⟨m, by omega⟩
      simp only at hp
      simp only [spec_PeaksAdd.j0]
      by_cases c3 : (s.size : Int) > 40
      · rw [if_pos (by simpa using c3), if_neg (by simp; omega)]
      · rw [if_neg (by simpa using c3), if_pos (by simp; omega)]
        exact specRow_l s (by omega) m (by omega) P c2 (by omega) P.length k [] 0 (by omega) rfl (by simp) (by omega)
    · rw [if_neg (by omega), if_neg (by simp; omega)]
      simp only [spec_PeaksAdd.j0]
      rw [if_pos trivial]
  · rw [if_neg (by simpa using c), if_neg (by simp; omega)]
    simp only [spec_PeaksAdd.j0]
    rw [if_pos trivial]
theorem peaksAdd_len (n : Int) (P : List SD) (s : ByteArray) : (peaksAdd n P s).1.length ≤ 300 := by
  unfold peaksAdd
  by_cases c : addFits n P s = true
  · rw [if_pos c]
    have c' := c
    unfold addFits at c'
    have c2 := of_decide_eq_true c'
    have hp := popc_le ⟨n.toNat, by omega⟩
    simp only at hp
    have := addF_len 9 n.toNat P (toSD (hashLeaf s))
    show (addF 9 n.toNat P (toSD (hashLeaf s))).length ≤ 300
    omega
  · rw [if_neg c]; simp
end Go.Proofs.Ytemfciflhbhobaa.Q
