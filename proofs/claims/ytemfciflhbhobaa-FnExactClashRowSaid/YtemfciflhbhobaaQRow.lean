/- The texts that PathRoot hashes as a plain list; ClashRow of the program and of the reference come to it. No condition. -/
import Derived.Test.YtemfciflhbhobaaQUp
import Derived.Test.YtemfciflhbhobaaGRow1
namespace Go.Proofs.Ytemfciflhbhobaa.Q
open Go.RowKit Go.Proofs.Ytemfciflhbhobaa.B Go.Proofs.YtemfciflhbhobaaW.PrintWords Go.Proofs.YtemfciflhbhobaaW.PrintLast Go.Proofs.YtemfciflhbhobaaW.PrintMore
set_option linter.unusedVariables false
set_option linter.unusedSimpArgs false
theorem copiedS {l : List ByteArray} (h : l.length ≤ 1000000) : impl_copied_string.f l = some l := by
  unfold impl_copied_string.f
  rw [if_pos (by omega)]
def pairT (b : PP) : ByteArray := pairText (d4u b.f0) (d4u b.f1)
/-- The texts from the root down. -/
def rowL (i : Nat) (xs : List NO) (ps : List SD) (s : ByteArray) : List ByteArray := ((pairsL i xs ps (hashLeaf s)).reverse.map pairT) ++ [leafText s]
theorem implRow_l (s : ByteArray) (hs : s.size ≤ 4611686018427387904) (M : List PP) (hM : M.length ≤ 1000) (j : Nat) : ∀ (k : Nat) (acc : List ByteArray), j ≤ M.length → 100 + j < k → acc.length + j ≤ 2000 →
    impl_ClashRow.l0 k s M acc ((j : Int) - 1) = some (acc ++ ((M.take j).reverse.map pairT) ++ [leafText s], true) := by
  induction j with
  | zero =>
    intro k acc _ hk ha
    obtain ⟨k, rfl⟩ : ∃ m, k = m + 1 := ⟨k - 1, by omega⟩
    simp only [impl_ClashRow.l0]
    rw [if_neg (by omega)]
    refine bsu (impl_leafText hs) ?_
    rw [if_pos (by omega)]
    refine bsu (copiedS (by simp; omega)) ?_
    simp
  | succ j ih =>
    intro k acc hj hk ha
    obtain ⟨k, rfl⟩ : ∃ m, k = m + 1 := ⟨k - 1, by omega⟩
    have hi : j < M.length := by omega
    simp only [impl_ClashRow.l0]
    rw [show ((j + 1 : Nat) : Int) - 1 = (j : Int) by omega, if_pos (by omega), if_pos (by omega), if_pos (by omega), rdP_nat hi]
    refine bsu (impl_pairText (by omega) _ _ _ _ _ _ _ _) ?_
    rw [if_pos (by omega), show wrap64 ((j : Int) - 1) = (j : Int) - 1 by unfold wrap64; omega, ih k _ (by omega) (by omega) (by simp; omega)]
    rw [List.take_succ_eq_append_getElem hi, List.reverse_append, List.reverse_singleton, List.singleton_append, List.map_cons]
    refine congrArg some (Prod.ext ?_ rfl)
    simp [pairT, d4u]
theorem behind_l (n : Nat) : ∀ (k : Nat) (l acc : List ByteArray) (i : Nat), l.length = i + n → n < k → l.length ≤ 100000 → acc.length + n ≤ 200000 → spec_l4Behind.l0 k l acc (i : Int) = some (acc ++ l.drop i) := by
  induction n with
  | zero =>
    intro k l acc i hl hk hm ha
    obtain ⟨k, rfl⟩ : ∃ m, k = m + 1 := ⟨k - 1, by omega⟩
    simp only [spec_l4Behind.l0]
    rw [if_neg (by omega), List.drop_of_length_le (by omega), List.append_nil]
  | succ n ih =>
    intro k l acc i hl hk hm ha
    obtain ⟨k, rfl⟩ : ∃ m, k = m + 1 := ⟨k - 1, by omega⟩
    have hi : i < l.length := by omega
    simp only [spec_l4Behind.l0]
    rw [if_pos (by omega), if_pos (by omega), if_pos (by omega), rdOf_nat hi, step64 (by omega), ih k l _ (i + 1) (by omega) (by omega) hm (by simp; omega), List.drop_eq_getElem_cons hi, List.append_assoc]
    rfl
theorem spec_behind {k : Nat} (s : ByteArray) (l : List ByteArray) (hk : l.length < k) (h : l.length ≤ 100000) : spec_l4Behind.f k s l = some (s :: l) := by
  unfold spec_l4Behind.f
  have := behind_l l.length k l [s] 0 (by omega) hk h (by simp; omega)
  simpa using this
theorem rowL_len (i : Nat) (xs : List NO) (ps : List SD) (s : ByteArray) (h : xs.length = ps.length) : (rowL i xs ps s).length = ps.length + 1 := by
  simp [rowL, pairsL_len i xs ps _ h]
theorem down_l (s : ByteArray) (hs : s.size ≤ 4611686018427387904) (f : Nat) : ∀ (k i lo hi : Nat) (P : List SD), hi - lo ≤ f → lo ≤ i → i < hi → hi ≤ 256 → P.length = (wayF f i lo hi).length → 50000 + f < k →
    spec_l4Down.f k ((hi - lo : Nat) : Int) ((i - lo : Nat) : Int) s P = some (rowL i (wayF f i lo hi).reverse P s) := by
  induction f with
  | zero => intro k i lo hi P h h0 h1; omega
  | succ f ih =>
    intro k i lo hi P h h0 h1 h2 hP hk
    obtain ⟨k, rfl⟩ : ∃ m, k = m + 1 := ⟨k - 1, by omega⟩
    have hshort := up_l.way_short (f + 1) i lo hi h2
    simp only [spec_l4Down.f]
    simp only [wayF] at hP hshort ⊢
    by_cases c : hi - lo ≤ 1
    · rw [if_pos (by omega), if_pos c]
      rw [if_pos c] at hP
      refine bsu (spec_leafText hs) ?_
      cases P with
      | nil => rfl
      | cons => simp at hP
    · rw [if_neg (by omega), if_neg c]
      rw [if_neg c] at hP hshort
      have hsp := spl_lt (n := hi - lo) (by omega) (by omega)
      rw [← hP] at hshort
      simp only [List.length_cons] at hP
      have hp1 : P.length - 1 < P.length := by omega
      have hPP : P = P.take (P.length - 1) ++ [P[P.length - 1]] := by
        rw [← List.take_succ_eq_append_getElem hp1, show P.length - 1 + 1 = P.length by omega, List.take_length]
      refine bsu (spec_split (by omega) (by omega) (by omega)) ?_
      rw [show wrap64 ((P.length : Int) - 1) = ((P.length - 1 : Nat) : Int) by unfold wrap64; omega, if_pos (by omega), if_pos (by omega), if_pos (by omega), Int.toNat_natCast, rdU_nat hp1]
      simp only [Option.bind_some]
      generalize hq : P[P.length - 1] = p at *
      have hlt : (P.take (P.length - 1)).length = P.length - 1 := by rw [List.length_take]; omega
      generalize hr : P.take (P.length - 1) = R at *
      have hsn : ∀ W : List NO, W.length = R.length → ∀ x, rowL i (W.reverse ++ [x]) (R ++ [p]) s = pairT (both i x p (upL i W.reverse R (hashLeaf s))) :: rowL i W.reverse R s := by
        intro W hW x
        unfold rowL
        rw [pairsL_snoc _ _ _ _ _ _ (by rw [List.length_reverse]; exact hW), List.reverse_append, List.reverse_singleton, List.singleton_append, List.map_cons, List.cons_append]
      rw [List.reverse_cons, hPP]
      by_cases c2 : i < lo + spl (hi - lo)
      · rw [if_pos (by omega), if_pos c2]
        rw [if_pos c2] at hP
        rw [hsn _ (by omega)]
        have e := up_l f k i lo (lo + spl (hi - lo)) (hashLeaf s) R (by omega) h0 c2 (by omega) (by omega) (by omega)
        have e2 := ih k i lo (lo + spl (hi - lo)) R (by omega) h0 c2 (by omega) (by omega) (by omega)
        rw [show lo + spl (hi - lo) - lo = spl (hi - lo) by omega] at e e2
        refine bsu (spec_leaf (by omega) hs) (bsu e (bsu (spec_pairText (by omega) _ _ _ _ _ _ _ _) (bsu e2 ?_)))
        have hl := rowL_len i (wayF f i lo (lo + spl (hi - lo))).reverse R s (by rw [List.length_reverse]; omega)
        refine bsu (spec_behind _ _ (by omega) (by omega)) ?_
        refine congrArg some ?_
        have eb : ∀ now, both i ⟨(lo : Int), (hi : Int)⟩ p now = ⟨sdu now, p⟩ := fun now => by
          unfold both
          rw [if_pos (by simpa using c2)]
        rw [eb]
        rfl
      · rw [if_neg (by omega), if_neg c2]
        rw [if_neg c2] at hP
        rw [hsn _ (by omega)]
        rw [show wrap64 (((hi - lo : Nat) : Int) - ((spl (hi - lo) : Nat) : Int)) = ((hi - (lo + spl (hi - lo)) : Nat) : Int) by unfold wrap64; omega, show wrap64 (((i - lo : Nat) : Int) - ((spl (hi - lo) : Nat) : Int)) = ((i - (lo + spl (hi - lo)) : Nat) : Int) by unfold wrap64; omega]
        have e := up_l f k i (lo + spl (hi - lo)) hi (hashLeaf s) R (by omega) (by omega) h1 (by omega) (by omega) (by omega)
        have e2 := ih k i (lo + spl (hi - lo)) hi R (by omega) (by omega) h1 (by omega) (by omega) (by omega)
        refine bsu (spec_leaf (by omega) hs) (bsu e (bsu (spec_pairText (by omega) _ _ _ _ _ _ _ _) (bsu e2 ?_)))
        have hl := rowL_len i (wayF f i (lo + spl (hi - lo)) hi).reverse R s (by rw [List.length_reverse]; omega)
        refine bsu (spec_behind _ _ (by omega) (by omega)) ?_
        refine congrArg some ?_
        have eb : ∀ now, both i ⟨(lo : Int), (hi : Int)⟩ p now = ⟨p, sdu now⟩ := fun now => by
          unfold both
          rw [if_neg (by simpa using c2)]
        rw [eb]
        rfl
/-- What ClashRow tells. -/
def clashRow (n i : Int) (s : ByteArray) (P : List SD) : List ByteArray × Bool := if pathFits n i s P = true then (rowL i.toNat (way n.toNat i.toNat).reverse P s, true) else ([], false)
theorem impl_clashRow {k : Nat} (hk : 60000 < k) (n i : Int) (s : ByteArray) (P : List SD) : impl_ClashRow.f k n i s P = some (clashRow n i s P) := by
  unfold impl_ClashRow.f clashRow
  refine bsu (impl_pathOk (by omega) n i s P) ?_
  by_cases c : pathFits n i s P = true
  · rw [if_pos c, if_pos c]
    obtain ⟨a, b, rfl, rfl, h1, h2, h3, h4, h5⟩ := fits_is c
    rw [Int.toNat_natCast, Int.toNat_natCast]
    refine bsu (impl_pairs (by omega) h2 (by omega) h5) ?_
    have hl := pairsL_len b (way a b).reverse P (hashLeaf s) (by rw [List.length_reverse]; exact h5.symm)
    have hw : (way a b).length ≤ a := wayF_len a b 0 a (by omega)
    have := implRow_l s (by omega) (pairsL b (way a b).reverse P (hashLeaf s)) (by omega) (pairsL b (way a b).reverse P (hashLeaf s)).length k [] (by omega) (by omega) (by simp; omega)
    rw [List.take_of_length_le (Nat.le_refl _)] at this
    rw [show wrap64 (((pairsL b (way a b).reverse P (hashLeaf s)).length : Int) - 1) = ((pairsL b (way a b).reverse P (hashLeaf s)).length : Int) - 1 by unfold wrap64; omega, this]
    rfl
  · rw [if_neg c, if_neg c]
theorem spec_clashRow {k : Nat} (hk : 60002 < k) (n i : Int) (s : ByteArray) (P : List SD) (hm : P.length < 1099511627776) : spec_ClashRow.f k n i s P = some (clashRow n i s P) := by
  unfold spec_ClashRow.f clashRow
  refine bsu (spec_pathRoot' (by omega) n i s P hm) ?_
  unfold pathRoot
  by_cases c : pathFits n i s P = true
  · rw [if_pos c, if_pos c]
    obtain ⟨a, b, rfl, rfl, h1, h2, h3, h4, h5⟩ := fits_is c
    rw [Int.toNat_natCast, Int.toNat_natCast]
    show (if true = true then _ else _) = _
    rw [if_pos rfl]
    have := down_l s (by omega) a k b 0 a P (by omega) (by omega) h3 (by omega) h5 (by omega)
    refine bsu this rfl
  · rw [if_neg c, if_neg c]
    show (if false = true then _ else _) = _
    rw [if_neg (by simp)]
theorem clashRow_len (n i : Int) (s : ByteArray) (P : List SD) : (clashRow n i s P).1.length ≤ 300 := by
  unfold clashRow
  by_cases c : pathFits n i s P = true
  · rw [if_pos c]
    obtain ⟨a, b, rfl, rfl, h1, h2, h3, h4, h5⟩ := fits_is c
    rw [Int.toNat_natCast, Int.toNat_natCast]
    have hw : (way a b).length ≤ a := wayF_len a b 0 a (by omega)
    have := rowL_len b (way a b).reverse P s (by rw [List.length_reverse]; exact h5.symm)
    show (rowL b (way a b).reverse P s).length ≤ 300
    omega
  · rw [if_neg c]; simp
end Go.Proofs.Ytemfciflhbhobaa.Q
