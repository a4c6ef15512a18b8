/- The root that a leaf's path makes, as a plain function; PathRoot of the program and of the reference come to it. No condition. -/
import Derived.Test.YtemfciflhbhobaaQList
import Derived.Test.YtemfciflhbhobaaQPair
import Derived.Test.YtemfciflhbhobaaQWay
import Derived.Test.YtemfciflhbhobaaGUp2
import Derived.Test.YtemfciflhbhobaaGUp1
namespace Go.Proofs.Ytemfciflhbhobaa.Q
open Go.RowKit Go.Proofs.Ytemfciflhbhobaa.B Go.Proofs.YtemfciflhbhobaaW.PrintWords Go.Proofs.YtemfciflhbhobaaW.PrintLast Go.Proofs.YtemfciflhbhobaaW.PrintMore
set_option linter.unusedVariables false
set_option linter.unusedSimpArgs false
theorem bsu {α β : Type} {x : Option α} {v : α} {F : α → Option β} {r : Option β} (h : x = some v) (k : F v = r) : x.bind F = r := by rw [h]; exact k
abbrev PP := S106
def d4u (d : SD) : D4 := (d.f0, d.f1, d.f2, d.f3)
def sdu (d : D4) : SD := ⟨d.1, d.2.1, d.2.2.1, d.2.2.2⟩
theorem d4_sdu (d : D4) : d4u (sdu d) = d := rfl
/-- The digests of a node's halves: what came out so far, and the path's. -/
def both (i : Nat) (x : NO) (p : SD) (now : D4) : PP := if i < x.f0.toNat + spl (x.f1.toNat - x.f0.toNat) then ⟨sdu now, p⟩ else ⟨p, sdu now⟩
def pairRoot (b : PP) : D4 := hashPair (d4u b.f0) (d4u b.f1)
/-- The halves' digests of all nodes, the least first. -/
def pairsL (i : Nat) : List NO → List SD → D4 → List PP
  | x :: xs, p :: ps, now => both i x p now :: pairsL i xs ps (pairRoot (both i x p now))
  | _, _, _ => []
/-- What comes out above all nodes. -/
def upL (i : Nat) : List NO → List SD → D4 → D4
  | x :: xs, p :: ps, now => upL i xs ps (pairRoot (both i x p now))
  | _, _, now => now
theorem pairsL_len (i : Nat) (xs : List NO) : ∀ (ps : List SD) (now : D4), xs.length = ps.length → (pairsL i xs ps now).length = ps.length := by
  induction xs with
  | nil => intro ps now h; cases ps with | nil => rfl | cons => simp at h
  | cons x xs ih =>
    intro ps now h
    cases ps with
    | nil => simp at h
    | cons p ps => simp only [pairsL, List.length_cons]; rw [ih ps _ (by simpa using h)]
theorem upL_snoc (i : Nat) (x : NO) (p : SD) (xs : List NO) : ∀ (ps : List SD) (now : D4), xs.length = ps.length → upL i (xs ++ [x]) (ps ++ [p]) now = pairRoot (both i x p (upL i xs ps now)) := by
  induction xs with
  | nil => intro ps now h; cases ps with | nil => rfl | cons => simp at h
  | cons y xs ih =>
    intro ps now h
    cases ps with
    | nil => simp at h
    | cons q ps => simp only [List.cons_append, upL]; exact ih ps _ (by simpa using h)
theorem pairsL_snoc (i : Nat) (x : NO) (p : SD) (xs : List NO) : ∀ (ps : List SD) (now : D4), xs.length = ps.length → pairsL i (xs ++ [x]) (ps ++ [p]) now = pairsL i xs ps now ++ [both i x p (upL i xs ps now)] := by
  induction xs with
  | nil => intro ps now h; cases ps with | nil => rfl | cons => simp at h
  | cons y xs ih =>
    intro ps now h
    cases ps with
    | nil => simp at h
    | cons q ps =>
      simp only [List.cons_append, pairsL, upL]
      rw [ih ps _ (by simpa using h)]
theorem rdU_nat {l : List SD} {i : Nat} (h : i < l.length) : rd_T29 l (i : Int) = l[i] := by simp [rd_T29, List.getD, List.getElem?_eq_getElem h]
theorem rdV_nat {l : List NO} {i : Nat} (h : i < l.length) : rd_T120 l (i : Int) = l[i] := by simp [rd_T120, List.getD, List.getElem?_eq_getElem h]
theorem rdP_nat {l : List PP} {i : Nat} (h : i < l.length) : rd_T106 l (i : Int) = l[i] := by simp [rd_T106, List.getD, List.getElem?_eq_getElem h]
theorem way_fitU (f : Nat) : ∀ (i lo hi : Nat), hi - lo ≤ f → lo ≤ hi → hi ≤ 256 → ∀ x ∈ wayF f i lo hi, ∃ a b : Nat, x = ⟨(a : Int), (b : Int)⟩ ∧ lo ≤ a ∧ a + 2 ≤ b ∧ b ≤ hi := by
  induction f with
  | zero => intro i lo hi _ _ _ x hx; simp [wayF] at hx
  | succ f ih =>
    intro i lo hi h h0 h1 x hx
    simp only [wayF] at hx
    by_cases c : hi - lo ≤ 1
    · rw [if_pos c] at hx; simp at hx
    · rw [if_neg c] at hx
      have hs := spl_lt (n := hi - lo) (by omega) (by omega)
      rcases List.mem_cons.1 hx with rfl | hx
      · exact ⟨lo, hi, rfl, by omega, by omega, by omega⟩
      · by_cases c2 : i < lo + spl (hi - lo)
        · rw [if_pos c2] at hx
          obtain ⟨a, b, e, h3, h4, h5⟩ := ih _ _ _ (by omega) (by omega) (by omega) x hx
          exact ⟨a, b, e, h3, h4, by omega⟩
        · rw [if_neg c2] at hx
          obtain ⟨a, b, e, h3, h4, h5⟩ := ih _ _ _ (by omega) (by omega) (by omega) x hx
          exact ⟨a, b, e, by omega, h4, h5⟩
/-- The program's loop over the nodes, the least first. -/
theorem pairs_l (i : Nat) (xs : List NO) (P : List SD) (hx : ∀ x ∈ xs, ∃ a b : Nat, x = ⟨(a : Int), (b : Int)⟩ ∧ a + 2 ≤ b ∧ b ≤ 256) (hP : P.length = xs.length) (hn : xs.length ≤ 1000) (n : Nat) : ∀ (k j : Nat) (acc : List PP) (now : D4), xs.length = j + n → 40000 + n < k → acc.length + n ≤ 2000 →
    impl_pathPairs.l0 k (i : Int) xs acc P (P.length : Int) (j : Int) now.1 now.2.1 now.2.2.1 now.2.2.2 = some (acc ++ pairsL i ((xs.take n).reverse) (P.drop j) now) := by
  induction n with
  | zero =>
    intro k j acc now hj hk ha
    obtain ⟨k, rfl⟩ : ∃ m, k = m + 1 := ⟨k - 1, by omega⟩
    simp only [impl_pathPairs.l0]
    rw [if_neg (by omega), List.drop_of_length_le (by omega)]
    simp [pairsL]
  | succ n ih =>
    intro k j acc now hj hk ha
    obtain ⟨k, rfl⟩ : ∃ m, k = m + 1 := ⟨k - 1, by omega⟩
    have hj1 : j < P.length := by omega
    have hn1 : n < xs.length := by omega
    obtain ⟨a, b, e, h2, h3⟩ := hx _ (List.getElem_mem hn1)
    have ew : wrap64 ((wrap64 ((xs.length : Int) - 1)) - (j : Int)) = (n : Int) := by unfold wrap64; omega
    simp only [impl_pathPairs.l0]
    rw [ew, if_pos (by omega), if_pos (by omega), if_pos (by omega), if_pos (by omega), if_pos (by omega), rdV_nat hn1, rdU_nat hj1]
    rw [List.take_succ_eq_append_getElem hn1, List.reverse_append, List.reverse_singleton, List.singleton_append, List.drop_eq_getElem_cons hj1]
    simp only [pairsL]
    generalize xs[n] = x at e ⊢
    generalize P[j] = p
    subst e
    have hs := spl_lt (n := b - a) (by omega) (by omega)
    refine bsu (halves (by omega) h2 h3) ?_
    show (if (i : Int) < ((a + spl (b - a) : Nat) : Int) then _ else _) = _
    by_cases c : i < a + spl (b - a)
    · have eb : both i ⟨(a : Int), (b : Int)⟩ p now = ⟨sdu now, p⟩ := by
        unfold both
        rw [if_pos (by simpa using c)]
      rw [if_pos (by omega), if_pos (by omega)]
      refine bsu (impl_pair (by omega) _ _ _ _ _ _ _ _) ?_
      have := ih k (j + 1) (acc ++ [both i ⟨(a : Int), (b : Int)⟩ p now]) (pairRoot (both i ⟨(a : Int), (b : Int)⟩ p now)) (by omega) (by omega) (by simp; omega)
      rw [step64 (by omega)]
      rw [List.append_assoc, List.singleton_append] at this
      rw [← this, eb]
      rfl
    · have eb : both i ⟨(a : Int), (b : Int)⟩ p now = ⟨p, sdu now⟩ := by
        unfold both
        rw [if_neg (by simpa using c)]
      rw [if_neg (by omega), if_pos (by omega)]
      refine bsu (impl_pair (by omega) _ _ _ _ _ _ _ _) ?_
      have := ih k (j + 1) (acc ++ [both i ⟨(a : Int), (b : Int)⟩ p now]) (pairRoot (both i ⟨(a : Int), (b : Int)⟩ p now)) (by omega) (by omega) (by simp; omega)
      rw [step64 (by omega)]
      rw [List.append_assoc, List.singleton_append] at this
      rw [← this, eb]
      rfl
theorem impl_pairs {k n i : Nat} (hk : 50000 < k) (h : n ≤ 256) {s : ByteArray} (hs : s.size ≤ 4611686018427387904) {P : List SD} (hP : P.length = (way n i).length) :
    impl_pathPairs.f k (n : Int) (i : Int) s P = some (pairsL i (way n i).reverse P (hashLeaf s)) := by
  unfold impl_pathPairs.f
  refine bsu (impl_way (by omega) h) (bsu (impl_leaf (by omega) hs) ?_)
  have hw : (way n i).length ≤ n := wayF_len n i 0 n (by omega)
  have := pairs_l i (way n i) P (fun x hx => by
    obtain ⟨a, b, e, _, h3, h4⟩ := way_fitU n i 0 n (by omega) (by omega) h x hx
    exact ⟨a, b, e, h3, by omega⟩) hP (by omega) (way n i).length k 0 [] (hashLeaf s) (by omega) (by omega) (by simp; omega)
  rw [List.take_of_length_le (Nat.le_refl _), List.drop_zero] at this
  simpa using this
/-- The reference's way up. -/
theorem up_l (f : Nat) : ∀ (k i lo hi : Nat) (d : D4) (P : List SD), hi - lo ≤ f → lo ≤ i → i < hi → hi ≤ 256 → P.length = (wayF f i lo hi).length → 40000 + f < k →
    spec_l3Up.f k ((hi - lo : Nat) : Int) ((i - lo : Nat) : Int) d.1 d.2.1 d.2.2.1 d.2.2.2 P = some (upL i (wayF f i lo hi).reverse P d) := by
  induction f with
  | zero => intro k i lo hi d P h h0 h1; omega
  | succ f ih =>
    intro k i lo hi d P h h0 h1 h2 hP hk
    obtain ⟨k, rfl⟩ : ∃ m, k = m + 1 := ⟨k - 1, by omega⟩
    simp only [spec_l3Up.f]
    simp only [wayF] at hP ⊢
    by_cases c : hi - lo ≤ 1
    · rw [if_pos (by omega), if_pos c]
      rw [if_pos c] at hP
      cases P with
      | nil => rfl
      | cons => simp at hP
    · rw [if_neg (by omega), if_neg c]
      rw [if_neg c] at hP
      have hs := spl_lt (n := hi - lo) (by omega) (by omega)
      simp only [List.length_cons] at hP
      have hp1 : P.length - 1 < P.length := by omega
      have hPP : P = P.take (P.length - 1) ++ [P[P.length - 1]] := by
        rw [← List.take_succ_eq_append_getElem hp1, show P.length - 1 + 1 = P.length by omega, List.take_length]
      have hwl : ∀ lo hi, (wayF f i lo hi).length ≤ f := fun lo hi => wayF_len.wayF_len' f i lo hi
      have hPl : P.length ≤ 1000000 ∨ 1000000 < P.length := by omega
      have hsmall : P.length < 9223372036854775807 := by
        have e1 := hwl lo (lo + spl (hi - lo))
        have e2 := hwl (lo + spl (hi - lo)) hi
        by_cases c3 : i < lo + spl (hi - lo)
        · rw [if_pos c3] at hP
          have := wayF_len f i lo (lo + spl (hi - lo)) (by omega)
          have := way_short f i lo (lo + spl (hi - lo)) (by omega)
          omega
        · rw [if_neg c3] at hP
          have := way_short f i (lo + spl (hi - lo)) hi (by omega)
          omega
      refine bsu (spec_split (by omega) (by omega) (by omega)) ?_
      rw [show wrap64 ((P.length : Int) - 1) = ((P.length - 1 : Nat) : Int) by unfold wrap64; omega, if_pos (by omega), if_pos (by omega), if_pos (by omega), Int.toNat_natCast, rdU_nat hp1]
      simp only [Option.bind_some]
      generalize hq : P[P.length - 1] = p at *
      have hlt : (P.take (P.length - 1)).length = P.length - 1 := by rw [List.length_take]; omega
      generalize hr : P.take (P.length - 1) = R at *
      rw [List.reverse_cons, hPP, upL_snoc _ _ _ _ _ _ (by rw [List.length_reverse]; omega)]
      by_cases c2 : i < lo + spl (hi - lo)
      · rw [if_pos (by omega), if_pos c2]
        rw [if_pos c2] at hP
        have e := ih k i lo (lo + spl (hi - lo)) d R (by omega) h0 c2 (by omega) (by omega) (by omega)
        rw [show lo + spl (hi - lo) - lo = spl (hi - lo) by omega] at e
        refine bsu e (bsu (spec_pair (by omega) _ _ _ _ _ _ _ _) ?_)
        refine congrArg some ?_
        have eb : ∀ now, both i ⟨(lo : Int), (hi : Int)⟩ p now = ⟨sdu now, p⟩ := fun now => by
          unfold both
          rw [if_pos (by simpa using c2)]
        rw [eb]
        rfl
      · rw [if_neg (by omega), if_neg c2]
        rw [if_neg c2] at hP
        rw [show wrap64 (((hi - lo : Nat) : Int) - ((spl (hi - lo) : Nat) : Int)) = ((hi - (lo + spl (hi - lo)) : Nat) : Int) by unfold wrap64; omega, show wrap64 (((i - lo : Nat) : Int) - ((spl (hi - lo) : Nat) : Int)) = ((i - (lo + spl (hi - lo)) : Nat) : Int) by unfold wrap64; omega]
        have e := ih k i (lo + spl (hi - lo)) hi d R (by omega) (by omega) h1 (by omega) (by omega) (by omega)
        refine bsu e (bsu (spec_pair (by omega) _ _ _ _ _ _ _ _) ?_)
        refine congrArg some ?_
        have eb : ∀ now, both i ⟨(lo : Int), (hi : Int)⟩ p now = ⟨p, sdu now⟩ := fun now => by
          unfold both
          rw [if_neg (by simpa using c2)]
        rw [eb]
        rfl
where
  way_short : ∀ (f i lo hi : Nat), hi ≤ 256 → (wayF f i lo hi).length ≤ hi - lo
    | 0, _, _, _, _ => by simp [wayF]
    | f + 1, i, lo, hi, h => by
      simp only [wayF]
      by_cases c : hi - lo ≤ 1
      · rw [if_pos c]; simp
      · rw [if_neg c]
        have hs := spl_lt (n := hi - lo) (by omega) (by omega)
        split <;> simp only [List.length_cons]
        · have := way_short f i lo (lo + spl (hi - lo)) (by omega); omega
        · have := way_short f i (lo + spl (hi - lo)) hi h; omega
/-- Whether a path may be one. -/
def pathFits (n i : Int) (s : ByteArray) (P : List SD) : Bool := decide (1 ≤ n ∧ n ≤ 256 ∧ 0 ≤ i ∧ i < n ∧ s.size ≤ 40 ∧ P.length = (way n.toNat i.toNat).length)
/-- What PathRoot tells. -/
def pathRoot (n i : Int) (s : ByteArray) (P : List SD) : D4 × Bool := if pathFits n i s P = true then (upL i.toNat (way n.toNat i.toNat).reverse P (hashLeaf s), true) else ((0, 0, 0, 0), false)
theorem impl_pathOk {k : Nat} (hk : 300 ≤ k) (n i : Int) (s : ByteArray) (P : List SD) : impl_pathOk.f k n i s P = some (pathFits n i s P) := by
  unfold impl_pathOk.f pathFits
  refine bsu (impl_pathLen hk n i) ?_
  unfold pathLen
  by_cases c : 1 ≤ n ∧ n ≤ 256 ∧ 0 ≤ i ∧ i < n
  · rw [if_pos c, if_pos (by omega)]
    by_cases c2 : (s.size : Int) ≤ 40
    · rw [if_pos c2]
      refine congrArg some ?_
      rw [Bool.eq_iff_iff]
      simp only [beq_iff_eq, decide_eq_true_eq]
      omega
    · rw [if_neg c2]
      refine congrArg some ?_
      exact (decide_eq_false (by omega)).symm
  · rw [if_neg c, if_neg (by omega)]
    refine congrArg some ?_
    exact (decide_eq_false (by omega)).symm
theorem fits_is {n i : Int} {s : ByteArray} {P : List SD} (h : pathFits n i s P = true) : ∃ a b : Nat, n = (a : Int) ∧ i = (b : Int) ∧ 1 ≤ a ∧ a ≤ 256 ∧ b < a ∧ s.size ≤ 40 ∧ P.length = (way a b).length := by
  simp only [pathFits, decide_eq_true_eq] at h
  exact ⟨n.toNat, i.toNat, by omega, by omega, by omega, by omega, by omega, h.2.2.2.2.1, h.2.2.2.2.2⟩
theorem impl_pathRoot {k : Nat} (hk : 60000 < k) (n i : Int) (s : ByteArray) (P : List SD) (hm : P.length < 1099511627776) : impl_PathRoot.f k n i s P = some ((pathRoot n i s P).1.1, (pathRoot n i s P).1.2.1, (pathRoot n i s P).1.2.2.1, (pathRoot n i s P).1.2.2.2, (pathRoot n i s P).2) := by
  unfold impl_PathRoot.f pathRoot
  refine bsu (impl_pathOk (by omega) n i s P) ?_
  by_cases c : pathFits n i s P = true
  · rw [if_pos c, if_pos c]
    obtain ⟨a, b, rfl, rfl, h1, h2, h3, h4, h5⟩ := fits_is c
    rw [Int.toNat_natCast, Int.toNat_natCast]
    by_cases c0 : (P.length : Int) = 0
    · rw [if_pos c0]
      refine bsu (impl_leaf (by omega) (by omega)) ?_
      obtain rfl : P = [] := List.eq_nil_of_length_eq_zero (by omega)
      have e : (way a b).reverse = [] := List.eq_nil_of_length_eq_zero (by rw [List.length_reverse]; simpa using h5.symm)
      rw [e]
      rfl
    · rw [if_neg c0]
      refine bsu (impl_pairs (by omega) h2 (by omega) h5) ?_
      have hl := pairsL_len b (way a b).reverse P (hashLeaf s) (by rw [List.length_reverse]; exact h5.symm)
      rw [show wrap64 ((P.length : Int) - 1) = ((P.length - 1 : Nat) : Int) by unfold wrap64; omega, if_pos (by omega), if_pos (by omega), rdP_nat (by omega)]
      refine bsu (impl_pair (by omega) _ _ _ _ _ _ _ _) ?_
      have hp1 : P.length - 1 < P.length := by omega
      have hw1 : (way a b).reverse.length - 1 < (way a b).reverse.length := by rw [List.length_reverse]; omega
      have e1 : P = P.take (P.length - 1) ++ [P[P.length - 1]] := by
        rw [← List.take_succ_eq_append_getElem hp1, show P.length - 1 + 1 = P.length by omega, List.take_length]
      have e2 : (way a b).reverse = (way a b).reverse.take ((way a b).reverse.length - 1) ++ [(way a b).reverse[(way a b).reverse.length - 1]] := by
        rw [← List.take_succ_eq_append_getElem hw1, show (way a b).reverse.length - 1 + 1 = (way a b).reverse.length by omega, List.take_length]
      have hlast : ∀ (M : List PP) (hM : P.length - 1 < M.length), M = pairsL b (way a b).reverse P (hashLeaf s) → pairRoot M[P.length - 1] = upL b (way a b).reverse P (hashLeaf s) := by
        intro M hM hMe
        have hll : ((way a b).reverse.take ((way a b).reverse.length - 1)).length = (P.take (P.length - 1)).length := by
          rw [List.length_take, List.length_take, List.length_reverse]
          omega
        have e3 := pairsL_snoc b (way a b).reverse[(way a b).reverse.length - 1] P[P.length - 1] ((way a b).reverse.take ((way a b).reverse.length - 1)) (P.take (P.length - 1)) (hashLeaf s) hll
        have e4 := upL_snoc b (way a b).reverse[(way a b).reverse.length - 1] P[P.length - 1] ((way a b).reverse.take ((way a b).reverse.length - 1)) (P.take (P.length - 1)) (hashLeaf s) hll
        rw [← e1, ← e2] at e3 e4
        rw [e4]
        have e5 : M[P.length - 1] = both b (way a b).reverse[(way a b).reverse.length - 1] P[P.length - 1] (upL b ((way a b).reverse.take ((way a b).reverse.length - 1)) (P.take (P.length - 1)) (hashLeaf s)) := by
          have e6 : M[P.length - 1]? = some (both b (way a b).reverse[(way a b).reverse.length - 1] P[P.length - 1] (upL b ((way a b).reverse.take ((way a b).reverse.length - 1)) (P.take (P.length - 1)) (hashLeaf s))) := by
            rw [hMe, e3]
            have e7 := pairsL_len b ((way a b).reverse.take ((way a b).reverse.length - 1)) (P.take (P.length - 1)) (hashLeaf s) hll
            have e8 : (pairsL b ((way a b).reverse.take ((way a b).reverse.length - 1)) (P.take (P.length - 1)) (hashLeaf s)).length = P.length - 1 := by rw [e7, List.length_take]; omega
            rw [List.getElem?_append_right (by rw [e8]; exact Nat.le_refl _), e8, Nat.sub_self]
            rfl
          rw [List.getElem?_eq_getElem hM] at e6
          exact Option.some.inj e6
        rw [e5]
      have := hlast _ (by omega) rfl
      rw [← this]
      rfl
  · rw [if_neg c, if_neg c]
theorem spec_pathRoot {k : Nat} (hk : 60000 < k) (n i : Int) (s : ByteArray) (P : List SD) (hm : P.length < 1099511627776) : spec_PathRoot.f (k + 1) n i s P = some ((pathRoot n i s P).1.1, (pathRoot n i s P).1.2.1, (pathRoot n i s P).1.2.2.1, (pathRoot n i s P).1.2.2.2, (pathRoot n i s P).2) := by
  unfold spec_PathRoot.f pathRoot
  have hno : ∀ q, ¬ pathFits n i s P = true → spec_PathRoot.j0 (q + 1) n i s P true = some ((0 : Int), (0 : Int), (0 : Int), (0 : Int), false) := fun q _ => by simp [spec_PathRoot.j0]
  unfold spec_l3Place.f
  rw [spec_in]
  simp only [Option.bind_some]
  by_cases c : 1 ≤ n ∧ n ≤ 256
  · rw [if_pos (by simpa using c), spec_in]
    simp only [Option.bind_some]
    rw [show wrap64 (n - 1) = n - 1 by unfold wrap64; omega]
    by_cases c2 : 0 ≤ i ∧ i < n
    · rw [if_pos (by simp; omega)]
      by_cases c3 : (s.size : Int) > 40
      · have hf : ¬ pathFits n i s P = true := by simp only [pathFits, decide_eq_true_eq]; omega
        rw [if_pos c3, hno k hf, if_neg hf]
      · rw [if_neg c3]
        refine bsu (spec_pathLen (by omega) n i) ?_
        unfold pathLen
        rw [if_pos ⟨c.1, c.2, c2.1, c2.2⟩]
        by_cases c4 : P.length = (way n.toNat i.toNat).length
        · have hf : pathFits n i s P = true := by simp only [pathFits, decide_eq_true_eq]; omega
          obtain ⟨a, b, rfl, rfl, h1, h2, h3, h4, h5⟩ := fits_is hf
          rw [if_pos hf, show ((P.length : Int) != (((way ((a : Int)).toNat ((b : Int)).toNat).length : Nat) : Int)) = false by rw [c4]; exact bne_self_eq_false _]
          simp only [spec_PathRoot.j0]
          rw [if_neg (by simp), Int.toNat_natCast, Int.toNat_natCast]
          refine bsu (spec_leaf (by omega) (by omega)) ?_
          have := up_l a k b 0 a (hashLeaf s) P (by omega) (by omega) h3 (by omega) h5 (by omega)
          refine bsu this ?_
          rfl
        · have hf : ¬ pathFits n i s P = true := by simp only [pathFits, decide_eq_true_eq]; omega
          rw [if_neg hf, show ((P.length : Int) != (((way n.toNat i.toNat).length : Nat) : Int)) = true by simpa using fun hh => c4 (by omega), hno k hf]
    · have hf : ¬ pathFits n i s P = true := by simp only [pathFits, decide_eq_true_eq]; omega
      rw [if_neg (by simp; omega), hno k hf, if_neg hf]
  · have hf : ¬ pathFits n i s P = true := by simp only [pathFits, decide_eq_true_eq]; omega
    rw [if_neg (by simpa using c)]
    rw [if_neg hf]
    simp
    exact hno k hf
theorem spec_pathRoot' {k : Nat} (hk : 60001 < k) (n i : Int) (s : ByteArray) (P : List SD) (hm : P.length < 1099511627776) : spec_PathRoot.f k n i s P = some ((pathRoot n i s P).1.1, (pathRoot n i s P).1.2.1, (pathRoot n i s P).1.2.2.1, (pathRoot n i s P).1.2.2.2, (pathRoot n i s P).2) := by
  obtain ⟨k, rfl⟩ : ∃ q, k = q + 1 := ⟨k - 1, by omega⟩
  exact spec_pathRoot (by omega) n i s P hm
end Go.Proofs.Ytemfciflhbhobaa.Q
