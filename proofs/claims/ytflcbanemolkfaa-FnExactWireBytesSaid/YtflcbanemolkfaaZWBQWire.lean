/- WireBytes as a plain list of bytes: the program's and the reference's come to it. Condition: what WireOk asks. -/
import Derived.Test.YtflcbanemolkfaaZWBQWireOk
import Derived.Test.YtflcbanemolkfaaZWBQBytes8
import Derived.Test.YtflcbanemolkfaaZWBFImplWireBytes
import Derived.Test.YtflcbanemolkfaaZWBFSpecWireBytes
namespace Go.Proofs.Ytflcbanemolkfaa.Q
open Go.RowKit Go.Proofs.Ytflcbanemolkfaa.B Go.Proofs.YtflcbanemolkfaaW.PrintWords Go.Proofs.YtflcbanemolkfaaW.PrintLast Go.Proofs.YtflcbanemolkfaaW.PrintMore
set_option linter.unusedVariables false
set_option linter.unusedSimpArgs false
def nb : Int → Nat → List Int
  | _, 0 => []
  | v, n + 1 => nb (wrap64 (Int.tdiv v 256)) n ++ [(Int.tmod v 256) % 256]
theorem nb_length (n : Nat) : ∀ v, (nb v n).length = n := by
  induction n with
  | zero => intro v; rfl
  | succ n ih => intro v; simp [nb, ih]
theorem spec_nb (n : Nat) : ∀ (k : Nat) (v : Int), n < k → n ≤ 1000 → spec_l5Num.f k v (n : Int) = some (strOfNums (nb v n)) := by
  induction n with
  | zero =>
    intro k v hk _
    obtain ⟨k, rfl⟩ : ∃ q, k = q + 1 := ⟨k - 1, by omega⟩
    rw [spec_l5Num.f, if_pos (by omega)]
    rfl
  | succ n ih =>
    intro k v hk hn
    obtain ⟨k, rfl⟩ : ∃ q, k = q + 1 := ⟨k - 1, by omega⟩
    rw [spec_l5Num.f, if_neg (by omega), show wrap64 (((n + 1 : Nat) : Int) - 1) = (n : Int) by unfold wrap64; omega]
    refine bsw (ih k _ (by omega) (by omega)) (bsw rfl ?_)
    rw [if_pos (by rw [str_size, str_size, nb_length]; simp; omega), str_append]
    rfl
theorem impl_nb_l (j : Nat) : ∀ (k : Nat) (v : Int) (tail : List Int), j < k → j + tail.length ≤ 1000 → impl_numberBytes.l0 k v (List.replicate j 0 ++ tail) ((j : Int) - 1) = some (nb v j ++ tail) := by
  induction j with
  | zero =>
    intro k v tail hk _
    obtain ⟨k, rfl⟩ : ∃ q, k = q + 1 := ⟨k - 1, by omega⟩
    rw [impl_numberBytes.l0, if_neg (by omega)]
    rfl
  | succ j ih =>
    intro k v tail hk hl
    obtain ⟨k, rfl⟩ : ∃ q, k = q + 1 := ⟨k - 1, by omega⟩
    have e : ∀ x : Int, (List.replicate (j + 1) 0 ++ tail).set j x = List.replicate j 0 ++ (x :: tail) := by
      intro x
      rw [List.replicate_succ', List.append_assoc, List.set_append_right _ _ (by simp)]
      simp
    rw [impl_numberBytes.l0, show ((j + 1 : Nat) : Int) - 1 = (j : Int) by omega, if_pos (by omega), if_pos (by omega), if_pos (by simp; omega), show ((j : Nat) : Int).toNat = j by omega, e, show wrap64 ((j : Int) - 1) = (j : Int) - 1 by unfold wrap64; omega, ih k _ _ (by omega) (by simp; omega)]
    simp [nb]
theorem impl_nb (n : Nat) {k : Nat} (v : Int) (hk : n < k) (hn : n ≤ 1000) : impl_numberBytes.f k v (n : Int) = some (nb v n) := by
  unfold impl_numberBytes.f
  rw [if_pos (by omega), if_pos (by omega), show ((n : Nat) : Int).toNat = n by omega, show wrap64 ((n : Int) - 1) = (n : Int) - 1 by unfold wrap64; omega]
  have := impl_nb_l n k v [] hk (by simpa using hn)
  simpa using this
theorem be32_8 (d : D4) : Bytes8 (be32 d) := (((be8_8 _).append (be8_8 _)).append (be8_8 _)).append (be8_8 _)
theorem hashRow_is {k : Nat} (hk : 5 ≤ k) (a b c d : Int) : impl_hashRow.f k a b c d = some (be32 (a, b, c, d)) := by
  unfold impl_hashRow.f
  rw [impl_hbytes hk, Option.map_some, bytesOf_str _ (be32_8 _)]
def hdB (d : SD) : List Int := be32 (d.f0, d.f1, d.f2, d.f3)
def ldB (s : ByteArray) : List Int := nb (s.size : Int) 1 ++ bytesOf s
theorem rdP_nat {P : List SD} {i : Nat} (h : i < P.length) : rd_T26 P (i : Int) = P[i] := by simp [rd_T26, rdOf, List.getD, List.getElem?_eq_getElem h]
def enc (x1 x2 x3 x4 x5 x6 x7 x8 : Int) (P : List SD) (L : List ByteArray) (c : Int) : List Int :=
  if c = 115 then nb x1 3 else if c = 102 then nb x2 2 else if c = 122 then nb x3 2 else if c = 114 then be32 (x4, x5, x6, x7) else if c = 99 then nb x8 1 else if c = 112 then nb (P.length : Int) 1 ++ P.flatMap hdB else if c = 108 then nb (L.length : Int) 1 ++ L.flatMap ldB else []
section
variable (a x1 x2 x3 x4 x5 x6 x7 x8 : Int) (P : List SD) (L : List ByteArray)
theorem impl_l1 (s : ByteArray) (p : Int) (hP : P.length ≤ 1000) (n : Nat) : ∀ (k i : Nat) (acc : List Int), P.length = i + n → 5 ≤ k → acc.length + 32 * n < 1099511627776 →
    impl_wireBytes.l1 (k + n + 1) acc s p P (P.length : Int) (i : Int) a x1 x2 x3 x4 x5 x6 x7 x8 P L = impl_wireBytes.l0 k (acc ++ (P.drop i).flatMap hdB) s p a x1 x2 x3 x4 x5 x6 x7 x8 P L := by
  induction n with
  | zero =>
    intro k i acc h hk _
    rw [impl_wireBytes.l1, if_neg (by omega), List.drop_of_length_le (by omega)]
    simp
  | succ n ih =>
    intro k i acc h hk hl
    have hi : i < P.length := by omega
    rw [show k + (n + 1) + 1 = (k + n + 1) + 1 by omega, impl_wireBytes.l1, if_pos (by omega), if_pos (by omega), if_pos (by omega), rdP_nat hi]
    refine bsw (hashRow_is (by omega) _ _ _ _) ?_
    rw [if_pos (by rw [be32_length]; omega), step64 (by omega), ih k (i + 1) _ (by omega) hk (by rw [List.length_append, be32_length]; omega), List.drop_eq_getElem_cons hi, List.flatMap_cons, List.append_assoc]
    rfl
theorem impl_l2 (s : ByteArray) (p : Int) (hL : L.length ≤ 1000) (hs : ∀ s ∈ L, s.size ≤ 40) (n : Nat) : ∀ (k i : Nat) (acc : List Int), L.length = i + n → 5 ≤ k → acc.length + 41 * n < 1099511627776 →
    impl_wireBytes.l2 (k + n + 1) acc s p L (L.length : Int) (i : Int) a x1 x2 x3 x4 x5 x6 x7 x8 P L = impl_wireBytes.l0 k (acc ++ (L.drop i).flatMap ldB) s p a x1 x2 x3 x4 x5 x6 x7 x8 P L := by
  induction n with
  | zero =>
    intro k i acc h hk _
    rw [impl_wireBytes.l2, if_neg (by omega), List.drop_of_length_le (by omega)]
    simp
  | succ n ih =>
    intro k i acc h hk hl
    have hi : i < L.length := by omega
    have hz := hs _ (List.getElem_mem hi)
    rw [show k + (n + 1) + 1 = (k + n + 1) + 1 by omega, impl_wireBytes.l2, if_pos (by omega), if_pos (by omega), if_pos (by omega), rdW_nat hi]
    refine bsw (impl_nb 1 _ (by omega) (by omega)) ?_
    rw [if_pos (by rw [nb_length]; omega)]
    refine bsw rfl (bsw rfl ?_)
    rw [if_pos (by rw [List.length_append, nb_length, bytesOf_length]; omega), step64 (by omega), ih k (i + 1) _ (by omega) hk (by rw [List.length_append, List.length_append, nb_length, bytesOf_length]; omega), List.drop_eq_getElem_cons hi, List.flatMap_cons]
    unfold ldB
    simp only [List.append_assoc]
theorem impl_run (s : ByteArray) (hP : P.length ≤ 16) (hL : L.length ≤ 8) (hs : ∀ s ∈ L, s.size ≤ 40) (hz : s.size ≤ 1000) (ha : ∀ x ∈ bytesOf s, x < 128) (n : Nat) : ∀ (k p : Nat) (acc : List Int), s.size = p + n → n * 100 + 100 ≤ k → acc.length + 2000 * n < 1000000000 →
    impl_wireBytes.l0 k acc s (p : Int) a x1 x2 x3 x4 x5 x6 x7 x8 P L = some (strOfNums (acc ++ ((bytesOf s).drop p).flatMap (enc x1 x2 x3 x4 x5 x6 x7 x8 P L))) := by
  induction n with
  | zero =>
    intro k p acc h hk _
    obtain ⟨k, rfl⟩ : ∃ q, k = q + 1 := ⟨k - 1, by omega⟩
    rw [impl_wireBytes.l0]
    refine bsw (v := (false, 0, 0)) (by unfold impl_nextAt.f; rw [if_neg (by omega), if_pos (by omega)]) (bsw rfl ?_)
    rw [if_neg (by simp), List.drop_of_length_le (by rw [bytesOf_length]; omega)]
    simp
  | succ n ih =>
    intro k p acc h hk hl
    obtain ⟨k, rfl⟩ : ∃ q, k = q + 1 := ⟨k - 1, by omega⟩
    have hi : p < (bytesOf s).length := by rw [bytesOf_length]; omega
    have hb := ha _ (List.getElem_mem hi)
    have fin : ∀ (k' : Nat) (acc' : List Int), n * 100 + 100 ≤ k' → acc' = acc ++ enc x1 x2 x3 x4 x5 x6 x7 x8 P L (bytesOf s)[p] → (enc x1 x2 x3 x4 x5 x6 x7 x8 P L (bytesOf s)[p]).length ≤ 2000 →
        impl_wireBytes.l0 k' acc' s ((p : Int) + 1) a x1 x2 x3 x4 x5 x6 x7 x8 P L = some (strOfNums (acc ++ ((bytesOf s).drop p).flatMap (enc x1 x2 x3 x4 x5 x6 x7 x8 P L))) := by
      intro k' acc' hk' e hlen
      have := ih k' (p + 1) acc' (by omega) hk' (by rw [e, List.length_append]; omega)
      rw [show (((p + 1 : Nat)) : Int) = (p : Int) + 1 by omega] at this
      rw [this, e, List.drop_eq_getElem_cons hi, List.flatMap_cons, List.append_assoc]
    rw [impl_wireBytes.l0]
    refine bsw (v := (true, (p : Int), (bytesOf s)[p])) (by unfold impl_nextAt.f; rw [if_pos (by omega), btB_nat hi, if_pos hb]) (bsw (v := (p : Int) + 1) (by unfold impl_stepAt.f; rw [if_pos (by omega)]) ?_)
    rw [if_pos rfl]
    dsimp only
    generalize (bytesOf s)[p] = c at fin ⊢
    have lenP : (P.flatMap hdB).length = 32 * P.length := by
      clear hP fin ih
      induction P with
      | nil => rfl
      | cons d P ih => rw [List.flatMap_cons, List.length_append, ih, List.length_cons]; unfold hdB; rw [be32_length]; omega
    have lenL : (L.flatMap ldB).length ≤ 41 * L.length := by
      clear hL fin ih
      induction L with
      | nil => simp
      | cons d L ih =>
        rw [List.flatMap_cons, List.length_append, List.length_cons]
        have := ih (fun s h => hs s (List.mem_cons_of_mem _ h))
        have h2 := hs d List.mem_cons_self
        unfold ldB
        rw [List.length_append, nb_length, bytesOf_length]
        unfold ldB at this
        omega
    by_cases e1 : c = 115
    · rw [if_pos e1]
      refine bsw (impl_nb 3 _ (by omega) (by omega)) ?_
      rw [if_pos (by rw [nb_length]; omega)]
      have E : enc x1 x2 x3 x4 x5 x6 x7 x8 P L c = nb x1 3 := by unfold enc; rw [if_pos e1]
      exact fin _ _ (by omega) (by rw [E]) (by rw [E, nb_length]; omega)
    rw [if_neg e1]
    by_cases e2 : c = 102
    · rw [if_pos e2]
      refine bsw (impl_nb 2 _ (by omega) (by omega)) ?_
      rw [if_pos (by rw [nb_length]; omega)]
      have E : enc x1 x2 x3 x4 x5 x6 x7 x8 P L c = nb x2 2 := by unfold enc; rw [if_neg e1, if_pos e2]
      exact fin _ _ (by omega) (by rw [E]) (by rw [E, nb_length]; omega)
    rw [if_neg e2]
    by_cases e3 : c = 122
    · rw [if_pos e3]
      refine bsw (impl_nb 2 _ (by omega) (by omega)) ?_
      rw [if_pos (by rw [nb_length]; omega)]
      have E : enc x1 x2 x3 x4 x5 x6 x7 x8 P L c = nb x3 2 := by unfold enc; rw [if_neg e1, if_neg e2, if_pos e3]
      exact fin _ _ (by omega) (by rw [E]) (by rw [E, nb_length]; omega)
    rw [if_neg e3]
    by_cases e4 : c = 114
    · rw [if_pos e4]
      refine bsw (hashRow_is (by omega) _ _ _ _) ?_
      rw [if_pos (by rw [be32_length]; omega)]
      have E : enc x1 x2 x3 x4 x5 x6 x7 x8 P L c = be32 (x4, x5, x6, x7) := by unfold enc; rw [if_neg e1, if_neg e2, if_neg e3, if_pos e4]
      exact fin _ _ (by omega) (by rw [E]) (by rw [E, be32_length]; omega)
    rw [if_neg e4]
    by_cases e5 : c = 99
    · rw [if_pos e5]
      refine bsw (impl_nb 1 _ (by omega) (by omega)) ?_
      rw [if_pos (by rw [nb_length]; omega)]
      have E : enc x1 x2 x3 x4 x5 x6 x7 x8 P L c = nb x8 1 := by unfold enc; rw [if_neg e1, if_neg e2, if_neg e3, if_neg e4, if_pos e5]
      exact fin _ _ (by omega) (by rw [E]) (by rw [E, nb_length]; omega)
    rw [if_neg e5]
    by_cases e6 : c = 112
    · rw [if_pos e6]
      refine bsw (impl_nb 1 _ (by omega) (by omega)) ?_
      rw [if_pos (by rw [nb_length]; omega)]
      have E : enc x1 x2 x3 x4 x5 x6 x7 x8 P L c = nb (P.length : Int) 1 ++ P.flatMap hdB := by unfold enc; rw [if_neg e1, if_neg e2, if_neg e3, if_neg e4, if_neg e5, if_pos e6]
      have T := impl_l1 a x1 x2 x3 x4 x5 x6 x7 x8 P L s ((p : Int) + 1) (by omega) P.length (k - P.length - 1) 0 (acc ++ nb (P.length : Int) 1) (by omega) (by omega) (by rw [List.length_append, nb_length]; omega)
      rw [show k - P.length - 1 + P.length + 1 = k by omega, List.drop_zero, List.append_assoc] at T
      refine T.trans ?_
      exact fin _ _ (by omega) (by rw [E]) (by rw [E, List.length_append, nb_length]; omega)
    rw [if_neg e6]
    by_cases e7 : c = 108
    · rw [if_pos e7]
      refine bsw (impl_nb 1 _ (by omega) (by omega)) ?_
      rw [if_pos (by rw [nb_length]; omega)]
      have E : enc x1 x2 x3 x4 x5 x6 x7 x8 P L c = nb (L.length : Int) 1 ++ L.flatMap ldB := by unfold enc; rw [if_neg e1, if_neg e2, if_neg e3, if_neg e4, if_neg e5, if_neg e6, if_pos e7]
      have T := impl_l2 a x1 x2 x3 x4 x5 x6 x7 x8 P L s ((p : Int) + 1) (by omega) hs L.length (k - L.length - 1) 0 (acc ++ nb (L.length : Int) 1) (by omega) (by omega) (by rw [List.length_append, nb_length]; omega)
      rw [show k - L.length - 1 + L.length + 1 = k by omega, List.drop_zero, List.append_assoc] at T
      refine T.trans ?_
      exact fin _ _ (by omega) (by rw [E]) (by rw [E, List.length_append, nb_length]; omega)
    rw [if_neg e7]
    have E : enc x1 x2 x3 x4 x5 x6 x7 x8 P L c = [] := by unfold enc; rw [if_neg e1, if_neg e2, if_neg e3, if_neg e4, if_neg e5, if_neg e6, if_neg e7]
    exact fin _ _ (by omega) (by rw [E, List.append_nil]) (by rw [E]; simp)
theorem partsI_plain : ∀ i : Fin 9, ∀ x ∈ bytesOf (partsI.getD i.val ByteArray.empty), x < 128 := by decide +kernel
theorem impl_wb {k : Nat} (hk : 1000 < k) (h : 1 ≤ a ∧ a ≤ 8) (hP : P.length ≤ 16) (hL : L.length ≤ 8) (hs : ∀ s ∈ L, s.size ≤ 40) :
    impl_wireBytes.f k a x1 x2 x3 x4 x5 x6 x7 x8 P L = some (strOfNums ([a % 256] ++ (bytesOf (partsI.getD a.toNat ByteArray.empty)).flatMap (enc x1 x2 x3 x4 x5 x6 x7 x8 P L))) := by
  have hz := partsI_small ⟨a.toNat, by omega⟩
  have hp := partsI_plain ⟨a.toNat, by omega⟩
  simp only at hz hp
  unfold impl_wireBytes.f
  refine bsw (parts_in h) (bsw rfl ?_)
  have := impl_run a x1 x2 x3 x4 x5 x6 x7 x8 P L (partsI.getD a.toNat ByteArray.empty) hP hL hs (by omega) hp (partsI.getD a.toNat ByteArray.empty).size k 0 [a % 256] (by omega) (by omega) (by rw [List.length_singleton]; omega)
  rw [List.drop_zero] at this
  exact this
theorem spec_l0 (h : ByteArray) (hP : P.length ≤ 1000) (n : Nat) : ∀ (k i : Nat) (A : List Int), P.length = i + n → 9 ≤ k → A.length + 32 * n < 1099511627776 →
    spec_WireBytes.l0 (k + n + 1) h (strOfNums A) (i : Int) a x1 x2 x3 x4 x5 x6 x7 x8 P L = spec_WireBytes.j6 k h (strOfNums (A ++ (P.drop i).flatMap hdB)) a x1 x2 x3 x4 x5 x6 x7 x8 P L := by
  induction n with
  | zero =>
    intro k i A h' hk _
    rw [spec_WireBytes.l0, if_neg (by omega), List.drop_of_length_le (by omega)]
    simp
  | succ n ih =>
    intro k i A h' hk hl
    have hi : i < P.length := by omega
    rw [show k + (n + 1) + 1 = (k + n + 1) + 1 by omega, spec_WireBytes.l0, if_pos (by omega), if_pos (by omega), rdP_nat hi]
    refine bsw (spec_hbytes (by omega) _ _ _ _) ?_
    rw [if_pos (by rw [str_size, str_size, be32_length]; omega), step64 (by omega), str_append, ih k (i + 1) _ (by omega) hk (by rw [List.length_append, be32_length]; omega), List.drop_eq_getElem_cons hi, List.flatMap_cons, List.append_assoc]
    rfl
theorem spec_l1 (hL : L.length ≤ 1000) (hs : ∀ s ∈ L, s.size ≤ 40) (n : Nat) : ∀ (k i : Nat) (A : List Int), L.length = i + n → n + 3 < k → A.length + 41 * n < 1099511627776 →
    spec_WireBytes.l1 k (strOfNums A) (i : Int) a x1 x2 x3 x4 x5 x6 x7 x8 P L = some (strOfNums (A ++ (L.drop i).flatMap ldB)) := by
  induction n with
  | zero =>
    intro k i A h hk _
    obtain ⟨k, rfl⟩ : ∃ q, k = q + 1 := ⟨k - 1, by omega⟩
    rw [spec_WireBytes.l1, if_neg (by omega), List.drop_of_length_le (by omega)]
    simp
  | succ n ih =>
    intro k i A h hk hl
    obtain ⟨k, rfl⟩ : ∃ q, k = q + 1 := ⟨k - 1, by omega⟩
    have hi : i < L.length := by omega
    have hz := hs _ (List.getElem_mem hi)
    rw [spec_WireBytes.l1, if_pos (by omega), if_pos (by omega), rdW_nat hi]
    refine bsw (spec_nb 1 _ _ (by omega) (by omega)) ?_
    rw [if_pos (by rw [str_size, str_size, nb_length]; omega), str_append, if_pos (by rw [str_size, List.length_append, nb_length]; omega), step64 (by omega)]
    have e : strOfNums (A ++ nb (L[i].size : Int) 1) ++ L[i] = strOfNums (A ++ ldB L[i]) := (congrArg (strOfNums (A ++ nb (L[i].size : Int) 1) ++ ·) (str_bytesOf L[i]).symm).trans (by rw [str_append, List.append_assoc]; rfl)
    have el : (ldB L[i]).length = 1 + L[i].size := by unfold ldB; rw [List.length_append, nb_length, bytesOf_length]
    refine (congrArg (fun z => spec_WireBytes.l1 k z ((i + 1 : Nat) : Int) a x1 x2 x3 x4 x5 x6 x7 x8 P L) e).trans ?_
    rw [ih k (i + 1) _ (by omega) (by omega) (by rw [List.length_append, el]; omega), List.drop_eq_getElem_cons hi, List.flatMap_cons, List.append_assoc]
def gB (f : Bool) (l : List Int) : List Int := if f = true then l else []
theorem lenPB : (P.flatMap hdB).length = 32 * P.length := by
  induction P with
  | nil => rfl
  | cons d P ih => rw [List.flatMap_cons, List.length_append, ih, List.length_cons]; unfold hdB; rw [be32_length]; omega
theorem spec_wb {k : Nat} (hk : 1099511627800 < k) (hw : wok a x1 x2 x3 x4 x5 x6 x7 x8 P L = true) (h : 1 ≤ a ∧ a ≤ 8) (hP : P.length ≤ 16) (hL : L.length ≤ 8) (hs : ∀ s ∈ L, s.size ≤ 40) :
    spec_WireBytes.f (k + 6) a x1 x2 x3 x4 x5 x6 x7 x8 P L = some (strOfNums (nb a 1 ++ (gB (has a 115) (nb x1 3) ++ (gB (has a 102) (nb x2 2) ++ (gB (has a 122) (nb x3 2) ++ (gB (has a 114) (be32 (x4, x5, x6, x7)) ++ (gB (has a 99) (nb x8 1) ++ (gB (has a 112) (nb (P.length : Int) 1 ++ P.flatMap hdB) ++ gB (has a 108) (nb (L.length : Int) 1 ++ L.flatMap ldB))))))))) := by
  unfold spec_WireBytes.f
  refine bsw (spec_wok hk a x1 x2 x3 x4 x5 x6 x7 x8 P L (by omega)) ?_
  rw [hw, if_pos rfl]
  refine bsw (specHas (by omega) h) (bsw (spec_nb 1 _ _ (by omega) (by omega)) ?_)
  obtain ⟨e1, e2, e3, e4, e5, e6, e7⟩ := same_parts ⟨a.toNat, by omega⟩
  simp only at e1 e2 e3 e4 e5 e6 e7
  have I : ∀ {q : Nat}, 10 < q → ∀ c, spec_l5In.f q (partsS.getD a.toNat ByteArray.empty) c = some (cont (partsS.getD a.toNat ByteArray.empty) c) := fun hq c' => specIn hq h c'
  generalize partsS.getD a.toNat ByteArray.empty = hh at e1 e2 e3 e4 e5 e6 e7 I ⊢
  have I1 : ∀ {q : Nat}, 10 < q → spec_l5In.f q hh 115 = some (has a 115) := fun hq => (I hq 115).trans (congrArg some e1)
  have I2 : ∀ {q : Nat}, 10 < q → spec_l5In.f q hh 102 = some (has a 102) := fun hq => (I hq 102).trans (congrArg some e2)
  have I3 : ∀ {q : Nat}, 10 < q → spec_l5In.f q hh 110 = some (has a 122) := fun hq => (I hq 110).trans (congrArg some e3)
  have I4 : ∀ {q : Nat}, 10 < q → spec_l5In.f q hh 114 = some (has a 114) := fun hq => (I hq 114).trans (congrArg some e4)
  have I5 : ∀ {q : Nat}, 10 < q → spec_l5In.f q hh 99 = some (has a 99) := fun hq => (I hq 99).trans (congrArg some e5)
  have I6 : ∀ {q : Nat}, 10 < q → spec_l5In.f q hh 112 = some (has a 112) := fun hq => (I hq 112).trans (congrArg some e6)
  have I7 : ∀ {q : Nat}, 10 < q → spec_l5In.f q hh 108 = some (has a 108) := fun hq => (I hq 108).trans (congrArg some e7)
  clear I e1 e2 e3 e4 e5 e6 e7
  generalize has a 115 = f1 at I1 ⊢
  generalize has a 102 = f2 at I2 ⊢
  generalize has a 122 = f3 at I3 ⊢
  generalize has a 114 = f4 at I4 ⊢
  generalize has a 99 = f5 at I5 ⊢
  generalize has a 112 = f6 at I6 ⊢
  generalize has a 108 = f7 at I7 ⊢
  have lp := lenPB P
  have J6 : ∀ (K : Nat) (A : List Int), 100 ≤ K → A.length ≤ 1000000 → spec_WireBytes.j6 K hh (strOfNums A) a x1 x2 x3 x4 x5 x6 x7 x8 P L = some (strOfNums (A ++ gB f7 (nb (L.length : Int) 1 ++ L.flatMap ldB))) := by
    intro K A hK hA
    obtain ⟨K, rfl⟩ : ∃ q, K = q + 1 := ⟨K - 1, by omega⟩
    rw [spec_WireBytes.j6]
    refine bsw (I7 (by omega)) ?_
    cases f7 with
    | false => rw [if_neg (by simp)]; simp [gB]
    | true =>
      rw [if_pos rfl]
      refine bsw (spec_nb 1 _ _ (by omega) (by omega)) ?_
      rw [if_pos (by rw [str_size, str_size, nb_length]; omega), str_append]
      have T := spec_l1 a x1 x2 x3 x4 x5 x6 x7 x8 P L (by omega) hs L.length K 0 (A ++ nb (L.length : Int) 1) (by omega) (by omega) (by rw [List.length_append, nb_length]; omega)
      rw [List.drop_zero, List.append_assoc] at T
      exact T
  have J4 : ∀ (K : Nat) (A : List Int), 200 ≤ K → A.length ≤ 900000 → spec_WireBytes.j4 K hh (strOfNums A) a x1 x2 x3 x4 x5 x6 x7 x8 P L = some (strOfNums (A ++ (gB f6 (nb (P.length : Int) 1 ++ P.flatMap hdB) ++ gB f7 (nb (L.length : Int) 1 ++ L.flatMap ldB)))) := by
    intro K A hK hA
    obtain ⟨K, rfl⟩ : ∃ q, K = q + 1 := ⟨K - 1, by omega⟩
    rw [spec_WireBytes.j4]
    refine bsw (I6 (by omega)) ?_
    cases f6 with
    | false => rw [if_neg (by simp)]; exact (J6 K A (by omega) (by omega)).trans (by simp [gB])
    | true =>
      rw [if_pos rfl]
      refine bsw (spec_nb 1 _ _ (by omega) (by omega)) ?_
      rw [if_pos (by rw [str_size, str_size, nb_length]; omega), str_append]
      have T := spec_l0 a x1 x2 x3 x4 x5 x6 x7 x8 P L hh (by omega) P.length (K - P.length - 1) 0 (A ++ nb (P.length : Int) 1) (by omega) (by omega) (by rw [List.length_append, nb_length]; omega)
      rw [show K - P.length - 1 + P.length + 1 = K by omega, List.drop_zero] at T
      refine T.trans ((J6 _ _ (by omega) (by rw [List.length_append, List.length_append, nb_length, lp]; omega)).trans ?_)
      rw [show gB true (nb (P.length : Int) 1 ++ P.flatMap hdB) = nb (P.length : Int) 1 ++ P.flatMap hdB from rfl]
      simp only [List.append_assoc]
  have J3 : ∀ (K : Nat) (A : List Int), 300 ≤ K → A.length ≤ 800000 → spec_WireBytes.j3 K hh (strOfNums A) a x1 x2 x3 x4 x5 x6 x7 x8 P L = some (strOfNums (A ++ (gB f5 (nb x8 1) ++ (gB f6 (nb (P.length : Int) 1 ++ P.flatMap hdB) ++ gB f7 (nb (L.length : Int) 1 ++ L.flatMap ldB))))) := by
    intro K A hK hA
    obtain ⟨K, rfl⟩ : ∃ q, K = q + 1 := ⟨K - 1, by omega⟩
    rw [spec_WireBytes.j3]
    refine bsw (I5 (by omega)) ?_
    cases f5 with
    | false => rw [if_neg (by simp)]; exact (J4 K A (by omega) (by omega)).trans (by simp [gB])
    | true =>
      rw [if_pos rfl]
      refine bsw (spec_nb 1 _ _ (by omega) (by omega)) ?_
      rw [if_pos (by rw [str_size, str_size, nb_length]; omega), str_append]
      refine (J4 _ _ (by omega) (by rw [List.length_append, nb_length]; omega)).trans ?_
      rw [show gB true (nb x8 1) = nb x8 1 from rfl]
      simp only [List.append_assoc]
  have J2 : ∀ (K : Nat) (A : List Int), 400 ≤ K → A.length ≤ 700000 → spec_WireBytes.j2 K hh (strOfNums A) a x1 x2 x3 x4 x5 x6 x7 x8 P L = some (strOfNums (A ++ (gB f4 (be32 (x4, x5, x6, x7)) ++ (gB f5 (nb x8 1) ++ (gB f6 (nb (P.length : Int) 1 ++ P.flatMap hdB) ++ gB f7 (nb (L.length : Int) 1 ++ L.flatMap ldB)))))) := by
    intro K A hK hA
    obtain ⟨K, rfl⟩ : ∃ q, K = q + 1 := ⟨K - 1, by omega⟩
    rw [spec_WireBytes.j2]
    refine bsw (I4 (by omega)) ?_
    cases f4 with
    | false => rw [if_neg (by simp)]; exact (J3 K A (by omega) (by omega)).trans (by simp [gB])
    | true =>
      rw [if_pos rfl]
      refine bsw (spec_hbytes (by omega) _ _ _ _) ?_
      rw [if_pos (by rw [str_size, str_size, be32_length]; omega), str_append]
      refine (J3 _ _ (by omega) (by rw [List.length_append, be32_length]; omega)).trans ?_
      rw [show gB true (be32 (x4, x5, x6, x7)) = be32 (x4, x5, x6, x7) from rfl]
      simp only [List.append_assoc]
  have J1 : ∀ (K : Nat) (A : List Int), 500 ≤ K → A.length ≤ 600000 → spec_WireBytes.j1 K hh (strOfNums A) a x1 x2 x3 x4 x5 x6 x7 x8 P L = some (strOfNums (A ++ (gB f3 (nb x3 2) ++ (gB f4 (be32 (x4, x5, x6, x7)) ++ (gB f5 (nb x8 1) ++ (gB f6 (nb (P.length : Int) 1 ++ P.flatMap hdB) ++ gB f7 (nb (L.length : Int) 1 ++ L.flatMap ldB))))))) := by
    intro K A hK hA
    obtain ⟨K, rfl⟩ : ∃ q, K = q + 1 := ⟨K - 1, by omega⟩
    rw [spec_WireBytes.j1]
    refine bsw (I3 (by omega)) ?_
    cases f3 with
    | false => rw [if_neg (by simp)]; exact (J2 K A (by omega) (by omega)).trans (by simp [gB])
    | true =>
      rw [if_pos rfl]
      refine bsw (spec_nb 2 _ _ (by omega) (by omega)) ?_
      rw [if_pos (by rw [str_size, str_size, nb_length]; omega), str_append]
      refine (J2 _ _ (by omega) (by rw [List.length_append, nb_length]; omega)).trans ?_
      rw [show gB true (nb x3 2) = nb x3 2 from rfl]
      simp only [List.append_assoc]
  have J0 : ∀ (K : Nat) (A : List Int), 600 ≤ K → A.length ≤ 500000 → spec_WireBytes.j0 K hh (strOfNums A) a x1 x2 x3 x4 x5 x6 x7 x8 P L = some (strOfNums (A ++ (gB f2 (nb x2 2) ++ (gB f3 (nb x3 2) ++ (gB f4 (be32 (x4, x5, x6, x7)) ++ (gB f5 (nb x8 1) ++ (gB f6 (nb (P.length : Int) 1 ++ P.flatMap hdB) ++ gB f7 (nb (L.length : Int) 1 ++ L.flatMap ldB)))))))) := by
    intro K A hK hA
    obtain ⟨K, rfl⟩ : ∃ q, K = q + 1 := ⟨K - 1, by omega⟩
    rw [spec_WireBytes.j0]
    refine bsw (I2 (by omega)) ?_
    cases f2 with
    | false => rw [if_neg (by simp)]; exact (J1 K A (by omega) (by omega)).trans (by simp [gB])
    | true =>
      rw [if_pos rfl]
      refine bsw (spec_nb 2 _ _ (by omega) (by omega)) ?_
      rw [if_pos (by rw [str_size, str_size, nb_length]; omega), str_append]
      refine (J1 _ _ (by omega) (by rw [List.length_append, nb_length]; omega)).trans ?_
      rw [show gB true (nb x2 2) = nb x2 2 from rfl]
      simp only [List.append_assoc]
  refine bsw (I1 (by omega)) ?_
  cases f1 with
  | false => rw [if_neg (by simp)]; exact (J0 (k + 6) (nb a 1) (by omega) (by rw [nb_length]; omega)).trans (by simp [gB])
  | true =>
    rw [if_pos rfl]
    refine bsw (spec_nb 3 _ _ (by omega) (by omega)) ?_
    rw [if_pos (by rw [str_size, str_size, nb_length, nb_length]; omega), str_append]
    refine (J0 (k + 6) _ (by omega) (by rw [List.length_append, nb_length, nb_length]; omega)).trans ?_
    rw [show gB true (nb x1 3) = nb x1 3 from rfl]
    simp only [List.append_assoc]
theorem wire_join (h : 1 ≤ a ∧ a ≤ 8) : [a % 256] ++ (bytesOf (partsI.getD a.toNat ByteArray.empty)).flatMap (enc x1 x2 x3 x4 x5 x6 x7 x8 P L) = nb a 1 ++ (gB (has a 115) (nb x1 3) ++ (gB (has a 102) (nb x2 2) ++ (gB (has a 122) (nb x3 2) ++ (gB (has a 114) (be32 (x4, x5, x6, x7)) ++ (gB (has a 99) (nb x8 1) ++ (gB (has a 112) (nb (P.length : Int) 1 ++ P.flatMap hdB) ++ gB (has a 108) (nb (L.length : Int) 1 ++ L.flatMap ldB))))))) := by
  rcases kinds h with rfl | rfl | rfl | rfl | rfl | rfl | rfl | rfl
  · rw [show bytesOf (partsI.getD (1 : Int).toNat ByteArray.empty) = [115] by decide +kernel, show nb 1 1 = [1] by decide +kernel, show has 1 115 = true by decide +kernel, show has 1 102 = false by decide +kernel, show has 1 122 = false by decide +kernel, show has 1 114 = false by decide +kernel, show has 1 99 = false by decide +kernel, show has 1 112 = false by decide +kernel, show has 1 108 = false by decide +kernel]
    simp [enc, gB]
  · rw [show bytesOf (partsI.getD (2 : Int).toNat ByteArray.empty) = [115, 122, 114] by decide +kernel, show nb 2 1 = [2] by decide +kernel, show has 2 115 = true by decide +kernel, show has 2 102 = false by decide +kernel, show has 2 122 = true by decide +kernel, show has 2 114 = true by decide +kernel, show has 2 99 = false by decide +kernel, show has 2 112 = false by decide +kernel, show has 2 108 = false by decide +kernel]
    simp [enc, gB]
  · rw [show bytesOf (partsI.getD (3 : Int).toNat ByteArray.empty) = [115, 122, 114] by decide +kernel, show nb 3 1 = [3] by decide +kernel, show has 3 115 = true by decide +kernel, show has 3 102 = false by decide +kernel, show has 3 122 = true by decide +kernel, show has 3 114 = true by decide +kernel, show has 3 99 = false by decide +kernel, show has 3 112 = false by decide +kernel, show has 3 108 = false by decide +kernel]
    simp [enc, gB]
  · rw [show bytesOf (partsI.getD (4 : Int).toNat ByteArray.empty) = [102, 122] by decide +kernel, show nb 4 1 = [4] by decide +kernel, show has 4 115 = false by decide +kernel, show has 4 102 = true by decide +kernel, show has 4 122 = true by decide +kernel, show has 4 114 = false by decide +kernel, show has 4 99 = false by decide +kernel, show has 4 112 = false by decide +kernel, show has 4 108 = false by decide +kernel]
    simp [enc, gB]
  · rw [show bytesOf (partsI.getD (5 : Int).toNat ByteArray.empty) = [102, 122, 112] by decide +kernel, show nb 5 1 = [5] by decide +kernel, show has 5 115 = false by decide +kernel, show has 5 102 = true by decide +kernel, show has 5 122 = true by decide +kernel, show has 5 114 = false by decide +kernel, show has 5 99 = false by decide +kernel, show has 5 112 = true by decide +kernel, show has 5 108 = false by decide +kernel]
    simp [enc, gB]
  · rw [show bytesOf (partsI.getD (6 : Int).toNat ByteArray.empty) = [115, 122, 114] by decide +kernel, show nb 6 1 = [6] by decide +kernel, show has 6 115 = true by decide +kernel, show has 6 102 = false by decide +kernel, show has 6 122 = true by decide +kernel, show has 6 114 = true by decide +kernel, show has 6 99 = false by decide +kernel, show has 6 112 = false by decide +kernel, show has 6 108 = false by decide +kernel]
    simp [enc, gB]
  · rw [show bytesOf (partsI.getD (7 : Int).toNat ByteArray.empty) = [102, 99] by decide +kernel, show nb 7 1 = [7] by decide +kernel, show has 7 115 = false by decide +kernel, show has 7 102 = true by decide +kernel, show has 7 122 = false by decide +kernel, show has 7 114 = false by decide +kernel, show has 7 99 = true by decide +kernel, show has 7 112 = false by decide +kernel, show has 7 108 = false by decide +kernel]
    simp [enc, gB]
  · rw [show bytesOf (partsI.getD (8 : Int).toNat ByteArray.empty) = [102, 108] by decide +kernel, show nb 8 1 = [8] by decide +kernel, show has 8 115 = false by decide +kernel, show has 8 102 = true by decide +kernel, show has 8 122 = false by decide +kernel, show has 8 114 = false by decide +kernel, show has 8 99 = false by decide +kernel, show has 8 112 = false by decide +kernel, show has 8 108 = true by decide +kernel]
    simp [enc, gB]
end
end Go.Proofs.Ytflcbanemolkfaa.Q
