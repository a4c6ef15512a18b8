/- WireOk as a plain function: the program's and the reference's come to it. Condition: fewer than 2^40 leaves and digests. -/
import Derived.Test.YtflcbanemolkfaaZWBQBytes
import Derived.Test.YtflcbanemolkfaaZWBFImplWireOk
import Derived.Test.YtflcbanemolkfaaZWBFSpecWireOk
namespace Go.Proofs.Ytflcbanemolkfaa.Q
open Go.RowKit Go.Proofs.Ytflcbanemolkfaa.B Go.Proofs.YtflcbanemolkfaaW.PrintWords Go.Proofs.YtflcbanemolkfaaW.PrintLast Go.Proofs.YtflcbanemolkfaaW.PrintMore
set_option linter.unusedVariables false
set_option linter.unusedSimpArgs false
def cont (s : ByteArray) (c : Int) : Bool := decide (c ∈ bytesOf s)
theorem has_l (c : Int) (s : ByteArray) (hs : s.size ≤ 1000) (n : Nat) : ∀ (k i : Nat), s.size = i + n → n < k → impl_has.l0 k c s (i : Int) = some (decide (c ∈ (bytesOf s).drop i)) := by
  induction n with
  | zero =>
    intro k i h hk
    obtain ⟨k, rfl⟩ : ∃ q, k = q + 1 := ⟨k - 1, by omega⟩
    simp only [impl_has.l0]
    rw [if_neg (by omega), List.drop_of_length_le (by rw [bytesOf_length]; omega)]
    simp
  | succ n ih =>
    intro k i h hk
    obtain ⟨k, rfl⟩ : ∃ q, k = q + 1 := ⟨k - 1, by omega⟩
    have hi : i < (bytesOf s).length := by rw [bytesOf_length]; omega
    simp only [impl_has.l0]
    rw [if_pos (by omega), if_pos (by omega), btB_nat hi, List.drop_eq_getElem_cons hi]
    by_cases e : (bytesOf s)[i] = c
    · rw [if_pos e]
      simp [e]
    · rw [if_neg e, step64 (by omega), ih k (i + 1) (by omega) (by omega)]
      refine congrArg some (decide_eq_decide.2 ?_)
      rw [List.mem_cons]
      exact ⟨.inr, fun hh => hh.elim (fun h2 => absurd h2.symm e) id⟩
theorem in_l (c : Int) (s : ByteArray) (hs : s.size ≤ 1000) (n : Nat) : ∀ (k i : Nat), s.size = i + n → n < k → spec_l5In.l0 k s c (i : Int) = some (decide (c ∈ (bytesOf s).drop i)) := by
  induction n with
  | zero =>
    intro k i h hk
    obtain ⟨k, rfl⟩ : ∃ q, k = q + 1 := ⟨k - 1, by omega⟩
    simp only [spec_l5In.l0]
    rw [if_neg (by omega), List.drop_of_length_le (by rw [bytesOf_length]; omega)]
    simp
  | succ n ih =>
    intro k i h hk
    obtain ⟨k, rfl⟩ : ∃ q, k = q + 1 := ⟨k - 1, by omega⟩
    have hi : i < (bytesOf s).length := by rw [bytesOf_length]; omega
    simp only [spec_l5In.l0]
    rw [if_pos (by omega), if_pos (by omega), btB_nat hi, List.drop_eq_getElem_cons hi]
    by_cases e : (bytesOf s)[i] = c
    · rw [if_pos e]
      simp [e]
    · rw [if_neg e, step64 (by omega), ih k (i + 1) (by omega) (by omega)]
      refine congrArg some (decide_eq_decide.2 ?_)
      rw [List.mem_cons]
      exact ⟨.inr, fun hh => hh.elim (fun h2 => absurd h2.symm e) id⟩
theorem spec_inS {k : Nat} (s : ByteArray) (c : Int) (hs : s.size ≤ 1000) (hk : s.size < k) : spec_l5In.f k s c = some (cont s c) := by
  unfold spec_l5In.f cont
  have := in_l c s hs s.size k 0 (by omega) hk
  rw [List.drop_zero] at this
  exact this
def partsI : List ByteArray := [(⟨#[]⟩ : ByteArray), (⟨#[115]⟩ : ByteArray), (⟨#[115, 122, 114]⟩ : ByteArray), (⟨#[115, 122, 114]⟩ : ByteArray), (⟨#[102, 122]⟩ : ByteArray), (⟨#[102, 122, 112]⟩ : ByteArray), (⟨#[115, 122, 114]⟩ : ByteArray), (⟨#[102, 99]⟩ : ByteArray), (⟨#[102, 108]⟩ : ByteArray)]
def partsS : List ByteArray := [(⟨#[]⟩ : ByteArray), (⟨#[115]⟩ : ByteArray), (⟨#[115, 110, 114]⟩ : ByteArray), (⟨#[115, 110, 114]⟩ : ByteArray), (⟨#[102, 110]⟩ : ByteArray), (⟨#[102, 110, 112]⟩ : ByteArray), (⟨#[115, 110, 114]⟩ : ByteArray), (⟨#[102, 99]⟩ : ByteArray), (⟨#[102, 108]⟩ : ByteArray)]
theorem kinds {a : Int} (h : 1 ≤ a ∧ a ≤ 8) : a = 1 ∨ a = 2 ∨ a = 3 ∨ a = 4 ∨ a = 5 ∨ a = 6 ∨ a = 7 ∨ a = 8 := by omega
theorem inW {a lo hi : Int} : impl_in.f a lo hi = some (decide (lo ≤ a ∧ a ≤ hi)) := impl_in
theorem parts_in {a : Int} (h : 1 ≤ a ∧ a ≤ 8) : impl_partsOf.f a = some (partsI.getD a.toNat ByteArray.empty) := by
  unfold impl_partsOf.f
  refine bsw inW ?_
  rw [if_pos (by simpa using h)]
  simp only [Option.bind_some]
  rw [if_pos (by omega), if_pos (by simp; omega)]
  rfl
theorem partsI_small : ∀ i : Fin 9, (partsI.getD i.val ByteArray.empty).size ≤ 3 := by decide +kernel
theorem partsS_small : ∀ i : Fin 9, (partsS.getD i.val ByteArray.empty).size ≤ 3 := by decide +kernel
theorem partsS_more : ∀ i : Fin 9, i.val ≠ 0 → (partsS.getD i.val ByteArray.empty).toList ≠ [] := by decide +kernel
def has (a : Int) (c : Int) : Bool := cont (partsI.getD a.toNat ByteArray.empty) c
theorem impl_hasS {k : Nat} (hk : 10 < k) {a : Int} (h : 1 ≤ a ∧ a ≤ 8) (c : Int) : impl_has.f k a c = some (has a c) := by
  unfold impl_has.f has cont
  have hs := partsI_small ⟨a.toNat, by omega⟩
  refine bsw (parts_in h) ?_
  have := has_l c (partsI.getD a.toNat ByteArray.empty) (by have := hs; simp only at this; omega) (partsI.getD a.toNat ByteArray.empty).size k 0 (by omega) (by have := hs; simp only at this; omega)
  rw [List.drop_zero] at this
  exact this
theorem specHas {k : Nat} (hk : 1 ≤ k) {a : Int} (h : 1 ≤ a ∧ a ≤ 8) : spec_l5Has.f k a = some (partsS.getD a.toNat ByteArray.empty) := by
  obtain ⟨k, rfl⟩ : ∃ q, k = q + 1 := ⟨k - 1, by omega⟩
  rcases kinds h with rfl | rfl | rfl | rfl | rfl | rfl | rfl | rfl <;> rfl
theorem specHas_out {k : Nat} (hk : 1 ≤ k) {a : Int} (h : ¬ (1 ≤ a ∧ a ≤ 8)) : spec_l5Has.f k a = some (⟨#[]⟩ : ByteArray) := by
  obtain ⟨k, rfl⟩ : ∃ q, k = q + 1 := ⟨k - 1, by omega⟩
  unfold spec_l5Has.f
  rw [if_neg (by omega), if_neg (by omega), if_neg (by omega), show (a == 6) = false by simp; omega]
  simp only [spec_l5Has.j0]
  rw [if_neg (by simp), if_neg (by omega), if_neg (by omega), if_neg (by omega), if_neg (by omega)]
theorem same_parts : ∀ i : Fin 9, (cont (partsS.getD i.val ByteArray.empty) 115 = cont (partsI.getD i.val ByteArray.empty) 115) ∧ (cont (partsS.getD i.val ByteArray.empty) 102 = cont (partsI.getD i.val ByteArray.empty) 102) ∧ (cont (partsS.getD i.val ByteArray.empty) 110 = cont (partsI.getD i.val ByteArray.empty) 122) ∧ (cont (partsS.getD i.val ByteArray.empty) 114 = cont (partsI.getD i.val ByteArray.empty) 114) ∧
    (cont (partsS.getD i.val ByteArray.empty) 99 = cont (partsI.getD i.val ByteArray.empty) 99) ∧ (cont (partsS.getD i.val ByteArray.empty) 112 = cont (partsI.getD i.val ByteArray.empty) 112) ∧ (cont (partsS.getD i.val ByteArray.empty) 108 = cont (partsI.getD i.val ByteArray.empty) 108) := by decide +kernel
theorem specIn {k : Nat} (hk : 10 < k) {a : Int} (h : 1 ≤ a ∧ a ≤ 8) (c : Int) : spec_l5In.f k (partsS.getD a.toNat ByteArray.empty) c = some (cont (partsS.getD a.toNat ByteArray.empty) c) := by
  have hs := partsS_small ⟨a.toNat, by omega⟩
  simp only at hs
  exact spec_inS _ c (by omega) (by omega)
def pOk (is : Bool) (n lo hi : Int) : Bool := if is = true then decide (lo ≤ n ∧ n ≤ hi) else n == 0
theorem partOk_is (is : Bool) (n lo hi : Int) : impl_partOk.f is n lo hi = some (pOk is n lo hi) := by
  unfold impl_partOk.f pOk
  cases is with
  | true => rw [if_pos rfl, if_pos rfl]; exact bsw inW rfl
  | false => rw [if_neg (by simp), if_neg (by simp)]
def small (L : List ByteArray) : Bool := L.all fun s => decide (s.size ≤ 40)
theorem rdW_nat {l : List ByteArray} {i : Nat} (h : i < l.length) : rdOf ByteArray.empty l (i : Int) = l[i] := by simp [rdOf, List.getD, List.getElem?_eq_getElem h]
def rest (a x1 x2 x3 x4 x5 x6 x7 x8 : Int) (P : List SD) (L : List ByteArray) : Bool :=
  pOk (has a 115) x1 1 1000000 && (pOk (has a 102) x2 0 256 && (pOk (has a 122) x3 0 256 && ((has a 114 || (x4 == 0 && (x5 == 0 && (x6 == 0 && (x7 == 0))))) && (pOk (has a 99) x8 1 8 && (pOk (has a 112) (P.length : Int) 0 16 && pOk (has a 108) (L.length : Int) 0 8)))))
def wok (a x1 x2 x3 x4 x5 x6 x7 x8 : Int) (P : List SD) (L : List ByteArray) : Bool := small L && (decide (1 ≤ a ∧ a ≤ 8) && rest a x1 x2 x3 x4 x5 x6 x7 x8 P L)
theorem impl_wok_l (a x1 x2 x3 x4 x5 x6 x7 x8 : Int) (P : List SD) (L : List ByteArray) (hL : L.length < 1099511627776) (n : Nat) : ∀ (k i : Nat), L.length = i + n → n + 20 < k → impl_WireOk.l0 k a L (L.length : Int) (i : Int) a x1 x2 x3 x4 x5 x6 x7 x8 P L = some (small (L.drop i) && (decide (1 ≤ a ∧ a ≤ 8) && rest a x1 x2 x3 x4 x5 x6 x7 x8 P L)) := by
  induction n with
  | zero =>
    intro k i h hk
    obtain ⟨k, rfl⟩ : ∃ q, k = q + 1 := ⟨k - 1, by omega⟩
    rw [impl_WireOk.l0, if_neg (by omega), List.drop_of_length_le (by omega), show small [] = true from rfl, Bool.true_and]
    refine bsw inW ?_
    by_cases c : 1 ≤ a ∧ a ≤ 8
    · rw [decide_eq_true c, if_pos rfl, Bool.true_and]
      unfold rest
      refine bsw (impl_hasS (by omega) c 115) (bsw (partOk_is _ _ _ _) ?_)
      cases pOk (has a 115) x1 1 1000000 with
      | false => rw [if_neg (by simp), Bool.false_and]
      | true =>
        rw [if_pos rfl, Bool.true_and]
        refine bsw (impl_hasS (by omega) c 102) (bsw (partOk_is _ _ _ _) ?_)
        cases pOk (has a 102) x2 0 256 with
        | false => rw [if_neg (by simp), Bool.false_and]
        | true =>
          rw [if_pos rfl, Bool.true_and]
          refine bsw (impl_hasS (by omega) c 122) (bsw (partOk_is _ _ _ _) ?_)
          cases pOk (has a 122) x3 0 256 with
          | false => rw [if_neg (by simp), Bool.false_and]
          | true =>
            rw [if_pos rfl, Bool.true_and]
            have tail : ((impl_has.f k a 99).bind fun t => (impl_partOk.f t x8 1 8).bind fun t2 => (if t2 = true then ((impl_has.f k a 112).bind fun t3 => ((impl_partOk.f t3 (P.length : Int) 0 16).bind fun t4 => (if t4 = true then ((impl_has.f k a 108).bind fun t5 => ((impl_partOk.f t5 (L.length : Int) 0 8).bind fun t6 => (some t6))) else (some false)))) else (some false))) = some (pOk (has a 99) x8 1 8 && (pOk (has a 112) (P.length : Int) 0 16 && pOk (has a 108) (L.length : Int) 0 8)) := by
              refine bsw (impl_hasS (by omega) c 99) (bsw (partOk_is _ _ _ _) ?_)
              cases pOk (has a 99) x8 1 8 with
              | false => rw [if_neg (by simp), Bool.false_and]
              | true =>
                rw [if_pos rfl, Bool.true_and]
                refine bsw (impl_hasS (by omega) c 112) (bsw (partOk_is _ _ _ _) ?_)
                cases pOk (has a 112) (P.length : Int) 0 16 with
                | false => rw [if_neg (by simp), Bool.false_and]
                | true =>
                  rw [if_pos rfl, Bool.true_and]
                  exact bsw (impl_hasS (by omega) c 108) (bsw (partOk_is _ _ _ _) rfl)
            refine bsw (impl_hasS (by omega) c 114) ?_
            cases has a 114 with
            | true => rw [if_pos rfl, Bool.true_or, Bool.true_and]; exact tail
            | false =>
              rw [if_neg (by simp), Bool.false_or]
              cases (x4 == 0 && (x5 == 0 && (x6 == 0 && (x7 == 0)))) with
              | false => rw [if_neg (by simp), Bool.false_and]
              | true => rw [if_pos rfl, Bool.true_and]; exact tail
    · rw [decide_eq_false c, if_neg (by simp), Bool.false_and]
  | succ n ih =>
    intro k i h hk
    obtain ⟨k, rfl⟩ : ∃ q, k = q + 1 := ⟨k - 1, by omega⟩
    have hi : i < L.length := by omega
    rw [impl_WireOk.l0, if_pos (by omega), if_pos (by omega), if_pos (by omega), rdW_nat hi, List.drop_eq_getElem_cons hi]
    unfold small
    rw [List.all_cons]
    by_cases c : (L[i].size : Int) > 40
    · rw [if_pos c, decide_eq_false (by omega : ¬ L[i].size ≤ 40)]
      simp
    · rw [if_neg c, decide_eq_true (by omega : L[i].size ≤ 40), Bool.true_and, step64 (by omega)]
      exact ih k (i + 1) (by omega) (by omega)
theorem impl_wok {k : Nat} (hk : 1099511627800 < k) (a x1 x2 x3 x4 x5 x6 x7 x8 : Int) (P : List SD) (L : List ByteArray) (hL : L.length < 1099511627776) : impl_WireOk.f k a x1 x2 x3 x4 x5 x6 x7 x8 P L = some (wok a x1 x2 x3 x4 x5 x6 x7 x8 P L) := by
  unfold impl_WireOk.f wok
  have := impl_wok_l a x1 x2 x3 x4 x5 x6 x7 x8 P L hL L.length k 0 (by omega) (by omega)
  rw [List.drop_zero] at this
  exact this
theorem leaves_sl (L : List ByteArray) (hL : L.length < 1099511627776) (n : Nat) : ∀ (k i : Nat), L.length = i + n → n < k → spec_l5LeavesOk.l0 k L (i : Int) = some (small (L.drop i)) := by
  induction n with
  | zero =>
    intro k i h hk
    obtain ⟨k, rfl⟩ : ∃ q, k = q + 1 := ⟨k - 1, by omega⟩
    rw [spec_l5LeavesOk.l0, if_neg (by omega), List.drop_of_length_le (by omega)]
    rfl
  | succ n ih =>
    intro k i h hk
    obtain ⟨k, rfl⟩ : ∃ q, k = q + 1 := ⟨k - 1, by omega⟩
    have hi : i < L.length := by omega
    rw [spec_l5LeavesOk.l0, if_pos (by omega), if_pos (by omega), rdW_nat hi, List.drop_eq_getElem_cons hi]
    unfold small
    rw [List.all_cons]
    by_cases c : (L[i].size : Int) > 40
    · rw [if_pos c, decide_eq_false (by omega : ¬ L[i].size ≤ 40)]
      simp
    · rw [if_neg c, decide_eq_true (by omega : L[i].size ≤ 40), Bool.true_and, step64 (by omega)]
      exact ih k (i + 1) (by omega) (by omega)
theorem spec_leavesS {k : Nat} (L : List ByteArray) (hL : L.length < 1099511627776) (hk : 20 < k) : spec_l5LeavesOk.f k L = some (decide (L.length ≤ 8) && small L) := by
  unfold spec_l5LeavesOk.f
  by_cases c : (L.length : Int) > 8
  · rw [if_pos c, decide_eq_false (by omega)]; rfl
  · rw [if_neg c, decide_eq_true (by omega : L.length ≤ 8), Bool.true_and]
    exact leaves_sl L hL L.length k 0 (by omega) (by omega)
theorem last_same (is : Bool) (L : List ByteArray) : (if is = true then (decide (L.length ≤ 8) && small L) else ((L.length : Int) == 0)) = (small L && pOk is (L.length : Int) 0 8) := by
  cases is with
  | true =>
    rw [if_pos rfl, Bool.and_comm]
    unfold pOk
    rw [if_pos rfl]
    refine congrArg (small L && ·) (decide_eq_decide.2 ?_)
    omega
  | false =>
    rw [if_neg (by simp)]
    unfold pOk
    rw [if_neg (by simp)]
    cases L with
    | nil => rfl
    | cons s L =>
      have : (((s :: L).length : Int) == 0) = false := by simp; omega
      rw [this, Bool.and_false]
theorem chain3 {k : Nat} {h : ByteArray} {c : Int} {t : Bool} (F : Bool → Option Bool) (x lo hi : Int) (hI : spec_l5In.f k h c = some t) : ((spec_l5In.f k h c).bind fun t1 => (if t1 = true then ((spec_l1In.f x lo hi).bind fun t2 => (if t2 = true then ((spec_l5In.f k h c).bind fun t3 => (if t3 = true then F false else F (x != 0))) else F true)) else ((spec_l5In.f k h c).bind fun t4 => (if t4 = true then F false else F (x != 0))))) = F (!(pOk t x lo hi)) := by
  rw [hI]
  simp only [Option.bind_some]
  unfold pOk
  cases t with
  | true =>
    rw [if_pos rfl, if_pos rfl, if_pos rfl]
    refine bsw spec_in ?_
    cases decide (lo ≤ x ∧ x ≤ hi) with
    | true => rw [if_pos rfl]; rfl
    | false => rw [if_neg (by simp)]; rfl
  | false =>
    rw [if_neg (by simp), if_neg (by simp), if_neg (by simp)]
    rfl
theorem spec_wok {k : Nat} (hk : 1099511627800 < k) (a x1 x2 x3 x4 x5 x6 x7 x8 : Int) (P : List SD) (L : List ByteArray) (hL : L.length < 1099511627776) : spec_WireOk.f (k + 6) a x1 x2 x3 x4 x5 x6 x7 x8 P L = some (wok a x1 x2 x3 x4 x5 x6 x7 x8 P L) := by
  unfold spec_WireOk.f wok
  by_cases c : 1 ≤ a ∧ a ≤ 8
  · refine bsw (specHas (by omega) c) ?_
    obtain ⟨e1, e2, e3, e4, e5, e6, e7⟩ := same_parts ⟨a.toNat, by omega⟩
    have hm := partsS_more ⟨a.toNat, by omega⟩ (by show a.toNat ≠ 0; omega)
    simp only at e1 e2 e3 e4 e5 e6 e7 hm
    rw [if_neg hm, decide_eq_true c, Bool.true_and]
    have I : ∀ {q : Nat}, 10 < q → ∀ c, spec_l5In.f q (partsS.getD a.toNat ByteArray.empty) c = some (cont (partsS.getD a.toNat ByteArray.empty) c) := fun hq c' => specIn hq c c'
    generalize partsS.getD a.toNat ByteArray.empty = h at e1 e2 e3 e4 e5 e6 e7 I ⊢
    have I1 : ∀ {q : Nat}, 10 < q → spec_l5In.f q h 115 = some (has a 115) := fun hq => (I hq 115).trans (congrArg some e1)
    have I2 : ∀ {q : Nat}, 10 < q → spec_l5In.f q h 102 = some (has a 102) := fun hq => (I hq 102).trans (congrArg some e2)
    have I3 : ∀ {q : Nat}, 10 < q → spec_l5In.f q h 110 = some (has a 122) := fun hq => (I hq 110).trans (congrArg some e3)
    have I4 : ∀ {q : Nat}, 10 < q → spec_l5In.f q h 114 = some (has a 114) := fun hq => (I hq 114).trans (congrArg some e4)
    have I5 : ∀ {q : Nat}, 10 < q → spec_l5In.f q h 99 = some (has a 99) := fun hq => (I hq 99).trans (congrArg some e5)
    have I6 : ∀ {q : Nat}, 10 < q → spec_l5In.f q h 112 = some (has a 112) := fun hq => (I hq 112).trans (congrArg some e6)
    have I7 : ∀ {q : Nat}, 10 < q → spec_l5In.f q h 108 = some (has a 108) := fun hq => (I hq 108).trans (congrArg some e7)
    clear I e1 e2 e3 e4 e5 e6 e7
    unfold rest
    generalize has a 115 = f1 at I1 ⊢
    generalize has a 102 = f2 at I2 ⊢
    generalize has a 122 = f3 at I3 ⊢
    generalize has a 114 = f4 at I4 ⊢
    generalize has a 99 = f5 at I5 ⊢
    generalize has a 112 = f6 at I6 ⊢
    generalize has a 108 = f7 at I7 ⊢
    have J5 : ∀ b, spec_WireOk.j5 (k + 1) h (!b) a x1 x2 x3 x4 x5 x6 x7 x8 P L = some (b && (small L && pOk f7 (L.length : Int) 0 8)) := by
      intro b
      rw [spec_WireOk.j5]
      cases b with
      | false => rw [if_pos (show (!false) = true from rfl), Bool.false_and]
      | true =>
        rw [if_neg (by simp), Bool.true_and, ← last_same]
        refine bsw (I7 (by omega)) ?_
        cases f7 with
        | true =>
          rw [if_pos rfl, if_pos rfl]
          refine bsw (spec_leavesS L hL (by omega)) ?_
          cases (decide (L.length ≤ 8) && small L) with
          | true => rw [if_pos rfl]
          | false =>
            rw [if_neg (by simp)]
            refine bsw (I7 (by omega)) ?_
            rw [if_pos rfl]
        | false =>
          rw [if_neg (by simp), if_neg (by simp)]
          refine bsw (I7 (by omega)) ?_
          rw [if_neg (by simp)]
    have J4 : ∀ b, spec_WireOk.j4 (k + 2) h (!b) a x1 x2 x3 x4 x5 x6 x7 x8 P L = some (b && (pOk f6 (P.length : Int) 0 16 && (small L && pOk f7 (L.length : Int) 0 8))) := by
      intro b
      rw [spec_WireOk.j4]
      cases b with
      | false => rw [if_pos (show (!false) = true from rfl), Bool.false_and]
      | true =>
        rw [if_neg (by simp), Bool.true_and]
        refine bsw (I6 (by omega)) ?_
        unfold pOk
        cases f6 with
        | true =>
          rw [if_pos rfl, if_pos rfl]
          by_cases c2 : (P.length : Int) > 16
          · rw [if_pos c2, decide_eq_false (show ¬ (0 ≤ (P.length : Int) ∧ (P.length : Int) ≤ 16) by omega)]
            exact J5 false
          · rw [if_neg c2, decide_eq_true (show 0 ≤ (P.length : Int) ∧ (P.length : Int) ≤ 16 by omega)]
            refine bsw (I6 (by omega)) ?_
            rw [if_pos rfl]
            exact J5 true
        | false =>
          rw [if_neg (by simp), if_neg (by simp)]
          refine bsw (I6 (by omega)) ?_
          rw [if_neg (by simp), show decide ((P.length : Int) > 0) = !((P.length : Int) == 0) by
            cases P with
            | nil => rfl
            | cons p P =>
              have : (((p :: P).length : Int) == 0) = false := by simp; omega
              rw [this]
              exact decide_eq_true (show ((((p :: P).length : Nat) : Int) > 0) by rw [List.length_cons]; omega)]
          exact J5 _
    have J3 : ∀ b, spec_WireOk.j3 (k + 3) h (!b) a x1 x2 x3 x4 x5 x6 x7 x8 P L = some (b && (pOk f5 x8 1 8 && (pOk f6 (P.length : Int) 0 16 && (small L && pOk f7 (L.length : Int) 0 8)))) := by
      intro b
      rw [spec_WireOk.j3]
      cases b with
      | false => rw [if_pos (show (!false) = true from rfl), Bool.false_and]
      | true =>
        rw [if_neg (by simp), Bool.true_and]
        exact (chain3 (fun b => spec_WireOk.j4 (k + 2) h b a x1 x2 x3 x4 x5 x6 x7 x8 P L) x8 1 8 (I5 (by omega))).trans (J4 _)
    have J2 : ∀ b, spec_WireOk.j2 (k + 4) h (!b) a x1 x2 x3 x4 x5 x6 x7 x8 P L = some (b && ((f4 || (x4 == 0 && (x5 == 0 && (x6 == 0 && (x7 == 0))))) && (pOk f5 x8 1 8 && (pOk f6 (P.length : Int) 0 16 && (small L && pOk f7 (L.length : Int) 0 8))))) := by
      intro b
      rw [spec_WireOk.j2]
      cases b with
      | false => rw [if_pos (show (!false) = true from rfl), Bool.false_and]
      | true =>
        rw [if_neg (by simp), Bool.true_and]
        refine bsw (I4 (by omega)) ?_
        cases f4 with
        | true =>
          rw [if_pos rfl, Bool.true_or]
          exact J3 true
        | false =>
          rw [if_neg (by simp), Bool.false_or, show (!(x4 == 0) || (!(x5 == 0) || (!(x6 == 0) || (!(x7 == 0))))) = !(x4 == 0 && (x5 == 0 && (x6 == 0 && (x7 == 0)))) by simp only [Bool.not_and]]
          exact J3 _
    have J1 : ∀ b, spec_WireOk.j1 (k + 5) h (!b) a x1 x2 x3 x4 x5 x6 x7 x8 P L = some (b && (pOk f3 x3 0 256 && ((f4 || (x4 == 0 && (x5 == 0 && (x6 == 0 && (x7 == 0))))) && (pOk f5 x8 1 8 && (pOk f6 (P.length : Int) 0 16 && (small L && pOk f7 (L.length : Int) 0 8)))))) := by
      intro b
      rw [spec_WireOk.j1]
      cases b with
      | false => rw [if_pos (show (!false) = true from rfl), Bool.false_and]
      | true =>
        rw [if_neg (by simp), Bool.true_and]
        exact (chain3 (fun b => spec_WireOk.j2 (k + 4) h b a x1 x2 x3 x4 x5 x6 x7 x8 P L) x3 0 256 (I3 (by omega))).trans (J2 _)
    have J0 : ∀ b, spec_WireOk.j0 (k + 6) h (!b) a x1 x2 x3 x4 x5 x6 x7 x8 P L = some (b && (pOk f2 x2 0 256 && (pOk f3 x3 0 256 && ((f4 || (x4 == 0 && (x5 == 0 && (x6 == 0 && (x7 == 0))))) && (pOk f5 x8 1 8 && (pOk f6 (P.length : Int) 0 16 && (small L && pOk f7 (L.length : Int) 0 8))))))) := by
      intro b
      rw [spec_WireOk.j0]
      cases b with
      | false => rw [if_pos (show (!false) = true from rfl), Bool.false_and]
      | true =>
        rw [if_neg (by simp), Bool.true_and]
        exact (chain3 (fun b => spec_WireOk.j1 (k + 5) h b a x1 x2 x3 x4 x5 x6 x7 x8 P L) x2 0 256 (I2 (by omega))).trans (J1 _)
    refine ((chain3 (fun b => spec_WireOk.j0 (k + 6) h b a x1 x2 x3 x4 x5 x6 x7 x8 P L) x1 1 1000000 (I1 (by omega))).trans (J0 _)).trans ?_
    refine congrArg some ?_
    cases small L
    · simp only [Bool.false_and, Bool.and_false]
    · simp only [Bool.true_and]
  · refine bsw (specHas_out (by omega) c) ?_
    rw [if_pos empty_list, decide_eq_false c, Bool.false_and, Bool.and_false]
where
  empty_list : (⟨#[]⟩ : ByteArray).toList = ([] : List UInt8) := by decide +kernel
end Go.Proofs.Ytflcbanemolkfaa.Q
