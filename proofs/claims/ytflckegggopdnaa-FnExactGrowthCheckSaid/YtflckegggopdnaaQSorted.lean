/- The nodes of a growth begin one behind the other: how many begin ahead of a place, and what a map made of them holds. No condition. -/
import Derived.Test.YtflckegggopdnaaQFall
import Derived.Test.YtflckegggopdnaaHLook
import Derived.Test.YtflckegggopdnaaQList
namespace Go.Proofs.Ytflckegggopdnaa.Q
open Go.RowKit Go.Proofs.Ytflckegggopdnaa.B Go.Proofs.YtflckegggopdnaaW.PrintWords Go.Proofs.YtflckegggopdnaaW.PrintLast Go.Proofs.YtflckegggopdnaaW.PrintMore
set_option linter.unusedVariables false
/-- How many nodes begin ahead of a place. -/
def ahead : List NO → Int → Nat
  | [], _ => 0
  | x :: xs, a => (if x.f0 < a then 1 else 0) + ahead xs a
def Sorted (xs : List NO) : Prop := xs.Pairwise (fun x y => x.f0 < y.f0)
theorem ahead_append (xs ys : List NO) (a : Int) : ahead (xs ++ ys) a = ahead xs a + ahead ys a := by
  induction xs with
  | nil => simp [ahead]
  | cons x xs ih => simp only [List.cons_append, ahead, ih]; omega
theorem ahead_none {xs : List NO} {a : Int} (h : ∀ x ∈ xs, a ≤ x.f0) : ahead xs a = 0 := by
  induction xs with
  | nil => rfl
  | cons x xs ih =>
    have h1 := h x List.mem_cons_self
    simp only [ahead]
    rw [if_neg (by omega), ih (fun y hy => h y (List.mem_cons_of_mem _ hy))]
theorem ahead_all {xs : List NO} {a : Int} (h : ∀ x ∈ xs, x.f0 < a) : ahead xs a = xs.length := by
  induction xs with
  | nil => rfl
  | cons x xs ih =>
    simp only [ahead, List.length_cons]
    rw [if_pos (h x List.mem_cons_self), ih (fun y hy => h y (List.mem_cons_of_mem _ hy))]
    omega
theorem ahead_at {xs : List NO} (hs : Sorted xs) : ∀ (j : Nat) (hj : j < xs.length), ahead xs xs[j].f0 = j := by
  induction xs with
  | nil => intro j hj; exact absurd hj (by simp)
  | cons x xs ih =>
    intro j hj
    obtain ⟨h1, h2⟩ := List.pairwise_cons.1 hs
    cases j with
    | zero =>
      simp only [ahead, List.getElem_cons_zero]
      rw [if_neg (by omega), ahead_none (fun y hy => Int.le_of_lt (h1 y hy))]
    | succ j =>
      have hj' : j < xs.length := by simpa using hj
      simp only [ahead, List.getElem_cons_succ]
      rw [if_pos (h1 _ (List.getElem_mem hj')), ih h2 j hj']
      omega
theorem ahead_lt {xs : List NO} (hs : Sorted xs) {x : NO} (hx : x ∈ xs) : ∃ h : ahead xs x.f0 < xs.length, xs[ahead xs x.f0] = x := by
  obtain ⟨j, hj, e⟩ := List.getElem_of_mem hx
  have := ahead_at hs j hj
  rw [e] at this
  subst this
  exact ⟨hj, e⟩
theorem fall_in (f : Nat) : ∀ (lo hi m : Nat), hi - lo ≤ f → hi ≤ 256 → lo < hi →
    (∀ x ∈ (fallF f lo hi m).1, (lo : Int) ≤ x.f0 ∧ x.f0 < x.f1 ∧ x.f1 ≤ (hi : Int) ∧ x.f1 ≤ (m : Int)) ∧ (∀ x ∈ (fallF f lo hi m).2, (lo : Int) ≤ x.f0 ∧ x.f0 < x.f1 ∧ x.f1 ≤ (hi : Int) ∧ (m : Int) ≤ x.f0) := by
  induction f with
  | zero => intro lo hi m h h1 h2; omega
  | succ f ih =>
    intro lo hi m h h1 h2
    simp only [fallF]
    by_cases ha : hi ≤ m
    · rw [if_pos ha]
      refine ⟨fun x hx => ?_, fun x hx => absurd hx (by simp)⟩
      rw [List.mem_singleton.1 hx]
      show (lo : Int) ≤ (lo : Int) ∧ (lo : Int) < (hi : Int) ∧ (hi : Int) ≤ (hi : Int) ∧ (hi : Int) ≤ (m : Int)
      omega
    · rw [if_neg ha]
      by_cases hb : m ≤ lo
      · rw [if_pos hb]
        refine ⟨fun x hx => absurd hx (by simp), fun x hx => ?_⟩
        rw [List.mem_singleton.1 hx]
        show (lo : Int) ≤ (lo : Int) ∧ (lo : Int) < (hi : Int) ∧ (hi : Int) ≤ (hi : Int) ∧ (m : Int) ≤ (lo : Int)
        omega
      · rw [if_neg hb]
        have hs := spl_lt (n := hi - lo) (by omega) (by omega)
        obtain ⟨i1, i2⟩ := ih lo (lo + spl (hi - lo)) m (by omega) (by omega) (by omega)
        obtain ⟨i3, i4⟩ := ih (lo + spl (hi - lo)) hi m (by omega) (by omega) (by omega)
        refine ⟨fun x hx => ?_, fun x hx => ?_⟩
        · rcases List.mem_append.1 hx with hx | hx
          · have := i1 x hx; omega
          · have := i3 x hx; omega
        · rcases List.mem_append.1 hx with hx | hx
          · have := i2 x hx; omega
          · have := i4 x hx; omega
theorem fall_sorted (f : Nat) : ∀ (lo hi m : Nat), hi - lo ≤ f → hi ≤ 256 → lo < hi → Sorted (fallF f lo hi m).1 ∧ Sorted (fallF f lo hi m).2 := by
  induction f with
  | zero => intro lo hi m h h1 h2; omega
  | succ f ih =>
    intro lo hi m h h1 h2
    simp only [fallF]
    by_cases ha : hi ≤ m
    · rw [if_pos ha]; exact ⟨List.pairwise_singleton _ _, List.Pairwise.nil⟩
    · rw [if_neg ha]
      by_cases hb : m ≤ lo
      · rw [if_pos hb]; exact ⟨List.Pairwise.nil, List.pairwise_singleton _ _⟩
      · rw [if_neg hb]
        have hs := spl_lt (n := hi - lo) (by omega) (by omega)
        obtain ⟨i1, i2⟩ := fall_in f lo (lo + spl (hi - lo)) m (by omega) (by omega) (by omega)
        obtain ⟨i3, i4⟩ := fall_in f (lo + spl (hi - lo)) hi m (by omega) (by omega) (by omega)
        obtain ⟨s1, s2⟩ := ih lo (lo + spl (hi - lo)) m (by omega) (by omega) (by omega)
        obtain ⟨s3, s4⟩ := ih (lo + spl (hi - lo)) hi m (by omega) (by omega) (by omega)
        exact ⟨List.pairwise_append.2 ⟨s1, s3, fun a ha b hb => by have := i1 a ha; have := i3 b hb; omega⟩, List.pairwise_append.2 ⟨s2, s4, fun a ha b hb => by have := i2 a ha; have := i4 b hb; omega⟩⟩
/-- All nodes of a growth, the old ones first. -/
def gnodes (m n : Nat) : List NO := (grow m n).1 ++ (grow m n).2
theorem gnodes_sorted {m n : Nat} (h0 : 0 < n) (h : n ≤ 256) : Sorted (gnodes m n) := by
  obtain ⟨i1, i2⟩ := fall_in n 0 n m (by omega) h h0
  obtain ⟨s1, s2⟩ := fall_sorted n 0 n m (by omega) h h0
  exact List.pairwise_append.2 ⟨s1, s2, fun a ha b hb => by have := i1 a ha; have := i2 b hb; omega⟩
theorem gnodes_len {m n : Nat} (h0 : 0 < n) (h : n ≤ 256) : (gnodes m n).length ≤ n := by
  have := fall_len n 0 n m (by omega) h h0
  unfold gnodes grow
  rw [List.length_append]
  omega
/-- What is stored, one after the other, latest first. -/
def putAll : List NO → List SD → MapD → MapD
  | x :: xs, p :: ps, M => putAll xs ps ((x, p) :: M)
  | _, _, M => M
theorem look_other (xs : List NO) : ∀ (ps : List SD) (M : MapD) (a b : Int), (∀ x ∈ xs, ¬ (x.f0 = a ∧ x.f1 = b)) → lookD (putAll xs ps M) a b = lookD M a b := by
  induction xs with
  | nil => intro ps M a b _; rfl
  | cons x xs ih =>
    intro ps M a b h
    cases ps with
    | nil => rfl
    | cons p ps =>
      simp only [putAll]
      rw [ih ps _ a b (fun y hy => h y (List.mem_cons_of_mem _ hy))]
      simp only [lookD]
      rw [if_neg (h x List.mem_cons_self)]
theorem look_at {xs : List NO} (hs : Sorted xs) : ∀ (ps : List SD) (M : MapD) (j : Nat) (hj : j < xs.length) (hp : j < ps.length), lookD (putAll xs ps M) xs[j].f0 xs[j].f1 = some ps[j] := by
  induction xs with
  | nil => intro ps M j hj; exact absurd hj (by simp)
  | cons x xs ih =>
    intro ps M j hj hp
    obtain ⟨h1, h2⟩ := List.pairwise_cons.1 hs
    cases ps with
    | nil => exact absurd hp (by simp)
    | cons p ps =>
      simp only [putAll]
      cases j with
      | zero =>
        simp only [List.getElem_cons_zero]
        rw [look_other xs ps _ _ _ (fun y hy hh => by have := h1 y hy; omega)]
        simp [lookD]
      | succ j =>
        simp only [List.getElem_cons_succ]
        exact ih h2 ps _ j (by simpa using hj) (by simpa using hp)
/-- The digest that a proof gives to the node that begins at a place. -/
def given (m n : Nat) (P : List SD) (lo : Nat) : SD := P.getD (ahead (gnodes m n) (lo : Int)) ⟨0, 0, 0, 0⟩
theorem look_given {m n : Nat} (h0 : 0 < n) (h : n ≤ 256) {P : List SD} (hP : P.length = (gnodes m n).length) {a b : Nat} (hx : (⟨(a : Int), (b : Int)⟩ : NO) ∈ gnodes m n) : lookD (putAll (gnodes m n) P []) (a : Int) (b : Int) = some (given m n P a) := by
  obtain ⟨hj, e⟩ := ahead_lt (gnodes_sorted h0 h) hx
  have hj' : ahead (gnodes m n) (a : Int) < (gnodes m n).length := hj
  have e' : (gnodes m n)[ahead (gnodes m n) (a : Int)] = (⟨(a : Int), (b : Int)⟩ : NO) := e
  have := look_at (gnodes_sorted h0 h) P [] (ahead (gnodes m n) (a : Int)) hj' (by omega)
  rw [e'] at this
  rw [this]
  unfold given
  rw [List.getD, List.getElem?_eq_getElem (by omega)]
  rfl
theorem look_over {m n : Nat} (h0 : 0 < n) (h : n ≤ 256) (P : List SD) {a b : Nat} (h1 : a < m) (h2 : m < b) : lookD (putAll (gnodes m n) P []) (a : Int) (b : Int) = none := by
  obtain ⟨i1, i2⟩ := fall_in n 0 n m (by omega) h h0
  rw [look_other _ _ _ _ _ (fun x hx hh => ?_)]
  · rfl
  · rcases List.mem_append.1 hx with hx | hx
    · have := i1 x hx; omega
    · have := i2 x hx; omega
end Go.Proofs.Ytflckegggopdnaa.Q
