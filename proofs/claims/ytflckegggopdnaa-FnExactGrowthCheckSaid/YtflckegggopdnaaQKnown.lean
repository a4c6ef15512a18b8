/- What the program's known and digestBy give to the whole tree is what the reference's l3Node gives. Condition: a proof of the length that the growth asks for. -/
import Derived.Test.YtflckegggopdnaaQSorted
import Derived.Test.YtflckegggopdnaaQPair
import Derived.Test.YtflckegggopdnaaQRuns0
import Derived.Test.YtflckegggopdnaaQCount
import Derived.Test.YtflckegggopdnaaFImplKnown
import Derived.Test.YtflckegggopdnaaFImplDigestBy
import Derived.Test.YtflckegggopdnaaFSpecL3Node
namespace Go.Proofs.Ytflckegggopdnaa.Q
open Go.RowKit Go.Proofs.Ytflckegggopdnaa.B Go.Proofs.YtflckegggopdnaaW.PrintWords Go.Proofs.YtflckegggopdnaaW.PrintLast Go.Proofs.YtflckegggopdnaaW.PrintMore
set_option linter.unusedVariables false
set_option linter.unusedSimpArgs false
theorem bsk {α β : Type} {x : Option α} {v : α} {F : α → Option β} {r : Option β} (h : x = some v) (k : F v = r) : x.bind F = r := by rw [h]; exact k
/-- What a node has by the digests that are given. -/
def digF : Nat → Nat → Nat → Nat → (Nat → SD) → D4
  | 0, _, _, _, _ => (0, 0, 0, 0)
  | f + 1, lo, hi, m, g => if hi ≤ m ∨ m ≤ lo then ((g lo).f0, (g lo).f1, (g lo).f2, (g lo).f3) else hashPair (digF f lo (lo + spl (hi - lo)) m g) (digF f (lo + spl (hi - lo)) hi m g)
/-- The greatest power of two that is at most a number. -/
def hlf (n : Nat) : Nat := 2 ^ n.log2
theorem hlf_is {n e : Nat} (h0 : 2 ^ e ≤ n) (h1 : n < 2 ^ (e + 1)) : hlf n = 2 ^ e := by
  unfold hlf
  have : n ≠ 0 := by have : 0 < 2 ^ e := Nat.pow_pos (by omega); omega
  rw [(Nat.log2_eq_iff this).2 ⟨h0, h1⟩]
theorem hlf_le {n : Nat} (h : 1 ≤ n) : 1 ≤ hlf n ∧ hlf n ≤ n := by
  unfold hlf
  exact ⟨Nat.pow_pos (by omega), Nat.log2_self_le (by omega)⟩
theorem spec_hlf {k n : Nat} (hk : 10 < k) (h0 : 1 ≤ n) (h1 : n ≤ 256) : spec_l2Half.f k (n : Int) = some ((hlf n : Nat) : Int) := by
  obtain ⟨e, h, h2, h3, _⟩ := spec_half hk h0 h1
  rw [h, hlf_is h2 h3]
/-- The old nodes, from the left on. -/
def oldF : Nat → Nat → Nat → List NO
  | 0, _, _ => []
  | g + 1, lo, m => if lo < m then ⟨(lo : Int), ((lo + hlf (m - lo) : Nat) : Int)⟩ :: oldF g (lo + hlf (m - lo)) m else []
theorem oldF_ge (g : Nat) : ∀ (lo m : Nat), ∀ x ∈ oldF g lo m, (lo : Int) ≤ x.f0 := by
  induction g with
  | zero => intro lo m x hx; exact absurd hx (by simp [oldF])
  | succ g ih =>
    intro lo m x hx
    simp only [oldF] at hx
    by_cases c : lo < m
    · rw [if_pos c] at hx
      rcases List.mem_cons.1 hx with rfl | hx
      · exact Int.le_refl _
      · have := ih _ _ x hx; omega
    · rw [if_neg c] at hx; exact absurd hx (by simp)
theorem oldF_done (g : Nat) (m : Nat) : oldF g m m = [] := by
  cases g with
  | zero => rfl
  | succ g => simp only [oldF]; rw [if_neg (by omega)]
theorem fall_oldF (f : Nat) : ∀ (lo hi m g : Nat), hi - lo ≤ f → hi ≤ 256 → lo < m → m < hi → m - lo ≤ g → (fallF f lo hi m).1 = oldF g lo m := by
  induction f with
  | zero => intro lo hi m g h h1 h2 h3; omega
  | succ f ih =>
    intro lo hi m g h h1 h2 h3 hg
    obtain ⟨g, rfl⟩ : ∃ q, g = q + 1 := ⟨g - 1, by omega⟩
    simp only [fallF]
    rw [if_neg (by omega), if_neg (by omega)]
    obtain ⟨e, he, h4, h5, h6⟩ := spl_is (n := hi - lo) (by omega) (by omega)
    have hs := spl_lt (n := hi - lo) (by omega) (by omega)
    have hzero : ∀ lo' hi' : Nat, hi' - lo' ≤ f → lo' < hi' → m ≤ lo' → (fallF f lo' hi' m).1 = [] := fun lo' hi' a b c => by
      obtain ⟨f, rfl⟩ : ∃ q, f = q + 1 := ⟨f - 1, by omega⟩
      simp only [fallF]
      rw [if_neg (by omega), if_pos c]
    rcases Nat.lt_or_ge m (lo + spl (hi - lo)) with c | c
    · rw [ih _ _ _ (g + 1) (by omega) (by omega) h2 c hg, hzero _ _ (by omega) (by omega) (by omega), List.append_nil]
    · have hone : (fallF f lo (lo + spl (hi - lo)) m).1 = [⟨(lo : Int), ((lo + spl (hi - lo) : Nat) : Int)⟩] := by
        obtain ⟨f, rfl⟩ : ∃ q, f = q + 1 := ⟨f - 1, by omega⟩
        simp only [fallF]
        rw [if_pos c]
      have hh : hlf (m - lo) = spl (hi - lo) := by
        rw [he]
        exact hlf_is (by omega) (by omega)
      rw [hone]
      simp only [oldF]
      rw [if_pos h2, hh]
      rcases Nat.eq_or_lt_of_le c with c | c
      · rw [hzero _ _ (by omega) (by omega) (by omega), ← c, oldF_done]
        rfl
      · rw [ih _ _ _ g (by omega) h1 c h3 (by omega)]
        rfl
theorem peaksAhead_l (g : Nat) : ∀ (k lo m at_ c : Nat), m - lo ≤ g → m ≤ 256 → 20 + g < k → c + g ≤ 1000000 → spec_l3PeaksAhead.l0 k (m : Int) (at_ : Int) (c : Int) (lo : Int) = some ((c + ahead (oldF g lo m) (at_ : Int) : Nat) : Int) := by
  induction g with
  | zero =>
    intro k lo m at_ c h h1 hk hc
    obtain ⟨k, rfl⟩ : ∃ q, k = q + 1 := ⟨k - 1, by omega⟩
    simp only [spec_l3PeaksAhead.l0]
    rw [if_neg (by omega)]
    rfl
  | succ g ih =>
    intro k lo m at_ c h h1 hk hc
    obtain ⟨k, rfl⟩ : ∃ q, k = q + 1 := ⟨k - 1, by omega⟩
    simp only [spec_l3PeaksAhead.l0]
    by_cases c1 : lo < m
    · rw [if_pos (by omega)]
      by_cases c2 : lo < at_
      · have hh := hlf_le (n := m - lo) (by omega)
        rw [if_pos (by omega), show wrap64 ((m : Int) - (lo : Int)) = ((m - lo : Nat) : Int) by unfold wrap64; omega]
        refine bsk (spec_hlf (by omega) (by omega) (by omega)) ?_
        rw [show wrap64 ((c : Int) + 1) = ((c + 1 : Nat) : Int) by unfold wrap64; omega, show wrap64 ((lo : Int) + ((hlf (m - lo) : Nat) : Int)) = ((lo + hlf (m - lo) : Nat) : Int) by unfold wrap64; omega]
        rw [ih k _ m at_ (c + 1) (by omega) h1 (by omega) (by omega)]
        simp only [oldF]
        rw [if_pos c1]
        simp only [ahead]
        rw [if_pos (by omega)]
        refine congrArg some ?_
        omega
      · rw [if_neg (by omega), ahead_none (fun x hx => by have := oldF_ge (g + 1) lo m x hx; omega)]
        rfl
    · rw [if_neg (by omega)]
      simp only [oldF]
      rw [if_neg c1]
      rfl
theorem rests_at (f : Nat) : ∀ (k lo hi m at_ : Nat), hi - lo ≤ f → lo < hi → hi ≤ 256 → 2 * f + 10 ≤ k → spec_l3Rests.f k (lo : Int) (hi : Int) (m : Int) (at_ : Int) = some ((ahead (fallF f lo hi m).2 (at_ : Int) : Nat) : Int) := by
  induction f with
  | zero => intro k lo hi m at_ h h0; omega
  | succ f ih =>
    intro k lo hi m at_ h h0 h1 hk
    obtain ⟨k, rfl⟩ : ∃ m, k = m + 2 := ⟨k - 2, by omega⟩
    simp only [spec_l3Rests.f, spec_l3Rests.j0]
    by_cases c1 : hi ≤ m
    · rw [if_pos (by omega)]
      simp only [fallF]
      rw [if_pos c1]
      simp [ahead]
    · rw [if_neg (by omega)]
      by_cases c0 : lo ≥ at_
      · rw [if_pos (by simp; omega), ahead_none (fun x hx => by have := (fall_in (f + 1) lo hi m h h1 h0).2 x hx; omega)]
        rfl
      · rw [if_neg (by simp; omega)]
        simp only [fallF]
        rw [if_neg c1]
        by_cases c2 : m ≤ lo
        · rw [if_pos c2, if_pos (by omega)]
          simp only [ahead]
          rw [if_pos (by omega)]
          rfl
        · rw [if_neg c2, if_neg (by omega)]
          have hs := spl_lt (n := hi - lo) (by omega) (by omega)
          have l1 := fall_len f lo (lo + spl (hi - lo)) m (by omega) (by omega) (by omega)
          have l2 := fall_len f (lo + spl (hi - lo)) hi m (by omega) (by omega) (by omega)
          have a1 := ahead_le (fallF f lo (lo + spl (hi - lo)) m).2 (at_ : Int)
          have a2 := ahead_le (fallF f (lo + spl (hi - lo)) hi m).2 (at_ : Int)
          rw [show wrap64 ((hi : Int) - (lo : Int)) = ((hi - lo : Nat) : Int) by unfold wrap64; omega]
          refine bsk (spec_split (by omega) (by omega) (by omega)) ?_
          rw [show wrap64 ((lo : Int) + ((spl (hi - lo) : Nat) : Int)) = ((lo + spl (hi - lo) : Nat) : Int) by unfold wrap64; omega]
          refine bsk (ih _ _ _ _ _ (by omega) (by omega) (by omega) (by omega)) (bsk (ih _ _ _ _ _ (by omega) (by omega) (by omega) (by omega)) ?_)
          rw [ahead_append]
          refine congrArg some ?_
          unfold wrap64
          omega
where
  ahead_le : ∀ (xs : List NO) (a : Int), ahead xs a ≤ xs.length
    | [], _ => Nat.le_refl _
    | x :: xs, a => by
      have := ahead_le xs a
      simp only [ahead, List.length_cons]
      split <;> omega
/-- What the places of a growth's nodes are. -/
theorem ahead_old {m n lo : Nat} (h0 : 0 < n) (h : n ≤ 256) (hl : lo ≤ m) : ahead (gnodes m n) (lo : Int) = ahead (grow m n).1 (lo : Int) := by
  unfold gnodes
  rw [ahead_append, ahead_none (xs := (grow m n).2) (fun x hx => by have := (fall_in n 0 n m (by omega) h h0).2 x hx; omega)]
  rfl
theorem ahead_new {m n lo : Nat} (h0 : 0 < m) (hn : m < n) (h : n ≤ 256) (hl : m ≤ lo) : ahead (gnodes m n) (lo : Int) = popc m + ahead (grow m n).2 (lo : Int) := by
  unfold gnodes
  rw [ahead_append, ahead_all (xs := (grow m n).1) (fun x hx => by have := (fall_in n 0 n m (by omega) h (by omega)).1 x hx; omega)]
  have := fall_old n 0 n m (by omega) h h0 hn
  rw [Nat.sub_zero] at this
  unfold grow
  rw [this]
/-- That a node's old and new ones are a growth's. -/
def Within (f lo hi m n : Nat) : Prop := (∀ x ∈ (fallF f lo hi m).1, x ∈ gnodes m n) ∧ ∀ x ∈ (fallF f lo hi m).2, x ∈ gnodes m n
theorem within_all (m n : Nat) : Within n 0 n m n := ⟨fun x hx => List.mem_append_left _ hx, fun x hx => List.mem_append_right _ hx⟩
theorem Within.left {f lo hi m n : Nat} (h : Within (f + 1) lo hi m n) (h1 : ¬ hi ≤ m) (h2 : ¬ m ≤ lo) : Within f lo (lo + spl (hi - lo)) m n := by
  unfold Within at h
  simp only [fallF] at h
  rw [if_neg h1, if_neg h2] at h
  exact ⟨fun x hx => h.1 x (List.mem_append_left _ hx), fun x hx => h.2 x (List.mem_append_left _ hx)⟩
theorem Within.right {f lo hi m n : Nat} (h : Within (f + 1) lo hi m n) (h1 : ¬ hi ≤ m) (h2 : ¬ m ≤ lo) : Within f (lo + spl (hi - lo)) hi m n := by
  unfold Within at h
  simp only [fallF] at h
  rw [if_neg h1, if_neg h2] at h
  exact ⟨fun x hx => h.1 x (List.mem_append_right _ hx), fun x hx => h.2 x (List.mem_append_right _ hx)⟩
theorem Within.here {f lo hi m n : Nat} (h : Within (f + 1) lo hi m n) (h1 : hi ≤ m ∨ m ≤ lo) : (⟨(lo : Int), (hi : Int)⟩ : NO) ∈ gnodes m n := by
  unfold Within at h
  simp only [fallF] at h
  by_cases c : hi ≤ m
  · rw [if_pos c] at h
    exact h.1 _ List.mem_cons_self
  · rw [if_neg c, if_pos (by omega)] at h
    exact h.2 _ List.mem_cons_self
theorem given_is {m n : Nat} (h0 : 0 < n) (h : n ≤ 256) {P : List SD} (hP : P.length = (gnodes m n).length) {a b : Nat} (hx : (⟨(a : Int), (b : Int)⟩ : NO) ∈ gnodes m n) : ∃ hj : ahead (gnodes m n) (a : Int) < P.length, given m n P a = P[ahead (gnodes m n) (a : Int)] := by
  obtain ⟨hj, e⟩ := ahead_lt (gnodes_sorted h0 h) hx
  have hj' : ahead (gnodes m n) (a : Int) < P.length := by rw [hP]; exact hj
  refine ⟨hj', ?_⟩
  unfold given
  rw [List.getD, List.getElem?_eq_getElem hj']
  rfl
theorem rdG_nat {l : List SD} {i : Nat} (h : i < l.length) : rd_T29 l (i : Int) = l[i] := by simp [rd_T29, List.getD, List.getElem?_eq_getElem h]
theorem wrap_add {a b c : Nat} (h : c = a + b) (h2 : c ≤ 256) : wrap64 ((a : Int) + (b : Int)) = (c : Int) := by
  subst h
  unfold wrap64
  omega
theorem spec_node (f : Nat) {m n : Nat} (h0 : 0 < m) (hmn : m < n) (h : n ≤ 256) {P : List SD} (hP : P.length = (gnodes m n).length) : ∀ (k lo hi : Nat), hi - lo ≤ f → lo < hi → hi ≤ n → Within f lo hi m n → 31000 + f < k →
    spec_l3Node.f k (lo : Int) (hi : Int) (m : Int) (n : Int) P = some (digF f lo hi m (given m n P)) := by
  induction f with
  | zero => intro k lo hi a b; omega
  | succ f ih =>
    intro k lo hi a b c w hk
    obtain ⟨k, rfl⟩ : ∃ q, k = q + 1 := ⟨k - 1, by omega⟩
    simp only [spec_l3Node.f, digF]
    by_cases c1 : m ≤ lo
    · obtain ⟨hj, e⟩ := given_is (by omega) h hP (w.here (.inr c1))
      have e1 := ahead_new h0 hmn h c1
      have hr := rests_at n k 0 n m lo (by omega) (by omega) h (by omega)
      have hl := gnodes_len (m := m) (n := n) (by omega) h
      rw [if_pos (by omega), if_pos (Or.inr c1)]
      refine bsk (spec_count (by omega) (by omega)) (bsk hr ?_)
      have e2 : ahead (gnodes m n) (lo : Int) = popc m + ahead (fallF n 0 n m).2 (lo : Int) := e1
      have hj2 := hP ▸ hj
      rw [wrap_add e2 (Nat.le_trans (Nat.le_of_lt hj2) (Nat.le_trans hl h)), if_pos (Int.natCast_nonneg _), if_pos (Int.ofNat_lt.2 hj), rdG_nat hj, e]
    · rw [if_neg (by omega)]
      by_cases c2 : hi ≤ m
      · obtain ⟨hj, e⟩ := given_is (by omega) h hP (w.here (.inl c2))
        have e1 := ahead_old (m := m) (n := n) (lo := lo) (by omega) h (by omega)
        have hr := peaksAhead_l m k 0 m lo 0 (by omega) (by omega) (by omega) (by omega)
        rw [if_pos (by omega), if_pos (Or.inl c2)]
        have ew : ahead (oldF m 0 m) (lo : Int) = ahead (gnodes m n) (lo : Int) := by
          rw [e1]
          unfold grow
          rw [fall_oldF n 0 n m m (by omega) h h0 hmn (by omega)]
        rw [Nat.zero_add, ew] at hr
        refine bsk hr ?_
        rw [if_pos (Int.natCast_nonneg _), if_pos (Int.ofNat_lt.2 hj), rdG_nat hj, e]
      · have hs := spl_lt (n := hi - lo) (by omega) (by omega)
        rw [if_neg (by omega), if_neg (by omega), show wrap64 ((hi : Int) - (lo : Int)) = ((hi - lo : Nat) : Int) by unfold wrap64; omega]
        refine bsk (spec_split (by omega) (by omega) (by omega)) ?_
        rw [show wrap64 ((lo : Int) + ((spl (hi - lo) : Nat) : Int)) = ((lo + spl (hi - lo) : Nat) : Int) by unfold wrap64; omega]
        refine bsk (ih k _ _ (by omega) (by omega) (by omega) (w.left c2 c1) (by omega)) (bsk (ih k _ _ (by omega) (by omega) (by omega) (w.right c2 c1) (by omega)) ?_)
        exact bsk (spec_pair (by omega) _ _ _ _ _ _ _ _) rfl
theorem okN_nat {a b : Nat} (ha : a ≤ 256) (hb : b ≤ 256) : okN (a : Int) (b : Int) := by
  unfold okN
  simp [Lit.wf, IntKind.min, IntKind.max, IntKind.signed, IntKind.bits]
  omega
theorem look_f {M : MapD} {a b : Nat} (ha : a ≤ 256) (hb : b ≤ 256) : impl_lookAt.f M (a : Int) (b : Int) = some (match lookD M (a : Int) (b : Int) with | some d => (d.f0, d.f1, d.f2, d.f3, true) | none => (0, 0, 0, 0, false)) := by
  unfold impl_lookAt.f
  rw [if_pos (okN_nat ha hb)]
  cases lookD M (a : Int) (b : Int) <;> rfl
theorem impl_digestBy (f : Nat) {m n : Nat} (h0 : 0 < n) (h : n ≤ 256) {P : List SD} (hP : P.length = (gnodes m n).length) : ∀ (k lo hi : Nat), hi - lo ≤ f → lo < hi → hi ≤ n → Within f lo hi m n → 31000 + f < k →
    impl_digestBy.f k (putAll (gnodes m n) P []) (lo : Int) (hi : Int) = some (digF f lo hi m (given m n P)) := by
  induction f with
  | zero => intro k lo hi a b; omega
  | succ f ih =>
    intro k lo hi a b c w hk
    obtain ⟨k, rfl⟩ : ∃ q, k = q + 1 := ⟨k - 1, by omega⟩
    simp only [impl_digestBy.f, digF]
    refine bsk (look_f (by omega) (by omega)) ?_
    by_cases c1 : hi ≤ m ∨ m ≤ lo
    · rw [look_given h0 h hP (w.here c1), if_pos c1]
      dsimp only
      rw [if_pos rfl]
    · rw [look_over h0 h P (a := lo) (b := hi) (by omega) (by omega), if_neg c1]
      dsimp only
      have hs := spl_lt (n := hi - lo) (by omega) (by omega)
      rw [if_neg (by simp)]
      refine bsk (halves (by omega) (by omega) (by omega)) ?_
      refine bsk (ih k _ _ (by omega) (by omega) (by omega) (w.left (by omega) (by omega)) (by omega)) (bsk (ih k _ _ (by omega) (by omega) (by omega) (w.right (by omega) (by omega)) (by omega)) ?_)
      exact bsk (impl_pair (by omega) _ _ _ _ _ _ _ _) rfl
theorem rdK_nat {l : List NO} {i : Nat} (h : i < l.length) : rd_T100 l (i : Int) = l[i] := by simp [rd_T100, List.getD, List.getElem?_eq_getElem h]
theorem known_l (n : Nat) : ∀ (k : Nat) (P : List SD) (M : MapD) (xs : List NO) (i : Nat), xs.length = i + n → xs.length ≤ 1000 → xs.length = P.length → (∀ x ∈ xs, okN x.f0 x.f1) → n < k →
    impl_known.l0 k P M xs (xs.length : Int) (i : Int) = some (putAll (xs.drop i) (P.drop i) M) := by
  induction n with
  | zero =>
    intro k P M xs i h h1 hP hx hk
    obtain ⟨k, rfl⟩ : ∃ q, k = q + 1 := ⟨k - 1, by omega⟩
    simp only [impl_known.l0]
    rw [if_neg (by omega), List.drop_of_length_le (by omega)]
    rfl
  | succ n ih =>
    intro k P M xs i h h1 hP hx hk
    obtain ⟨k, rfl⟩ : ∃ q, k = q + 1 := ⟨k - 1, by omega⟩
    have hi : i < xs.length := by omega
    have hj : i < P.length := by omega
    simp only [impl_known.l0]
    rw [if_pos (by omega), if_pos (by omega), if_pos (by omega), if_pos (by omega), rdK_nat hi, rdG_nat hj]
    refine bsk (v := (xs[i], P[i]) :: M) ?_ ?_
    · unfold impl_putAt.f
      rw [if_pos (hx _ (List.getElem_mem hi))]
    · rw [step64 (by omega), ih k P _ xs (i + 1) (by omega) h1 hP hx (by omega), List.drop_eq_getElem_cons hi, List.drop_eq_getElem_cons hj]
      rfl
theorem impl_known {k m n : Nat} (hk : 1000 < k) (h0 : 0 < n) (h : n ≤ 256) {P : List SD} (hP : P.length = (gnodes m n).length) : impl_known.f k (m : Int) (n : Int) P = some (putAll (gnodes m n) P []) := by
  unfold impl_known.f
  have hl := gnodes_len (m := m) h0 h
  have hl2 : (grow m n).1.length + (grow m n).2.length = (gnodes m n).length := by unfold gnodes; rw [List.length_append]
  refine bsk (impl_nodes (by omega) h0 h) (bsk (v := []) rfl ?_)
  rw [if_pos (by omega)]
  simp only [Option.bind_some]
  have := known_l (gnodes m n).length k P [] (gnodes m n) 0 (by omega) (by omega) hP.symm (fun x hx => by
    have hb : (0 : Int) ≤ x.f0 ∧ x.f0 < x.f1 ∧ x.f1 ≤ (n : Int) := by
      rcases List.mem_append.1 hx with hx | hx
      · have := (fall_in n 0 n m (by omega) h h0).1 x hx; omega
      · have := (fall_in n 0 n m (by omega) h h0).2 x hx; omega
    have := okN_nat (a := x.f0.toNat) (b := x.f1.toNat) (by omega) (by omega)
    rw [Int.toNat_of_nonneg hb.1, Int.toNat_of_nonneg (by omega)] at this
    exact this) (by omega)
  rw [List.drop_zero, List.drop_zero] at this
  exact this
end Go.Proofs.Ytflckegggopdnaa.Q
