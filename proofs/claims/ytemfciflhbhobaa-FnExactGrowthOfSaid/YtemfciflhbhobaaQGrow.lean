/- The proof of a growth as a plain list; GrowthOf of the program and of the reference come to it. No condition. -/
import Derived.Test.YtemfciflhbhobaaQRuns
import Derived.Test.YtemfciflhbhobaaQFall
import Derived.Test.YtemfciflhbhobaaFImplGrowthOf
import Derived.Test.YtemfciflhbhobaaFSpecGrowthOf
namespace Go.Proofs.Ytemfciflhbhobaa.Q
open Go.RowKit Go.Proofs.Ytemfciflhbhobaa.B Go.Proofs.YtemfciflhbhobaaW.PrintWords Go.Proofs.YtemfciflhbhobaaW.PrintLast Go.Proofs.YtemfciflhbhobaaW.PrintMore
/-- The root of the leaves of a node. -/
def nodeRoot (l : List ByteArray) (x : NO) : SD := toSD (root ((l.take x.f1.toNat).drop x.f0.toNat))
theorem rdN_nat {l : List NO} {i : Nat} (h : i < l.length) : rd_T120 l (i : Int) = l[i] := by simp [rd_T120, List.getD, List.getElem?_eq_getElem h]
theorem fall_zero_nil (f : Nat) : ∀ (lo hi m : Nat), hi - lo ≤ f → lo < hi → m ≤ lo → (fallF f lo hi m).1 = [] := by
  intro lo hi m h h2 h3
  obtain ⟨f, rfl⟩ : ∃ g, f = g + 1 := ⟨f - 1, by omega⟩
  simp only [fallF]
  rw [if_neg (by omega), if_pos h3]
theorem fall_one_is (f : Nat) : ∀ (lo hi m : Nat), hi - lo ≤ f → lo < hi → hi ≤ m → (fallF f lo hi m).1 = [⟨(lo : Int), (hi : Int)⟩] := by
  intro lo hi m h h1 h3
  obtain ⟨f, rfl⟩ : ∃ g, f = g + 1 := ⟨f - 1, by omega⟩
  simp only [fallF]
  rw [if_pos h3]
theorem slice_eq (l : List ByteArray) (a b m : Nat) (h : a ≤ b) (hm : b ≤ m) : (l.take b).drop a = ((l.take m).drop a).take (b - a) := by
  rw [List.take_drop, show a + (b - a) = b by omega, List.take_take, Nat.min_eq_left hm]
/-- The old nodes of a growth have the peaks of the leaves that were there. -/
theorem fall_peaks (l : List ByteArray) (f : Nat) : ∀ (lo hi m : Nat), hi - lo ≤ f → hi ≤ l.length → l.length ≤ 256 → lo < m → m < hi → (fallF f lo hi m).1.map (nodeRoot l) = peaks ((l.take m).drop lo) := by
  induction f with
  | zero => intro lo hi m h h1 h2 h3; omega
  | succ f ih =>
    intro lo hi m h h1 hl h2 h3
    simp only [fallF]
    rw [if_neg (by omega), if_neg (by omega)]
    obtain ⟨e, he, h4, h5, h6⟩ := spl_is (n := hi - lo) (by omega) (by omega)
    have hs := spl_lt (n := hi - lo) (by omega) (by omega)
    have hlen : ((l.take m).drop lo).length = m - lo := by rw [List.length_drop, List.length_take]; omega
    simp only [List.map_append]
    have hone : ∀ x : Nat, x = lo + 2 ^ e → nodeRoot l ⟨(lo : Int), (x : Int)⟩ = toSD (root (((l.take x)).drop lo)) := fun x _ => rfl
    rcases Nat.lt_or_ge m (lo + spl (hi - lo)) with c | c
    · rw [ih _ _ _ (by omega) (by omega) hl h2 c, fall_zero_nil f _ _ _ (by omega) (by omega) (by omega), List.map_nil, List.append_nil]
    · have hp : peaks ((l.take m).drop lo) = toSD (root (((l.take m).drop lo).take (2 ^ e))) :: peaks (((l.take m).drop lo).drop (2 ^ e)) := by
        refine peaks_cons (by omega) (by omega) ?_
        rw [hlen]
        omega
      rw [hp, fall_one_is f _ _ _ (by omega) (by omega) (by omega), List.map_cons, List.map_nil, he, hone _ rfl, slice_eq l lo (lo + 2 ^ e) m (by omega) (by omega), Nat.add_sub_cancel_left]
      refine congrArg (toSD (root (((l.take m).drop lo).take (2 ^ e))) :: ·) ?_
      rw [List.drop_drop]
      rcases Nat.eq_or_lt_of_le c with c | c
      · rw [fall_zero_nil f _ _ _ (by omega) (by omega) (by omega), List.drop_of_length_le (by rw [List.length_take]; omega), peaks_nil]
        rfl
      · rw [ih _ _ _ (by omega) h1 hl (by omega) h3]
        rfl
theorem digests_l1 (n : Nat) : ∀ (k : Nat) (b acc : List SD) (i : Nat), b.length = i + n → n < k → acc.length + n < 1000000 → b.length < 1099511627776 → spec_l3Digests.l1 k b acc (i : Int) = some (acc ++ b.drop i) := by
  induction n with
  | zero =>
    intro k b acc i hl hk ha hm
    obtain ⟨k, rfl⟩ : ∃ m, k = m + 1 := ⟨k - 1, by omega⟩
    simp only [spec_l3Digests.l1]
    rw [if_neg (by omega), List.drop_of_length_le (by omega), List.append_nil]
  | succ n ih =>
    intro k b acc i hl hk ha hm
    obtain ⟨k, rfl⟩ : ∃ m, k = m + 1 := ⟨k - 1, by omega⟩
    have hi : i < b.length := by omega
    simp only [spec_l3Digests.l1]
    rw [if_pos (by omega), if_pos (by omega), if_pos (by omega), show (⟨(rd_T29 b (i : Int)).f0, (rd_T29 b (i : Int)).f1, (rd_T29 b (i : Int)).f2, (rd_T29 b (i : Int)).f3⟩ : SD) = rd_T29 b (i : Int) from rfl]
    rw [show rd_T29 b (i : Int) = b[i] by simp [rd_T29, List.getD, List.getElem?_eq_getElem hi], step64 (by omega), ih k b _ (i + 1) (by omega) (by omega) (by simp; omega) hm, List.drop_eq_getElem_cons hi, List.append_assoc]
    rfl
theorem digests_l0 (n : Nat) : ∀ (k : Nat) (a b acc : List SD) (i : Nat), a.length = i + n → n + b.length + 1 < k → acc.length + n + b.length < 1000000 → a.length < 1099511627776 → b.length < 1099511627776 → spec_l3Digests.l0 k a b acc (i : Int) = some (acc ++ a.drop i ++ b) := by
  induction n with
  | zero =>
    intro k a b acc i hl hk ha hm hb
    obtain ⟨k, rfl⟩ : ∃ m, k = m + 1 := ⟨k - 1, by omega⟩
    simp only [spec_l3Digests.l0]
    have := digests_l1 b.length k b acc 0 (by omega) (by omega) (by omega) hb
    rw [if_neg (by omega), show (0 : Int) = ((0 : Nat) : Int) from rfl, this, List.drop_of_length_le (by omega : a.length ≤ i), List.append_nil]
    rfl
  | succ n ih =>
    intro k a b acc i hl hk ha hm hb
    obtain ⟨k, rfl⟩ : ∃ m, k = m + 1 := ⟨k - 1, by omega⟩
    have hi : i < a.length := by omega
    simp only [spec_l3Digests.l0]
    rw [if_pos (by omega), if_pos (by omega), if_pos (by omega), show (⟨(rd_T29 a (i : Int)).f0, (rd_T29 a (i : Int)).f1, (rd_T29 a (i : Int)).f2, (rd_T29 a (i : Int)).f3⟩ : SD) = rd_T29 a (i : Int) from rfl]
    rw [show rd_T29 a (i : Int) = a[i] by simp [rd_T29, List.getD, List.getElem?_eq_getElem hi], step64 (by omega), ih k a b _ (i + 1) (by omega) (by omega) (by simp; omega) hm hb, List.drop_eq_getElem_cons hi]
    simp
theorem spec_digests {k : Nat} (a b : List SD) (hk : a.length + b.length + 2 < k) (h : a.length + b.length < 1000000) : spec_l3Digests.f k a b = some (a ++ b) := by
  unfold spec_l3Digests.f
  have := digests_l0 a.length k a b [] 0 (by omega) (by omega) (by simpa using h) (by omega) (by omega)
  simpa using this
theorem rest_l (l : List ByteArray) (hl : l.length ≤ 256) (hz : ∀ s ∈ l, s.size ≤ 4611686018427387904) (f : Nat) : ∀ (k lo hi m : Nat), hi - lo ≤ f → lo < hi → hi ≤ l.length → 40000 + f < k →
    spec_l3RestRoots.f k l (lo : Int) (hi : Int) (m : Int) = some ((fallF f lo hi m).2.map (nodeRoot l)) := by
  induction f with
  | zero => intro k lo hi m h h0; omega
  | succ f ih =>
    intro k lo hi m h h0 h1 hk
    obtain ⟨k, rfl⟩ : ∃ m, k = m + 1 := ⟨k - 1, by omega⟩
    simp only [spec_l3RestRoots.f, fallF]
    by_cases c1 : hi ≤ m
    · rw [if_pos (by omega), if_pos c1]
      rfl
    · rw [if_neg (by omega), if_neg c1]
      by_cases c2 : m ≤ lo
      · rw [if_pos (by omega), if_pos c2, if_pos (by omega), if_pos (by omega), if_pos (by omega), Int.toNat_natCast, Int.toNat_natCast]
        refine bs (spec_root (by omega) (by simp; omega) (fun s hs => hz s (List.mem_of_mem_take (List.mem_of_mem_drop hs)))) ?_
        rfl
      · rw [if_neg (by omega), if_neg c2]
        have hs := spl_lt (n := hi - lo) (by omega) (by omega)
        have l1 := fall_len f lo (lo + spl (hi - lo)) m (by omega) (by omega) (by omega)
        have l2 := fall_len f (lo + spl (hi - lo)) hi m (by omega) (by omega) (by omega)
        rw [show wrap64 ((hi : Int) - (lo : Int)) = ((hi - lo : Nat) : Int) by unfold wrap64; omega]
        refine bs (spec_split (by omega) (by omega) (by omega)) ?_
        rw [show wrap64 ((lo : Int) + ((spl (hi - lo) : Nat) : Int)) = ((lo + spl (hi - lo) : Nat) : Int) by unfold wrap64; omega]
        refine bs (ih _ _ _ _ (by omega) (by omega) (by omega) (by omega)) (bs (ih _ _ _ _ (by omega) (by omega) (by omega) (by omega)) ?_)
        refine bs (spec_digests _ _ (by simp; omega) (by simp; omega)) ?_
        rw [List.map_append]
theorem fall_fit (f : Nat) : ∀ (lo hi m : Nat), lo ≤ hi → ∀ x ∈ (fallF f lo hi m).1 ++ (fallF f lo hi m).2, hi - lo ≤ f → hi ≤ 256 → ∃ a b : Nat, x = ⟨(a : Int), (b : Int)⟩ ∧ a ≤ b ∧ lo ≤ a ∧ b ≤ hi := by
  induction f with
  | zero => intro lo hi m _ x hx; simp [fallF] at hx
  | succ f ih =>
    intro lo hi m hlo x hx h h1
    simp only [fallF] at hx
    by_cases c1 : hi ≤ m
    · rw [if_pos c1] at hx
      simp at hx
      exact ⟨lo, hi, hx, hlo, by omega, by omega⟩
    · rw [if_neg c1] at hx
      by_cases c2 : m ≤ lo
      · rw [if_pos c2] at hx
        simp at hx
        exact ⟨lo, hi, hx, hlo, by omega, by omega⟩
      · rw [if_neg c2] at hx
        have hs := spl_lt (n := hi - lo) (by omega) (by omega)
        simp only [List.mem_append] at hx
        rcases hx with (hx | hx) | (hx | hx)
        · obtain ⟨a, b, e, h3, h4, h5⟩ := ih lo (lo + spl (hi - lo)) m (by omega) x (List.mem_append_left _ hx) (by omega) (by omega)
          exact ⟨a, b, e, h3, by omega, by omega⟩
        · obtain ⟨a, b, e, h3, h4, h5⟩ := ih (lo + spl (hi - lo)) hi m (by omega) x (List.mem_append_left _ hx) (by omega) (by omega)
          exact ⟨a, b, e, h3, by omega, by omega⟩
        · obtain ⟨a, b, e, h3, h4, h5⟩ := ih lo (lo + spl (hi - lo)) m (by omega) x (List.mem_append_right _ hx) (by omega) (by omega)
          exact ⟨a, b, e, h3, by omega, by omega⟩
        · obtain ⟨a, b, e, h3, h4, h5⟩ := ih (lo + spl (hi - lo)) hi m (by omega) x (List.mem_append_right _ hx) (by omega) (by omega)
          exact ⟨a, b, e, h3, by omega, by omega⟩
theorem implGrow_l (l : List ByteArray) (hl : l.length ≤ 256) (hz : ∀ s ∈ l, s.size ≤ 4611686018427387904) (n : Nat) : ∀ (k : Nat) (xs : List NO) (acc : List SD) (i : Nat), xs.length = i + n → xs.length ≤ 1000 → (∀ x ∈ xs, ∃ a b : Nat, x = ⟨(a : Int), (b : Int)⟩ ∧ a ≤ b ∧ b ≤ l.length) → 40000 + n < k → acc.length + n ≤ 2000 →
    impl_GrowthOf.l0 k l acc xs (xs.length : Int) (i : Int) = some (acc ++ (xs.drop i).map (nodeRoot l), true) := by
  induction n with
  | zero =>
    intro k xs acc i hn hx hf hk ha
    obtain ⟨k, rfl⟩ : ∃ m, k = m + 1 := ⟨k - 1, by omega⟩
    simp only [impl_GrowthOf.l0]
    rw [if_neg (by omega), List.drop_of_length_le (by omega)]
    refine bs (copiedD (by omega)) ?_
    simp
  | succ n ih =>
    intro k xs acc i hn hx hf hk ha
    obtain ⟨k, rfl⟩ : ∃ m, k = m + 1 := ⟨k - 1, by omega⟩
    have hi : i < xs.length := by omega
    obtain ⟨a, b, e, h1, h2⟩ := hf _ (List.getElem_mem hi)
    simp only [impl_GrowthOf.l0]
    rw [if_pos (by omega), if_pos (by omega), if_pos (by omega), rdN_nat hi]
    rw [List.drop_eq_getElem_cons hi, List.map_cons]
    generalize xs[i] = x at e ⊢
    subst e
    show (if 0 ≤ (a : Int) then (if (a : Int) ≤ (b : Int) then (if (b : Int) ≤ (l.length : Int) then _ else _) else _) else _) = _
    rw [if_pos (by omega), if_pos (by omega), if_pos (by omega)]
    refine bs (v := root ((l.take b).drop a)) ?_ ?_
    · show impl_rootOf.f k ((l.take ((b : Int)).toNat).drop ((a : Int)).toNat) = _
      rw [Int.toNat_natCast, Int.toNat_natCast]
      exact impl_root (by omega) (by simp; omega) (fun s hs => hz s (List.mem_of_mem_take (List.mem_of_mem_drop hs)))
    · rw [if_pos (by omega), step64 (by omega), ih k xs _ (i + 1) (by omega) hx hf (by omega) (by simp; omega)]
      refine congrArg some (Prod.ext ?_ rfl)
      rw [List.append_assoc]
      rfl
/-- What GrowthOf tells. -/
def growthOf (l : List ByteArray) (m : Int) : List SD × Bool :=
  if leavesOk l = true ∧ 0 ≤ m ∧ m ≤ (l.length : Int) then (if m = 0 ∨ m = (l.length : Int) then ([], true) else (((grow m.toNat l.length).1 ++ (grow m.toNat l.length).2).map (nodeRoot l), true)) else ([], false)
theorem impl_growthOf {k : Nat} (hk : 1099511627776 < k) {l : List ByteArray} (h : l.length < 1099511627776) (m : Int) : impl_GrowthOf.f (k + 2) l m = some (growthOf l m) := by
  unfold impl_GrowthOf.f growthOf
  refine bs (impl_leaves l (by omega) h) ?_
  by_cases c : leavesOk l = true
  · obtain ⟨h2, hz⟩ := leaves_fit c
    rw [if_pos c]
    unfold impl_mayGrow.f
    rw [impl_in, impl_in]
    simp only [Option.bind_some]
    rw [if_pos (by simp; omega)]
    simp only [Option.bind_some]
    by_cases c2 : 0 ≤ m ∧ m ≤ (l.length : Int)
    · rw [if_pos ⟨c, c2⟩]
      simp only [c2, decide_true, Bool.not_true, impl_GrowthOf.j0, Bool.false_eq_true, if_false, and_self]
      obtain ⟨n, rfl⟩ : ∃ n : Nat, m = (n : Int) := ⟨m.toNat, by omega⟩
      by_cases c3 : (n : Int) = 0
      · rw [if_pos c3, if_pos (Or.inl c3)]
        simp [impl_GrowthOf.j1]
      · rw [if_neg c3]
        by_cases c4 : (n : Int) = (l.length : Int)
        · rw [if_pos (Or.inr c4)]
          simp [impl_GrowthOf.j1, c4]
        · rw [if_neg (by omega)]
          simp only [impl_GrowthOf.j1]
          rw [if_neg (by simpa using c4)]
          refine bs (impl_nodes (by omega) (by omega) h2) ?_
          have hlen := fall_len l.length 0 l.length n (by omega) (by omega) (by omega)
          have hlen2 : (grow n l.length).1.length + (grow n l.length).2.length ≤ l.length := by unfold grow; omega
          rw [if_pos (by omega)]
          simp only [Option.bind_some]
          have := implGrow_l l h2 hz ((grow n l.length).1 ++ (grow n l.length).2).length k ((grow n l.length).1 ++ (grow n l.length).2) [] 0 (by omega) (by rw [List.length_append]; omega) (fun x hx => by
            obtain ⟨a, b, e, h3, _, h5⟩ := fall_fit l.length 0 l.length n (by omega) x hx (by omega) h2
            exact ⟨a, b, e, h3, h5⟩) (by rw [List.length_append]; omega) (by rw [List.length_append, List.length_nil]; omega)
          rw [show ((0 : Nat) : Int) = 0 from rfl] at this
          rw [this, Int.toNat_natCast]
          rfl
    · rw [if_neg (by intro hh; exact c2 hh.2)]
      have e1 : decide (0 ≤ m ∧ m ≤ (l.length : Int)) = false := decide_eq_false c2
      rw [e1]
      simp [impl_GrowthOf.j0]
  · rw [if_neg c, if_neg (by intro hh; exact c hh.1)]
    simp [impl_GrowthOf.j0]
theorem leavesOk_take {l : List ByteArray} (c : leavesOk l = true) (n : Nat) : leavesOk (l.take n) = true := by
  simp only [leavesOk, Bool.and_eq_true, decide_eq_true_eq, List.all_eq_true] at c ⊢
  exact ⟨by rw [List.length_take]; omega, fun s hs => c.2 s (List.mem_of_mem_take hs)⟩
theorem leavesOk_drop {l : List ByteArray} (c : leavesOk l = true) (n : Nat) : leavesOk (l.drop n) = true := by
  simp only [leavesOk, Bool.and_eq_true, decide_eq_true_eq, List.all_eq_true] at c ⊢
  exact ⟨by rw [List.length_drop]; omega, fun s hs => c.2 s (List.mem_of_mem_drop hs)⟩
theorem spec_growthOf {k : Nat} (hk : 1099511627776 < k) {l : List ByteArray} (h : l.length < 1099511627776) (m : Int) : spec_GrowthOf.f (k + 2) l m = some (growthOf l m) := by
  unfold spec_GrowthOf.f growthOf
  refine bs (spec_leaves l (by omega) h) ?_
  by_cases c : leavesOk l = true
  · obtain ⟨h2, hz⟩ := leaves_fit c
    rw [if_pos c]
    unfold spec_l3Sizes.f
    rw [spec_in]
    simp only [Option.bind_some]
    by_cases c2 : 0 ≤ m ∧ m ≤ (l.length : Int)
    · rw [if_pos (by simpa using c2), if_pos ⟨c, c2⟩]
      simp only [Option.bind_some]
      rw [show decide ((l.length : Int) ≤ 256) = true by simp; omega]
      obtain ⟨n, rfl⟩ : ∃ n : Nat, m = (n : Int) := ⟨m.toNat, by omega⟩
      simp only [Bool.not_true, spec_GrowthOf.j0, Bool.false_eq_true, if_false]
      by_cases c3 : (n : Int) = 0
      · rw [if_pos c3, if_pos (Or.inl c3)]
        simp [spec_GrowthOf.j1]
      · rw [if_neg c3]
        by_cases c4 : (n : Int) = (l.length : Int)
        · rw [if_pos (Or.inr c4)]
          simp [spec_GrowthOf.j1, c4]
        · rw [if_neg (by omega)]
          simp only [spec_GrowthOf.j1]
          rw [if_neg (by simpa using c4), if_pos (by omega), if_pos (by omega), Int.toNat_natCast]
          have hlen := fall_len l.length 0 l.length n (by omega) (by omega) (by omega)
          have hp := peaks_len (l.take n)
          refine bs (spec_peaks (by omega) (leavesOk_take c n) (by rw [List.length_take]; omega) (fun s hs => hz s (List.mem_of_mem_take hs))) ?_
          have hr := rest_l l h2 hz l.length k 0 l.length n (by omega) (by omega) (by omega) (by omega)
          rw [show ((0 : Nat) : Int) = 0 from rfl] at hr
          refine bs hr ?_
          refine bs (spec_digests _ _ (by simp; omega) (by simp; omega)) ?_
          have hold := fall_peaks l l.length 0 l.length n (by omega) (by omega) h2 (by omega) (by omega)
          rw [List.drop_zero] at hold
          unfold grow
          rw [List.map_append, hold]
    · rw [if_neg (by simpa using c2), if_neg (by intro hh; exact c2 hh.2)]
      simp [spec_GrowthOf.j0]
  · rw [if_neg c, if_neg (by intro hh; exact c hh.1)]
    simp [spec_GrowthOf.j0]
theorem impl_growthOf' {k : Nat} (hk : 1099511627780 < k) {l : List ByteArray} (h : l.length < 1099511627776) (m : Int) : impl_GrowthOf.f k l m = some (growthOf l m) := by
  obtain ⟨k, rfl⟩ : ∃ q, k = q + 2 := ⟨k - 2, by omega⟩
  exact impl_growthOf (by omega) h m
theorem spec_growthOf' {k : Nat} (hk : 1099511627780 < k) {l : List ByteArray} (h : l.length < 1099511627776) (m : Int) : spec_GrowthOf.f k l m = some (growthOf l m) := by
  obtain ⟨k, rfl⟩ : ∃ q, k = q + 2 := ⟨k - 2, by omega⟩
  exact spec_growthOf (by omega) h m
theorem growthOf_len {l : List ByteArray} (h : l.length < 1099511627776) (m : Int) : (growthOf l m).1.length ≤ 256 := by
  unfold growthOf
  by_cases c : leavesOk l = true ∧ 0 ≤ m ∧ m ≤ (l.length : Int)
  · rw [if_pos c]
    obtain ⟨h2, hz⟩ := leaves_fit c.1
    by_cases c2 : m = 0 ∨ m = (l.length : Int)
    · rw [if_pos c2]; simp
    · rw [if_neg c2]
      have := fall_len l.length 0 l.length m.toNat (by omega) (by omega) (by omega)
      simp only [List.length_map, List.length_append]
      unfold grow
      omega
  · rw [if_neg c]; simp
end Go.Proofs.Ytemfciflhbhobaa.Q
