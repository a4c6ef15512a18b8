/- The block step is one-to-one in the block, and texts of up to 23 bytes with no byte 255 have digests of their own; a byte 255 changes nothing. No condition. -/
import Derived.Test.YtfbhlofifodkjaaQHash
import Derived.Test.YtfbhlofifodkjaaQDraw
namespace Go.Proofs.Ytfbhlofifodkjaa.Q
open Go.RowKit Go.Proofs.Ytfbhlofifodkjaa.B Go.Proofs.YtfbhlofifodkjaaW.PrintWords Go.Proofs.YtfbhlofifodkjaaW.PrintLast Go.Proofs.YtfbhlofifodkjaaW.PrintMore
def U (x : Int) : Prop := 0 ≤ x ∧ x < 18446744073709551616
theorem xr_nat {a b : Int} (ha : U a) (hb : U b) : xr a b = ((a.toNat ^^^ b.toNat : Nat) : Int) := by
  obtain ⟨a, rfl⟩ := Int.eq_ofNat_of_zero_le ha.1
  obtain ⟨b, rfl⟩ := Int.eq_ofNat_of_zero_le hb.1
  have ha2 := ha.2
  have hb2 := hb.2
  have hx : a ^^^ b < 2 ^ 64 := Nat.xor_lt_two_pow (by omega) (by omega)
  have ha' : a % 2 ^ IntKind.u64.bits = a := Nat.mod_eq_of_lt (Nat.lt_of_lt_of_le (show a < 2 ^ 64 by omega) (by decide))
  have hb' : b % 2 ^ IntKind.u64.bits = b := Nat.mod_eq_of_lt (Nat.lt_of_lt_of_le (show b < 2 ^ 64 by omega) (by decide))
  unfold xr
  simp only [Go.bits, BitVec.ofInt_natCast, BitVec.toNat_xor, BitVec.toNat_ofNat, ha', hb', Int.toNat_natCast]
  generalize a ^^^ b = c at *
  rw [IntKind.wrap_u64]
  omega
theorem xr_U (a b : Int) : U (xr a b) := bits_range .xor a b
theorem xr_left {s a b : Int} (hs : U s) (ha : U a) (hb : U b) (h : xr s a = xr s b) : a = b := by
  rw [xr_nat hs ha, xr_nat hs hb] at h
  have h' : s.toNat ^^^ a.toNat = s.toNat ^^^ b.toNat := by omega
  have h2 : s.toNat ^^^ (s.toNat ^^^ a.toNat) = s.toNat ^^^ (s.toNat ^^^ b.toNat) := by rw [h']
  rw [← Nat.xor_assoc, ← Nat.xor_assoc, Nat.xor_self, Nat.zero_xor, Nat.zero_xor] at h2
  have := ha.1
  have := hb.1
  omega
theorem xr_comm {a b : Int} (ha : U a) (hb : U b) : xr a b = xr b a := by rw [xr_nat ha hb, xr_nat hb ha, Nat.xor_comm]
theorem xr_right {s a b : Int} (hs : U s) (ha : U a) (hb : U b) (h : xr a s = xr b s) : a = b := by
  rw [xr_comm ha hs, xr_comm hb hs] at h
  exact xr_left hs ha hb h
theorem wr_U (x : Int) : U (wr x) := by unfold U wr; rw [IntKind.wrap_u64]; omega
theorem wr_left {a b s : Int} (ha : U a) (hb : U b) (h : wr (a + s) = wr (b + s)) : a = b := by
  unfold wr at h
  rw [IntKind.wrap_u64, IntKind.wrap_u64] at h
  have := ha.1
  have := ha.2
  have := hb.1
  have := hb.2
  omega
theorem rot39 {x : Int} (h : U x) : rot 39 x = (x % 33554432) * 549755813888 + x / 33554432 := by
  have h0 := h.1
  have h1 := h.2
  have e1 : shl .u64 x 39 = (x % 33554432) * 549755813888 := by
    unfold shl
    rw [IntKind.wrap_u64, show (x * 2 ^ min (39 : Int).toNat IntKind.u64.bits : Int) = x * 549755813888 from rfl]
    omega
  have e2 : shr .u64 x (64 - 39) = x / 33554432 := by unfold shr; rfl
  unfold rot
  rw [e1, e2]
  exact bits_join .u64 64 (by decide) wraps_u64 39 _ _ (by omega) (by omega) (by omega) (by omega) (by omega) (by omega)
theorem rot21 {x : Int} (h : U x) : rot 21 x = (x % 8796093022208) * 2097152 + x / 8796093022208 := by
  have h0 := h.1
  have h1 := h.2
  have e1 : shl .u64 x 21 = (x % 8796093022208) * 2097152 := by
    unfold shl
    rw [IntKind.wrap_u64, show (x * 2 ^ min (21 : Int).toNat IntKind.u64.bits : Int) = x * 2097152 from rfl]
    omega
  have e2 : shr .u64 x (64 - 21) = x / 8796093022208 := by unfold shr; rfl
  unfold rot
  rw [e1, e2]
  exact bits_join .u64 64 (by decide) wraps_u64 21 _ _ (by omega) (by omega) (by omega) (by omega) (by omega) (by omega)
theorem rot39_inj {a b : Int} (ha : U a) (hb : U b) (h : rot 39 a = rot 39 b) : a = b := by
  rw [rot39 ha, rot39 hb] at h
  have := ha.1
  have := ha.2
  have := hb.1
  have := hb.2
  have q1 : a / 33554432 = b / 33554432 := by omega
  omega
theorem rot21_inj {a b : Int} (ha : U a) (hb : U b) (h : rot 21 a = rot 21 b) : a = b := by
  rw [rot21 ha, rot21 hb] at h
  have := ha.1
  have := ha.2
  have := hb.1
  have := hb.2
  have q1 : a / 8796093022208 = b / 8796093022208 := by omega
  omega
theorem rot_U (n x : Int) : U (rot n x) := bits_range .or _ _
theorem step_inj {a b c d a' b' c' d' k : Int} (ha : U a) (hb : U b) (hc : U c) (hd : U d) (ha' : U a') (hb' : U b') (hc' : U c') (hd' : U d')
    (e4 : wr (wr (a + b) + k) = wr (wr (a' + b') + k)) (e3 : rot 39 (xr d (wr (wr (a + b) + k))) = rot 39 (xr d' (wr (wr (a' + b') + k))))
    (e2 : wr (c + rot 39 (xr d (wr (wr (a + b) + k)))) = wr (c' + rot 39 (xr d' (wr (wr (a' + b') + k)))))
    (e1 : rot 21 (xr b (wr (c + rot 39 (xr d (wr (wr (a + b) + k)))))) = rot 21 (xr b' (wr (c' + rot 39 (xr d' (wr (wr (a' + b') + k))))))) : a = a' ∧ b = b' ∧ c = c' ∧ d = d' := by
  have f3 := rot39_inj (xr_U _ _) (xr_U _ _) e3
  have f1 := rot21_inj (xr_U _ _) (xr_U _ _) e1
  rw [e3] at e2
  have f2 := wr_left hc hc' e2
  subst f2
  rw [e3] at f1
  have g1 := xr_right (wr_U _) hb hb' f1
  subst g1
  rw [e4] at f3
  have g3 := xr_right (wr_U _) hd hd' f3
  subst g3
  have g4 := wr_left (wr_U _) (wr_U _) e4
  have g5 := wr_left ha ha' g4
  exact ⟨g5, rfl, rfl, rfl⟩
theorem hbl_U (n : Nat) : ∀ (a b c d k : Int), U a → U b → U c → U d → U4 (hbl n a b c d k) := by
  induction n with
  | zero => intro a b c d k ha hb hc hd; exact ⟨ha, hb, hc, hd⟩
  | succ n ih => intro a b c d k _ _ _ _; exact ih _ _ _ _ _ (rot_U _ _) (wr_U _) (rot_U _ _) (wr_U _)
theorem hbl_inj (n : Nat) : ∀ (a b c d a' b' c' d' k : Int), U a → U b → U c → U d → U a' → U b' → U c' → U d' → hbl n a b c d k = hbl n a' b' c' d' k → a = a' ∧ b = b' ∧ c = c' ∧ d = d' := by
  induction n with
  | zero =>
    intro a b c d a' b' c' d' k _ _ _ _ _ _ _ _ h
    simpa [hbl] using h
  | succ n ih =>
    intro a b c d a' b' c' d' k ha hb hc hd ha' hb' hc' hd' h
    simp only [hbl] at h
    obtain ⟨e1, e2, e3, e4⟩ := ih _ _ _ _ _ _ _ _ _ (rot_U _ _) (wr_U _) (rot_U _ _) (wr_U _) (rot_U _ _) (wr_U _) (rot_U _ _) (wr_U _) h
    exact step_inj ha hb hc hd ha' hb' hc' hd' e4 e3 e2 e1
theorem hb_inj {s x y : D4} (hs : U4 s) (hx : U4 x) (hy : U4 y) (h : hb s x = hb s y) : x = y := by
  obtain ⟨s1, s2, s3, s4⟩ := s
  obtain ⟨x1, x2, x3, x4⟩ := x
  obtain ⟨y1, y2, y3, y4⟩ := y
  obtain ⟨u1, u2, u3, u4⟩ := hs
  obtain ⟨v1, v2, v3, v4⟩ := hx
  obtain ⟨w1, w2, w3, w4⟩ := hy
  simp only [hb, out4, Prod.mk.injEq] at h
  have r1 := hbl_U 10 _ _ _ _ 0 (xr_U s1 x1) (xr_U s2 x2) (xr_U s3 x3) (xr_U s4 x4)
  have r2 := hbl_U 10 _ _ _ _ 0 (xr_U s1 y1) (xr_U s2 y2) (xr_U s3 y3) (xr_U s4 y4)
  have q1 := xr_right u1 r1.1 r2.1 h.1
  have q2 := xr_right u2 r1.2.1 r2.2.1 h.2.1
  have q3 := xr_right u3 r1.2.2.1 r2.2.2.1 h.2.2.1
  have q4 := xr_right u4 r1.2.2.2 r2.2.2.2 h.2.2.2
  have q : hbl 10 (xr s1 x1) (xr s2 x2) (xr s3 x3) (xr s4 x4) 0 = hbl 10 (xr s1 y1) (xr s2 y2) (xr s3 y3) (xr s4 y4) 0 := Prod.ext q1 (Prod.ext q2 (Prod.ext q3 q4))
  obtain ⟨e1, e2, e3, e4⟩ := hbl_inj 10 _ _ _ _ _ _ _ _ _ (xr_U _ _) (xr_U _ _) (xr_U _ _) (xr_U _ _) (xr_U _ _) (xr_U _ _) (xr_U _ _) (xr_U _ _) q
  have g1 : x1 = y1 := xr_left u1 v1 w1 e1
  have g2 : x2 = y2 := xr_left u2 v2 w2 e2
  have g3 : x3 = y3 := xr_left u3 v3 w3 e3
  have g4 : x4 = y4 := xr_left u4 v4 w4 e4
  rw [g1, g2, g3, g4]
theorem fold_inj (l : List Int) : ∀ (m : List Int) (w v : Int), l.length = m.length → Bytes8 l → Bytes8 m → l.foldl (fun w b => w * 256 + b) w = m.foldl (fun w b => w * 256 + b) v → w = v ∧ l = m := by
  induction l with
  | nil =>
    intro m w v hl _ _ h
    obtain rfl : m = [] := List.eq_nil_of_length_eq_zero hl.symm
    exact ⟨h, rfl⟩
  | cons a l ih =>
    intro m w v hl h1 h2 h
    match m, hl with
    | b :: m, hl =>
      obtain ⟨e1, e2⟩ := ih m _ _ (by simpa using hl) (fun x hx => h1 x (List.mem_cons_of_mem _ hx)) (fun x hx => h2 x (List.mem_cons_of_mem _ hx)) h
      have g1 := h1 a List.mem_cons_self
      have g2 := h2 b List.mem_cons_self
      have e1 : w * 256 + a = v * 256 + b := e1
      have : a = b := by omega
      subst this
      exact ⟨by omega, by rw [e2]⟩
theorem w8_inj {l m : List Int} (hl : 8 ≤ l.length) (hm : 8 ≤ m.length) (h1 : Bytes8 l) (h2 : Bytes8 m) (h : w8 l = w8 m) : l.take 8 = m.take 8 :=
  (fold_inj (l.take 8) (m.take 8) 0 0 (by rw [List.length_take, List.length_take]; omega) (h1.take 8) (h2.take 8) h).2
theorem w8_U {l : List Int} (h : Bytes8 l) : U (w8 l) := by
  have key : ∀ (n : Nat) (l : List Int) (w : Int), l.length = n → n ≤ 8 → Bytes8 l → 0 ≤ w → w < p256 (8 - n) → 0 ≤ l.foldl (fun w b => w * 256 + b) w ∧ l.foldl (fun w b => w * 256 + b) w < p256 8 := by
    intro n
    induction n with
    | zero =>
      intro l w hl _ _ h0 h1
      obtain rfl : l = [] := List.eq_nil_of_length_eq_zero hl
      exact ⟨h0, h1⟩
    | succ n ih =>
      intro l w hl hn hb h0 h1
      match l, hl with
      | a :: l, hl =>
        have g1 := hb a List.mem_cons_self
        refine ih l _ (by simpa using hl) (by omega) (fun x hx => hb x (List.mem_cons_of_mem _ hx)) (show 0 ≤ w * 256 + a by omega) ?_
        rw [show 8 - n = (8 - (n + 1)) + 1 by omega]
        simp only [p256]
        show w * 256 + a < _
        omega
  have hz : ∀ m : Nat, 0 < p256 m := by
    intro m
    induction m with
    | zero => decide
    | succ m ih => simp only [p256]; omega
  have := key (l.take 8).length (l.take 8) 0 rfl (by rw [List.length_take]; omega) (h.take 8) (by omega) (hz _)
  exact this
theorem list32 {l m : List Int} (hl : l.length = 32) (hm : m.length = 32) (h0 : l.take 8 = m.take 8) (h1 : (l.drop 8).take 8 = (m.drop 8).take 8) (h2 : (l.drop 16).take 8 = (m.drop 16).take 8) (h3 : (l.drop 24).take 8 = (m.drop 24).take 8) : l = m := by
  have cut : ∀ x : List Int, x.length = 32 → x = x.take 8 ++ ((x.drop 8).take 8 ++ ((x.drop 16).take 8 ++ (x.drop 24).take 8)) := by
    intro x hx
    have e3 : (x.drop 24).take 8 = x.drop 24 := List.take_of_length_le (by rw [List.length_drop]; omega)
    have e2 : (x.drop 16).take 8 ++ x.drop 24 = x.drop 16 := by
      have := List.take_append_drop 8 (x.drop 16)
      rwa [List.drop_drop] at this
    have e1 : (x.drop 8).take 8 ++ x.drop 16 = x.drop 8 := by
      have := List.take_append_drop 8 (x.drop 8)
      rwa [List.drop_drop] at this
    rw [e3, e2, e1, List.take_append_drop]
  rw [cut l hl, cut m hm, h0, h1, h2, h3]
theorem pad_inj {l m : List Int} (hl : l.length ≤ 23) (hm : m.length ≤ 23) (h : padL l = padL m) : l = m := by
  have zl : l.length + 9 + zn l.length = 32 := by unfold zn; omega
  have zm : m.length + 9 + zn m.length = 32 := by unfold zn; omega
  unfold padL at h
  have h8 := List.append_inj' h (by simp [be8_length])
  have hlen : (l.length : Int) = (m.length : Int) := by
    have := congrArg (fun x => x.getD 7 0) h8.2
    simp [be8] at this
    omega
  rw [List.append_assoc, List.append_assoc] at h8
  exact (List.append_inj h8.1 (by omega)).1
theorem hash_one {l : List Int} (hl : l.length ≤ 23) : hashL l = hb iv (w8 (padL (bareL l)), w8 ((padL (bareL l)).drop 8), w8 ((padL (bareL l)).drop 16), w8 ((padL (bareL l)).drop 24)) := by
  unfold hashL
  have := bareL_le l
  rw [padL_length, show ((bareL l).length + 9 + zn (bareL l).length) / 32 = 1 by unfold zn; omega]
  rfl
theorem bareL_id {l : List Int} (h : ∀ x ∈ l, x ≠ 255) : bareL l = l := by
  unfold bareL
  rw [List.filter_eq_self]
  intro x hx
  simp [h x hx]
theorem hash_inj {l m : List Int} (hl : l.length ≤ 23) (hm : m.length ≤ 23) (h1 : Bytes8 l) (h2 : Bytes8 m) (b1 : ∀ x ∈ l, x ≠ 255) (b2 : ∀ x ∈ m, x ≠ 255) (h : hashL l = hashL m) : l = m := by
  rw [hash_one hl, hash_one hm, bareL_id b1, bareL_id b2] at h
  have p1 := padL_8 h1
  have p2 := padL_8 h2
  have l1 : (padL l).length = 32 := by rw [padL_length]; unfold zn; omega
  have l2 : (padL m).length = 32 := by rw [padL_length]; unfold zn; omega
  have e := hb_inj (s := iv) (x := (w8 (padL l), w8 ((padL l).drop 8), w8 ((padL l).drop 16), w8 ((padL l).drop 24))) (y := (w8 (padL m), w8 ((padL m).drop 8), w8 ((padL m).drop 16), w8 ((padL m).drop 24))) (by unfold iv U4; decide) ⟨w8_U p1, w8_U (p1.drop 8), w8_U (p1.drop 16), w8_U (p1.drop 24)⟩ ⟨w8_U p2, w8_U (p2.drop 8), w8_U (p2.drop 16), w8_U (p2.drop 24)⟩ h
  simp only [Prod.mk.injEq] at e
  refine pad_inj hl hm (list32 l1 l2 (w8_inj (by omega) (by omega) p1 p2 e.1) (w8_inj ?_ ?_ (p1.drop 8) (p2.drop 8) e.2.1) (w8_inj ?_ ?_ (p1.drop 16) (p2.drop 16) e.2.2.1) (w8_inj ?_ ?_ (p1.drop 24) (p2.drop 24) e.2.2.2))
  all_goals rw [List.length_drop]; omega
theorem toList_loop (s : ByteArray) (n : Nat) : ∀ i r, s.size - i = n → ByteArray.toList.loop s i r = r.reverse ++ s.data.toList.drop i := by
  induction n with
  | zero =>
    intro i r h
    rw [ByteArray.toList.loop]
    have hs : s.size = s.data.toList.length := rfl
    rw [if_neg (by omega), List.drop_of_length_le (by omega)]
    simp
  | succ n ih =>
    intro i r h
    rw [ByteArray.toList.loop]
    have hs : s.size = s.data.toList.length := rfl
    rw [if_pos (by omega), ih (i+1) _ (by omega), List.drop_eq_getElem_cons (by omega : i < s.data.toList.length)]
    simp [ByteArray.get!]
    exact getElem!_pos _ _ _
theorem toList_is (s : ByteArray) : s.toList = s.data.toList := by
  unfold ByteArray.toList
  rw [toList_loop s _ 0 [] rfl]
  simp
theorem toList_beq (s t : ByteArray) : (s.toList == t.toList) = decide (s = t) := by
  by_cases h : s = t
  · subst h; simp
  · rw [decide_eq_false h, beq_eq_false_iff_ne, toList_is, toList_is]
    intro e
    exact h (ByteArray.ext (Array.toList_inj.1 e))
theorem bytesOf_inj {s t : ByteArray} (h : bytesOf s = bytesOf t) : s = t := by rw [← str_bytesOf s, h, str_bytesOf]
theorem bytesOf_size (s : ByteArray) : (bytesOf s).length = s.size := by unfold bytesOf; rw [List.length_map]; rfl
theorem bytesOf_append (s t : ByteArray) : bytesOf (s ++ t) = bytesOf s ++ bytesOf t := by
  unfold bytesOf
  rw [ByteArray.data_append, Array.toList_append, List.map_append]
theorem bytesOf_extract (s : ByteArray) (i j : Nat) : bytesOf (s.extract i j) = ((bytesOf s).take j).drop i := by
  unfold bytesOf
  rw [ByteArray.data_extract, Array.toList_extract, List.extract_eq_take_drop, ← List.map_take, ← List.map_drop, List.drop_take]
end Go.Proofs.Ytfbhlofifodkjaa.Q
