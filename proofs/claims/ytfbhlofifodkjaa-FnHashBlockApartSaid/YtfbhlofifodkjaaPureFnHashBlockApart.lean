/- Blocks apart give digests apart, and so do short texts with no byte 255: the plain law behind FnHashBlockApart. No condition. -/
import Derived.Test.YtfbhlofifodkjaaFLawsFnHashBlockApart
import Derived.Test.YtfbhlofifodkjaaQClash
import Derived.Test.YtfbhlofifodkjaaQCode
namespace Go.Proofs.Ytfbhlofifodkjaa.Pure
open Go.RowKit Go.Proofs.Ytfbhlofifodkjaa.B Go.Proofs.Ytfbhlofifodkjaa.Q Go.Proofs.YtfbhlofifodkjaaW.PrintWords Go.Proofs.YtfbhlofifodkjaaW.PrintLast
theorem draw_block {k : Nat} (hk : 1000 ≤ k) (l : List Int) (h : Bytes8 l) : ∃ s x : D4, spec_DrawHashBlock.f k l = some (s.1, s.2.1, s.2.2.1, s.2.2.2, x.1, x.2.1, x.2.2.1, x.2.2.2) ∧ U4 s ∧ U4 x := by
  unfold spec_DrawHashBlock.f
  obtain ⟨b, hb, r0⟩ := open_ok l h
  rw [hb]
  simp only [Option.bind_some]
  obtain ⟨s, q, h1, u1, r1, l1⟩ := digest_ok (k := k) (by omega) r0 (by omega)
  rw [h1]
  simp only [Option.bind_some]
  obtain ⟨x, q2, h2, u2, r2, l2⟩ := digest_ok (k := k) (by omega) r1 (by omega)
  rw [h2]
  exact ⟨s, x, rfl, u1, u2⟩
theorem bs {α β : Type} {x : Option α} {v : α} {F : α → Option β} {r : Option β} (h : x = some v) (k : F v = r) : x.bind F = r := by rw [h]; exact k
theorem three {k : Nat} {b : List Int} {p q q4 q5 n : Int} {s t u : ByteArray} (h1 : spec_l1Rd_text.f k b p n = some (s, q)) (h4 : spec_l1Rd_pad.f k b q s = some (t, q4)) (h5 : spec_l1Rd_pad.f k b q4 t = some (u, q5)) :
    ((spec_l1Rd_text.f k b p n).bind fun x => (spec_l1Rd_pad.f k b x.2 x.1).bind fun y => (spec_l1Rd_pad.f k b y.2 y.1).bind fun z => some z.1) = some u := by
  rw [h1, Option.bind_some, h4, Option.bind_some, h5, Option.bind_some]
theorem draw_hash {k : Nat} (hk : 1000 ≤ k) (l : List Int) (h : Bytes8 l) : ∃ s, spec_DrawHashOf.f k l = some s ∧ s.size ≤ 100000 := by
  unfold spec_DrawHashOf.f
  obtain ⟨b, hb, r0⟩ := open_ok l h
  rw [hb]
  simp only [Option.bind_some]
  obtain ⟨v, hv, v0, v1, _⟩ := pick_ok (k := k) (by omega) r0 (by omega) 12
  rw [hv]
  simp only [Option.bind_some]
  have r1 : Rdr b (0 + 1) 1 := r0.more (by omega) (by omega)
  by_cases c1 : v = 0
  · rw [if_pos c1]
    obtain ⟨x, hx, x0, x1, _⟩ := pick_ok (k := k) (by omega) r1 (by omega) 2
    rw [hx]
    simp only [Option.bind_some]
    have := x1 (by omega)
    obtain ⟨t, h3, z3⟩ := many_ok (k := k) (n := 10000 + x.toNat) (by omega) (by omega) ⟨#[97, 98]⟩ (by rw [show (⟨#[97, 98]⟩ : ByteArray).size = 2 from rfl]; omega)
    rw [show ((10000 + x.toNat : Nat) : Int) = wrap64 (10000 + x) by unfold wrap64; omega] at h3
    rw [h3]
    exact ⟨_, rfl, by rw [z3, show (⟨#[97, 98]⟩ : ByteArray).size = 2 from rfl]; omega⟩
  · rw [if_neg c1]
    by_cases c2 : v = 1
    · rw [if_pos c2]
      obtain ⟨x, hx, x0, x1, _⟩ := pick_ok (k := k) (by omega) r1 (by omega) 16
      rw [hx]
      simp only [Option.bind_some]
      have := x1 (by omega)
      obtain ⟨t, h3, z3⟩ := many_ok (k := k) (n := 20 + x.toNat) (by omega) (by omega) ⟨#[120]⟩ (by rw [show (⟨#[120]⟩ : ByteArray).size = 1 from rfl]; omega)
      rw [show ((20 + x.toNat : Nat) : Int) = wrap64 (20 + x) by unfold wrap64; omega] at h3
      rw [h3]
      exact ⟨_, rfl, by rw [z3, show (⟨#[120]⟩ : ByteArray).size = 1 from rfl]; omega⟩
    · rw [if_neg c2]
      obtain ⟨x, hx, x0, x1, _⟩ := pick_ok (k := k) (by omega) r1 (by omega) 5
      rw [hx]
      simp only [Option.bind_some]
      have r2 : Rdr b (0 + 1 + 1) 2 := r1.more (by omega) (by omega)
      by_cases c3 : x = 0
      · rw [if_pos c3]
        obtain ⟨s, q, h1, z1, r3, l3⟩ := text_ok (k := k) (n := 60) (by omega) (by omega) r2 (by omega)
        rw [show ((60 : Nat) : Int) = 60 by rfl] at h1
        obtain ⟨t, q4, h4, z4, r4, l4⟩ := pad_ok (k := k) (by omega) r3 (by omega) s (by omega)
        obtain ⟨u, q5, h5, z5, r5, l5⟩ := pad_ok (k := k) (by omega) r4 (by omega) t (by omega)
        exact ⟨u, three h1 h4 h5, by omega⟩
      · rw [if_neg c3]
        obtain ⟨s, q, h1, z1, r3, l3⟩ := text_ok (k := k) (n := 100) (by omega) (by omega) r2 (by omega)
        rw [show ((100 : Nat) : Int) = 100 by rfl] at h1
        rw [h1]
        exact ⟨_, rfl, by simp only []; omega⟩
/-- A text of up to 23 bytes, none of them 255. -/
def Short (s : ByteArray) : Prop := s.size ≤ 23 ∧ ∀ x ∈ bytesOf s, x ≠ 255
theorem short_inj {s t : ByteArray} (hs : Short s) (ht : Short t) : decide (hashOf s = hashOf t) = decide (s = t) := by
  refine decide_eq_decide.2 ⟨fun h => ?_, fun h => by rw [h]⟩
  unfold hashOf at h
  rw [if_neg (by have := hs.1; omega), if_neg (by have := ht.1; omega)] at h
  have hs' := bytesOf_size s
  have ht' := bytesOf_size t
  exact bytesOf_inj (hash_inj (by have := hs.1; omega) (by have := ht.1; omega) (bytesOf_8 s) (bytesOf_8 t) hs.2 ht.2 h)
theorem cut_short {s : ByteArray} (h : ∀ x ∈ bytesOf s, x ≠ 255) : Short (s.extract 0 23) := by
  refine ⟨by rw [ByteArray.size_extract]; omega, fun x hx => ?_⟩
  rw [bytesOf_extract, List.drop_zero] at hx
  exact h x (List.mem_of_mem_take hx)
theorem put_255 (s : ByteArray) (hs : Short s) (j : Nat) (hj : j ≤ s.size) : hashOf (s.extract 0 j ++ ⟨#[255]⟩ ++ s.extract j s.size) = hashOf s := by
  have h1 := hs.1
  have hb := bytesOf_size s
  have e1 : (s.extract 0 j ++ ⟨#[255]⟩ ++ s.extract j s.size).size = s.size + 1 := by
    rw [ByteArray.size_append, ByteArray.size_append, ByteArray.size_extract, ByteArray.size_extract, show (⟨#[255]⟩ : ByteArray).size = 1 from rfl]
    omega
  unfold hashOf
  rw [if_neg (by omega), if_neg (by omega)]
  have e2 : bareL (bytesOf (s.extract 0 j ++ ⟨#[255]⟩ ++ s.extract j s.size)) = bareL (bytesOf s) := by
    rw [bytesOf_append, bytesOf_append, bytesOf_extract, bytesOf_extract, show bytesOf ⟨#[255]⟩ = [255] from rfl, List.drop_zero, List.take_of_length_le (by omega : (bytesOf s).length ≤ s.size)]
    unfold bareL
    rw [List.filter_append, List.filter_append, show List.filter (fun x : Int => !(x == 255)) [255] = [] from rfl, List.append_nil, ← List.filter_append, List.take_append_drop]
  unfold hashL
  rw [e2]
theorem j2_ok {k : Nat} (hk : 30002 ≤ k) (l : List Int) (h : Bytes8 l) (hl : l.length ≤ 1048576) (s t : ByteArray) (hs : Short s) (ht : Short t) : laws_FnHashBlockApart.j2 k l s t = some true := by
  obtain ⟨k, rfl⟩ : ∃ m, k = m + 1 := ⟨k - 1, by omega⟩
  simp only [laws_FnHashBlockApart.j2]
  have h1 := hs.1
  obtain ⟨v, hv, v0, v1⟩ := at_ok l h 6 (by omega) hl
  obtain ⟨G, g1, g2, g3⟩ : ∃ G : ByteArray → D4, (∀ x, impl_HashOf.f k x = some (G x)) ∧ decide (G s = G t) = decide (s = t) ∧ ∀ j, j ≤ s.size → G (s.extract 0 j ++ ⟨#[255]⟩ ++ s.extract j s.size) = G s :=
    ⟨hashOf, fun x => impl_hash (by omega) x, short_inj hs ht, fun j hj => put_255 s hs j hj⟩
  rw [show ((6 : Nat) : Int) = 6 by rfl] at hv
  refine bs hv ?_
  rw [show wrap64 ((s.size : Int) + 1) = (s.size : Int) + 1 by unfold wrap64; omega, w64 (x := v) (by omega) (by omega), if_neg (by omega)]
  refine bs (g1 s) ?_
  refine bs (g1 t) ?_
  have t0 := Int.tmod_nonneg ((s.size : Int) + 1) v0
  have t1 := Int.tmod_lt_of_pos v (show (0 : Int) < (s.size : Int) + 1 by omega)
  obtain ⟨j, hj⟩ : ∃ j : Nat, v.tmod ((s.size : Int) + 1) = (j : Int) := ⟨(v.tmod ((s.size : Int) + 1)).toNat, by omega⟩
  rw [d4_beq, toList_beq, g2, if_pos (by simp), hj, Int.toNat_natCast]
  have e1 : (s.extract 0 j).size = j := by rw [ByteArray.size_extract]; omega
  have e2 : (s.extract j s.size).size = s.size - j := by rw [ByteArray.size_extract]; omega
  have e3 : (s.extract 0 j ++ (⟨#[255]⟩ : ByteArray)).size = j + 1 := by rw [ByteArray.size_append, e1]; rfl
  rw [if_pos (by omega), if_pos (by omega), if_pos (by omega), if_pos (by omega)]
  refine bs (g1 _) ?_
  refine bs (g1 s) ?_
  rw [d4_beq, g3 j (by omega), decide_eq_true rfl]
theorem j1_ok {k : Nat} (hk : 30003 ≤ k) (l : List Int) (h : Bytes8 l) (hl : l.length ≤ 1048576) (s t : ByteArray) (hs : Short s) (ht : ∀ x ∈ bytesOf t, x ≠ 255) : laws_FnHashBlockApart.j1 k l s t = some true := by
  obtain ⟨k, rfl⟩ : ∃ m, k = m + 1 := ⟨k - 1, by omega⟩
  simp only [laws_FnHashBlockApart.j1]
  by_cases c : (t.size : Int) > 23
  · rw [if_pos c, if_pos (by omega), if_pos (by omega)]
    exact j2_ok (by omega) l h hl s _ hs (cut_short ht)
  · rw [if_neg c]
    exact j2_ok (by omega) l h hl s _ hs ⟨by omega, ht⟩
theorem j0_ok {k : Nat} (hk : 1200000 ≤ k) (l : List Int) (h : Bytes8 l) (hl : l.length ≤ 1048576) : laws_FnHashBlockApart.j0 k l false = some true := by
  obtain ⟨k, rfl⟩ : ∃ m, k = m + 1 := ⟨k - 1, by omega⟩
  simp only [laws_FnHashBlockApart.j0]
  rw [if_neg (by simp)]
  obtain ⟨s, h1, z1⟩ := draw_hash (k := k) (by omega) l h
  rw [h1]
  simp only [Option.bind_some]
  obtain ⟨t, h2, b2⟩ := bare_ok (k := k) s (by omega) (by omega)
  rw [h2]
  simp only [Option.bind_some]
  rw [more_ok l 9 hl (by omega)]
  simp only [Option.bind_some]
  obtain ⟨s', h3, z3⟩ := draw_hash (k := k) (by omega) (9 :: l) (fun x hx => by
    rcases List.mem_cons.1 hx with e | e
    · subst e; decide
    · exact h x e)
  rw [h3]
  simp only [Option.bind_some]
  obtain ⟨t', h4, b4⟩ := bare_ok (k := k) s' (by omega) (by omega)
  rw [h4]
  simp only [Option.bind_some]
  have n2 : ∀ x ∈ bytesOf t, x ≠ 255 := by rw [b2]; exact bareL_not
  have n4 : ∀ x ∈ bytesOf t', x ≠ 255 := by rw [b4]; exact bareL_not
  by_cases c : (t.size : Int) > 23
  · rw [if_pos c, if_pos (by omega), if_pos (by omega)]
    exact j1_ok (by omega) l h hl _ _ (cut_short n2) n4
  · rw [if_neg c]
    exact j1_ok (by omega) l h hl _ _ ⟨by omega, n2⟩ n4
theorem block_fn (k : Nat) (hk : 11 ≤ k) (s : D4) (us : U4 s) : ∃ F : D4 → D4, (∀ x : D4, impl_HashBlock.f k s.1 s.2.1 s.2.2.1 s.2.2.2 x.1 x.2.1 x.2.2.1 x.2.2.2 = some (F x)) ∧ (∀ x : D4, spec_HashBlock.f k s.1 s.2.1 s.2.2.1 s.2.2.2 x.1 x.2.1 x.2.2.1 x.2.2.2 = some (F x)) ∧
    ∀ x y : D4, U4 x → U4 y → decide (F x = F y) = decide (x = y) :=
  ⟨hb s, fun x => impl_block hk _ _ _ _ _ _ _ _, fun x => spec_block hk _ _ _ _ _ _ _ _, fun x y hx hy => decide_eq_decide.2 ⟨fun h => hb_inj us hx hy h, fun h => by rw [h]⟩⟩
theorem no_differ (x : D4) : (!(x.1 == x.1) || (!(x.2.1 == x.2.1) || (!(x.2.2.1 == x.2.2.1) || !(x.2.2.2 == x.2.2.2)))) = false := by simp
theorem hashApart_at (k : Nat) (hk : 1300000 ≤ k) (l : List Int) (h : Bytes8 l) : laws_FnHashBlockApart.f k l = some true := by
  unfold laws_FnHashBlockApart.f
  by_cases hl : (l.length : Int) > 1048576
  · rw [if_pos hl]
  · rw [if_neg hl]
    obtain ⟨s, x, h1, us, ux⟩ := draw_block (k := k) (by omega) l h
    rw [h1]
    simp only [Option.bind_some]
    rw [more_ok l 3 (by omega) (by omega)]
    simp only [Option.bind_some]
    obtain ⟨y, z, h2, uy, uz⟩ := draw_block (k := k) (by omega) (3 :: l) (fun x hx => by
      rcases List.mem_cons.1 hx with e | e
      · subst e; decide
      · exact h x e)
    rw [h2]
    simp only [Option.bind_some]
    obtain ⟨F, f1, f2, f3⟩ := block_fn k (by omega) s us
    rw [f1 x, f2 x, f1 y, f1 z]
    simp only [Option.bind_some]
    rw [no_differ, if_neg (by simp), d4_beq, d4_beq, d4_beq, d4_beq, f3 x y ux uy, f3 x z ux uz, bne_self_eq_false, bne_self_eq_false, if_neg (by simp)]
    exact j0_ok (by omega) l h (by omega)
theorem FnHashBlockApart (y0 : List Int) (h : y0.length ≤ 9223372036854775807 ∧ ∀ y_ ∈ y0, (Lit.int .u8 y_).wf = true) : ∃ k, laws_FnHashBlockApart.f k y0 = some true :=
  ⟨1300000, hashApart_at _ (by omega) y0 fun x hx => by
    have := h.2 x hx
    simp [Lit.wf, IntKind.min, IntKind.max, IntKind.signed, IntKind.bits] at this
    omega⟩
end Go.Proofs.Ytfbhlofifodkjaa.Pure
