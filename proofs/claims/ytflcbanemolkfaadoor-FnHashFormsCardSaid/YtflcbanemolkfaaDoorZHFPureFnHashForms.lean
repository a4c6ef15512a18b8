/- A digest in bytes and in digits comes back, and nothing else is read as one: the plain law behind FnHashForms. No condition. -/
import Derived.Test.YtflcbanemolkfaaDoorZHFFLawsFnHashForms
import Derived.Test.YtflcbanemolkfaaDoorZHFQForms
namespace Go.Proofs.YtflcbanemolkfaaDoor.Pure
open Go.RowKit Go.Proofs.YtflcbanemolkfaaDoor.B Go.Proofs.YtflcbanemolkfaaDoor.Q Go.Proofs.YtflcbanemolkfaaDoorW.PrintWords Go.Proofs.YtflcbanemolkfaaDoorW.PrintLast Go.Proofs.YtflcbanemolkfaaDoorW.PrintMore
set_option linter.unusedVariables false
set_option linter.unusedSimpArgs false
theorem j1_ok {k : Nat} (hk : 4000010 < k) (l : List Int) (h : Bytes8 l) : laws_FnHashForms.j1 (k + 1) l false = some true := by
  rw [laws_FnHashForms.j1, if_neg (by simp)]
  obtain ⟨u, hu, hz⟩ := draw_back l h (k := k) (by omega)
  refine bsw hu ?_
  by_cases c : u.size = 32
  · obtain ⟨d, hd, e⟩ := back_text c
    refine bsw hd ?_
    dsimp only
    rw [show ((u.size : Int) == 32) = true by rw [c]; rfl, if_pos (show (true == true) = true from rfl)]
    try rw [if_pos rfl]
    refine bsw (impl_hbytes (by omega) d.1 d.2.1 d.2.2.1 d.2.2.2) ?_
    rw [show be32 (d.1, d.2.1, d.2.2.1, d.2.2.2) = bytesOf u from e, str_bytesOf, beq_self_eq_true]
  · refine bsw (back_not (by omega)) ?_
    dsimp only
    rw [show ((u.size : Int) == 32) = false from beq_eq_false_iff_ne.mpr (by omega), if_pos (show (false == false) = true from rfl)]
    try rw [if_neg (by simp)]
theorem j0_ok {k : Nat} (hk : 4000010 < k) (l : List Int) (h : Bytes8 l) : laws_FnHashForms.j0 (k + 2) l false = some true := by
  rw [laws_FnHashForms.j0, if_neg (by simp)]
  obtain ⟨t, ht, hz⟩ := draw_read l h (k := k + 1) (by omega)
  obtain ⟨r, h1, h2⟩ := hashRead_same (k := k + 1) (by omega) t (by omega)
  refine bsw ht (bsw h2 (bsw h1 ?_))
  rw [bne_self_eq_false, if_neg (by simp)]
  have V := read_val (k := k + 1) (by omega) t (by omega)
  rw [h2] at V
  by_cases g : t.size = 64 ∧ (bytesOf t).all dig = true
  · rw [if_pos g] at V
    obtain ⟨b1, b2⟩ := prs_back (bytesOf t) (bytesOf_8 t) g.2 (by rw [bytesOf_length]; omega)
    obtain ⟨d, hd, e⟩ := back_text (t := strOfNums (prs (bytesOf t))) (by rw [str_size, prs_length, bytesOf_length]; omega)
    rw [hd] at V
    obtain rfl := Option.some.inj V
    rw [if_pos rfl]
    refine bsw (impl_hashText (by omega) d.1 d.2.1 d.2.2.1 d.2.2.2) ?_
    rw [show be32 (d.1, d.2.1, d.2.2.1, d.2.2.2) = prs (bytesOf t) from e.trans (bytesOf_str _ b2), b1, str_bytesOf, bne_self_eq_false]
    exact j1_ok hk l h
  · rw [if_neg g] at V
    obtain rfl := Option.some.inj V
    rw [if_neg (by simp)]
    exact j1_ok hk l h
theorem forms_at {k : Nat} (hk : 4000010 < k) (l : List Int) (h : Bytes8 l) : laws_FnHashForms.f (k + 2) l = some true := by
  unfold laws_FnHashForms.f
  by_cases c : (l.length : Int) > 1048576
  · rw [if_pos c]
  · rw [if_neg c]
    obtain ⟨d, hu, hd⟩ := draw_bytes l h (k := k + 2) (by omega)
    have hB := impl_hbytes (k := k + 2) (by omega) d.1 d.2.1 d.2.2.1 d.2.2.2
    have hT := impl_hashText (k := k + 2) (by omega) d.1 d.2.1 d.2.2.1 d.2.2.2
    refine bsw hd (bsw hB (bsw (back_digest hu) (bsw hT (bsw (read_digits (by omega) hu) ?_))))
    dsimp only
    rw [if_pos rfl, if_pos rfl, if_neg (by simp), if_neg (by simp)]
    refine bsw hB ?_
    rw [if_pos (by rw [str_size, be32_length]; rfl)]
    refine bsw hT ?_
    rw [show ((((strOfNums (hexL (be32 (d.1, d.2.1, d.2.2.1, d.2.2.2)))).size : Nat) : Int) != 64) = false by rw [str_size, hexL_length, be32_length]; rfl]
    exact j0_ok hk l h
theorem FnHashForms (y0 : List Int) (h : y0.length ≤ 9223372036854775807 ∧ ∀ y_ ∈ y0, (Lit.int .u8 y_).wf = true) : ∃ k, laws_FnHashForms.f k y0 = some true :=
  ⟨4000011 + 2, forms_at (by omega) y0 fun x hx => by
    have := h.2 x hx
    simp [Lit.wf, IntKind.min, IntKind.max, IntKind.signed, IntKind.bits] at this
    omega⟩
end Go.Proofs.YtflcbanemolkfaaDoor.Pure
