/- What the Go functions encoding/hex.DecodeString do is what the Lean functions .f of their names here say; condition: .f gives an answer. (Written by the session's program pp.py over the kit's print; Lean checks it.) -/
import Derived.Test.YtflcbanemolkfaaDoorZHFK
import Derived.Test.YtflcbanemolkfaaDoorZHFM
import Derived.Test.YtflcbanemolkfaaDoorZHFFHexDecode
import Derived.Test.YtflcbanemolkfaaDoorZHFFHexDecodedLen
import Derived.Test.YtflcbanemolkfaaDoorZHFHHexKit
namespace Go.Proofs.YtflcbanemolkfaaDoor.B
open Go.RowKit Go.Proofs.YtflcbanemolkfaaDoorW.PrintWords Go.Proofs.YtflcbanemolkfaaDoorW.PrintLast Go.Proofs.YtflcbanemolkfaaDoorW.PrintMore
attribute [local go_sem] max2_int min2_int max_two min_two max_three min_three max_four min_four
set_option linter.unusedVariables false
set_option linter.unusedSimpArgs false
section
def hex_DecodeString.f (k : Nat) (a0 : ByteArray) : Option (List Int × Int) := (hex_DecodedLen.f (a0.size : Int)).bind fun t143 => (if 0 ≤ t143 then (if (t143 : Int).toNat ≤ 281474976710656 then ((some (List.replicate (t143 : Int).toNat 0 : List Int)).bind fun y144 => ((impl_bytesRow.f a0).bind fun t147 => ((hex_Decode.f k y144 t147).bind fun bt150 => (if 0 ≤ bt150.1 then (if bt150.1 ≤ (y144.length : Int) then (some ((bt150.2.2.take (bt150.1 : Int).toNat), bt150.2.1)) else (none)) else (none))))) else (none)) else (none))
theorem hex_DecodeString.mono : ∀ a0 k, LeO (hex_DecodeString.f k a0) (hex_DecodeString.f (k + 1) a0) := by
  intro a0 k
  unfold hex_DecodeString.f
  repeat' first | (with_reducible first | exact hex_Decode.mono _ _ _ | exact LeO.refl _ | exact LeO.none _ | refine LeO.ite ?_ ?_ | refine LeO.bind ?_ (fun _ => ?_)) | exact LeO.none _ | refine LeO.ite ?_ ?_ | refine LeO.bind ?_ (fun _ => ?_)
set_option maxHeartbeats 8000000 in
set_option maxRecDepth 100000 in
theorem hex_DecodeString.calls (k : Nat) (a0 : ByteArray) (r1 : List Int) (r2 : Int) (w : World) (ea_ : Addr) (hE : w.cell? ⟨1, 0, none⟩ = some (EVp ea_)) (h : hex_DecodeString.f k a0 = some (r1, r2)) :
    Calls Tryd.prog 28 #[.string a0] w fun e w' => ∃ v0_ : Value, e = .returned (.tuple #[v0_, errV ea_ r2]) ∧ Kd.R (Kd.int .u8) 5 w' w.heap.size (fun _ => True) v0_ r1 ∧ Below w.heap.size w w' := by
  have HB := Aside0.mk (Below.refl w.heap.size w)
  have H : ((hex_DecodedLen.f (a0.size : Int)).bind fun t143 => (if 0 ≤ t143 then (if (t143 : Int).toNat ≤ 281474976710656 then ((some (List.replicate (t143 : Int).toNat 0 : List Int)).bind fun y144 => ((impl_bytesRow.f a0).bind fun t147 => ((hex_Decode.f k y144 t147).bind fun bt150 => (if 0 ≤ bt150.1 then (if bt150.1 ≤ (y144.length : Int) then (some ((bt150.2.2.take (bt150.1 : Int).toNat), bt150.2.1)) else (none)) else (none))))) else (none)) else (none))) = some (r1, r2) := h
  clear h
  obtain ⟨t143, A2, H⟩ := bnd_ H
  by_cases c3 : 0 ≤ t143
  · rw [if_pos c3] at H
    have c3b0 := eq_true c3
    have c3b1 : decide (0 ≤ t143) = true := decide_eq_true c3
    clear c3
    by_cases c4 : (t143 : Int).toNat ≤ 281474976710656
    · rw [if_pos c4] at H
      have c4b0 := eq_true c4
      have c4b1 : decide ((t143 : Int).toNat ≤ 281474976710656) = true := decide_eq_true c4
      clear c4
      obtain ⟨y144, hy144⟩ : ∃ y_ : List Int, y_ = (List.replicate (t143 : Int).toNat 0) := ⟨_, rfl⟩
      replace H : ((impl_bytesRow.f a0).bind fun t147 => ((hex_Decode.f k y144 t147).bind fun bt150 => (if 0 ≤ bt150.1 then (if bt150.1 ≤ (y144.length : Int) then (some ((bt150.2.2.take (bt150.1 : Int).toNat), bt150.2.1)) else (none)) else (none)))) = some (r1, r2) := by first | (rw [hy144]; with_reducible exact H) | (have H2_ := (Option.bind_some _ _).symm.trans H; rw [hy144]; with_reducible exact H2_) | (have H2_ := (Option.bind_some _ _).symm.trans H; with_reducible exact H2_) | with_reducible exact H | (rw [hy144]; exact H) | exact H
      have Ny144 := Aside0.mk hy144
      clear hy144
      obtain ⟨t147, A5, H⟩ := bnd_ H
      obtain ⟨⟨t150, t151, t152⟩, A6, H⟩ := bnd_ H
      dsimp only at H
      by_cases c7 : 0 ≤ t150
      · rw [if_pos c7] at H
        have c7b0 := eq_true c7
        have c7b1 : decide (0 ≤ t150) = true := decide_eq_true c7
        clear c7
        by_cases c8 : t150 ≤ (y144.length : Int)
        · rw [if_pos c8] at H
          have c8b0 := eq_true c8
          have c8b1 : decide (t150 ≤ (y144.length : Int)) = true := decide_eq_true c8
          clear c8
          obtain ⟨y153, hy153⟩ : ∃ y_ : List Int, y_ = (t152.take (t150 : Int).toNat) := ⟨_, rfl⟩
          replace H : (some (y153, t151)) = some (r1, r2) := by first | (rw [hy153]; with_reducible exact H) | (have H2_ := (Option.bind_some _ _).symm.trans H; rw [hy153]; with_reducible exact H2_) | (have H2_ := (Option.bind_some _ _).symm.trans H; with_reducible exact H2_) | with_reducible exact H | (rw [hy153]; exact H) | exact H
          have Ny153 := Aside0.mk hy153
          clear hy153
          simp only [Option.some.injEq, Prod.mk.injEq] at H
          obtain ⟨rfl, rfl⟩ := H
          obtain ⟨hs_, rfl⟩ := bytesRow_is A5.out
          go_enter Tryd.func28, Tryd.ntmps28
          go_wp2_with (first | ((with_reducible refine gate_callee (f := 35) rfl ?_); refine goL_ (some 9) Tryd.func35 #[.int .i64 (a0.size : Int)] ?_; (with_reducible refine (hex_DecodedLen.calls (a0.size : Int) t143 _ A2.out).mono ?_); rintro e w' ⟨rfl, ⟨nd, rfl⟩⟩; refine ⟨_, rfl, ?_⟩) | ((with_reducible refine gate_dst (N := 10) rfl ?_); refine Kd.R_make (Kd.int .u8) _ 5 rfl (N := 10) rfl 29 _ _ rfl t143 rfl rfl Tryd.underlying29 (.int .u8 0) 1 info5 rfl (by decide) (by omega) 0 (ok := fun _ => True) (okp := fun _ => True) rfl (fun _ hk => hk) trivial (ofd_) (Nat.le_trans (Nat.mul_le_mul_right _ (ofd_ : t143.toNat ≤ 281474976710656)) (by omega)) (Below.refl _ _) (Nat.le_refl _) ?_; intro v145 w9 ho10 hb hg_ hnew_; clear hg_ hnew_; (first | rw [← Ny144.out] at ho10 | (simp only [Int.reduceToNat] at ho10; rw [← Ny144.out] at ho10)); have HO146 := Aside0.mk (Kd.R_lower ho10 (below_size bel_)); replace HB := stepB_ hb; clear hb ho10) | ((with_reducible refine gate_dst (N := 14) rfl ?_); refine bytesK_ (S := fun k_ => some k_ = (v145 : Value).ownBlock) (fun e_ => absurd (Kd.R_lt (kdU_ HO146.out) _ e_.symm) (Nat.lt_irrefl _)) rfl (N := 14) rfl (s := a0) (e := 5) hs_ ?hr ?_; (case hr => go_simp; rw [Lib.run_convert_string_bytes _ 9 29 5 a0 Tryd.underlying9 Tryd.underlying29 Tryd.underlying5]; rfl); intro A13 c13 w11 hC hc13 hb; replace HO146 := Aside0.mk (Kd.R_below (kdU_ HO146.out) hb); replace HB := stepB_ hb; clear hb; obtain ⟨Ao12, co12, eo12⟩ := Kd.R_slice HO146.out; subst eo12) | ((with_reducible refine gate_callee (f := 36) rfl ?_); refine goL_ (some 15) Tryd.func36 #[.slice Ao12 y144.length co12, .slice A13 a0.size c13] ?_; (with_reducible refine (hex_Decode.callsS k (fun k_ => some k_ = (.slice Ao12 y144.length co12 : Value).ownBlock) (.slice Ao12 y144.length co12) y144 _ _ a0 t150 t151 t152 w _ ?side1 ?side2 ?side3 ?side4 ea_ hE A6.out).mono ?_); (case side1 => exact bel_); (case side2 => exact Kd.R_tight rfl HO146.out); (case side3 => exact hC); (case side4 => exact hc13); rintro e w14 ⟨rfl, hy0, hb, hkp⟩; refine ⟨_, rfl, ?_⟩; replace HO146 := Aside0.mk (Kd.R_reok rfl hy0 (fun k_ e_ => HO146.out.1 k_ e_)); replace HB := Aside0.mk (hb); (try clear hb); (try clear hkp); (try clear hy0); have q15 : (t150 : Int) ≤ ((y144.length : Int) : Int) := ofd_; obtain ⟨i015, hi015, _, hsz15, _⟩ := info_parts info5; have hcut15 := cut_to (P := Tryd.prog) 29 5 .i64 Tryd.underlying29 hi015 Ao12 y144.length co12 t150 (ofd_) q15 (Kd.R_reads' HO146.out).2.1; have hl_ := (Kd.R_reads' HO146.out).1; have hr15 := Kd.R_take (m := (t150 : Int).toNat) HO146.out (by omega); have hy15 : y153.length = (t150 : Int).toNat := (by rw [Ny153.out, List.length_take]; omega); rw [← Ny153.out] at hr15; rw [← hy15] at hr15 hcut15; clear hl_ hy15 hi015 hsz15 HO146; have HO155 := Aside0.mk hr15; clear hr15; replace q15 := eq_true q15))
          go_ret2
          exact ⟨_, rfl_, by (with_reducible repeat (first | apply Kd.R_alloc | apply Kd.R_drewN | apply Kd.R_drew)); exact Kd.R_mono HO155.out (fun _ hk => trivial), bel_⟩
        · rw [if_neg c8] at H
          exact absurd H (by simp)
      · rw [if_neg c7] at H
        exact absurd H (by simp)
    · rw [if_neg c4] at H
      exact absurd H (by simp)
  · rw [if_neg c3] at H
    exact absurd H (by simp)
theorem hex_DecodeString.calls0 (k : Nat) (a0 : ByteArray) (r1 : List Int) (r2 : Int) (w : World) (ea_ : Addr) (hE : w.cell? ⟨1, 0, none⟩ = some (EVp ea_)) (h0 : r2 = 0) (h : hex_DecodeString.f k a0 = some (r1, r2)) :
    Calls Tryd.prog 28 #[.string a0] w fun e w' => ∃ v0_ : Value, e = .returned (.tuple #[v0_, .nilIface]) ∧ Kd.R (Kd.int .u8) 5 w' w.heap.size (fun _ => True) v0_ r1 ∧ Below w.heap.size w w' := by
  have := hex_DecodeString.calls k a0 r1 r2 w ea_ hE h
  rwa [show errV ea_ r2 = .nilIface from if_pos h0] at this
theorem hex_DecodeString.calls1 (k : Nat) (a0 : ByteArray) (r1 : List Int) (r2 : Int) (w : World) (ea_ : Addr) (hE : w.cell? ⟨1, 0, none⟩ = some (EVp ea_)) (h0 : ¬ r2 = 0) (h : hex_DecodeString.f k a0 = some (r1, r2)) :
    Calls Tryd.prog 28 #[.string a0] w fun e w' => ∃ v0_ : Value, e = .returned (.tuple #[v0_, EVp ea_]) ∧ Kd.R (Kd.int .u8) 5 w' w.heap.size (fun _ => True) v0_ r1 ∧ Below w.heap.size w w' := by
  have := hex_DecodeString.calls k a0 r1 r2 w ea_ hE h
  rwa [errV_one ea_ h0] at this
end
end Go.Proofs.YtflcbanemolkfaaDoor.B
