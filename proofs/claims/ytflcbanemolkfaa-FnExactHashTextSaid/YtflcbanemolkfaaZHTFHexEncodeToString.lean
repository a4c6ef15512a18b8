/- What the Go functions encoding/hex.EncodeToString do is what the Lean functions .f of their names here say; condition: .f gives an answer. (Written by the session's program pp.py over the kit's print; Lean checks it.) -/
import Derived.Test.YtflcbanemolkfaaZHTK
import Derived.Test.YtflcbanemolkfaaZHTM
import Derived.Test.YtflcbanemolkfaaZHTFHexEncode
import Derived.Test.YtflcbanemolkfaaZHTFHexEncodedLen
namespace Go.Proofs.Ytflcbanemolkfaa.B
open Go.RowKit Go.Proofs.YtflcbanemolkfaaW.PrintWords Go.Proofs.YtflcbanemolkfaaW.PrintLast Go.Proofs.YtflcbanemolkfaaW.PrintMore
attribute [local go_sem] max2_int min2_int max_two min_two max_three min_three max_four min_four
set_option linter.unusedVariables false
set_option linter.unusedSimpArgs false
section
def hex_EncodeToString.f (k : Nat) (l0 : List Int) : Option (ByteArray) := (hex_EncodedLen.f (l0.length : Int)).bind fun t131 => (if 0 ≤ t131 then (if (t131 : Int).toNat ≤ 281474976710656 then ((hex_Encode.f k (List.replicate (t131 : Int).toNat 0) l0).bind fun bt135 => (some (strOfNums bt135.2))) else (none)) else (none))
theorem hex_EncodeToString.mono : ∀ a0 k, LeO (hex_EncodeToString.f k a0) (hex_EncodeToString.f (k + 1) a0) := by
  intro a0 k
  unfold hex_EncodeToString.f
  repeat' first | (with_reducible first | exact hex_Encode.mono _ _ _ | exact LeO.refl _ | exact LeO.none _ | refine LeO.ite ?_ ?_ | refine LeO.bind ?_ (fun _ => ?_)) | exact LeO.none _ | refine LeO.ite ?_ ?_ | refine LeO.bind ?_ (fun _ => ?_)
set_option maxHeartbeats 8000000 in
set_option maxRecDepth 100000 in
theorem hex_EncodeToString.calls (k : Nat) (A0 : Option Addr) (c0 : Nat) (l0 : List Int) (r : ByteArray) (w : World) (hr0 : Kd.C (Kd.int .u8) w A0 l0.length l0) (hc0 : l0.length ≤ c0) (h : hex_EncodeToString.f k l0 = some r) :
    Calls Try.prog 18 #[.slice A0 l0.length c0] w fun e w' => e = .returned (.string r) ∧ Below w.heap.size w w' := by
  have HR0 := Aside0.mk hr0
  have HC0 := Aside0.mk hc0
  clear hr0 hc0
  have HB := Aside0.mk (Below.refl w.heap.size w)
  have H : ((hex_EncodedLen.f (l0.length : Int)).bind fun t131 => (if 0 ≤ t131 then (if (t131 : Int).toNat ≤ 281474976710656 then ((hex_Encode.f k (List.replicate (t131 : Int).toNat 0) l0).bind fun bt135 => (some (strOfNums bt135.2))) else (none)) else (none))) = some r := h
  clear h
  obtain ⟨t131, A2, H⟩ := bnd_ H
  by_cases c3 : 0 ≤ t131
  · rw [if_pos c3] at H
    have c3b0 := eq_true c3
    have c3b1 : decide (0 ≤ t131) = true := decide_eq_true c3
    clear c3
    by_cases c4 : (t131 : Int).toNat ≤ 281474976710656
    · rw [if_pos c4] at H
      have c4b0 := eq_true c4
      have c4b1 : decide ((t131 : Int).toNat ≤ 281474976710656) = true := decide_eq_true c4
      clear c4
      obtain ⟨y132, hy132⟩ : ∃ y_ : List Int, y_ = (List.replicate (t131 : Int).toNat 0) := ⟨_, rfl⟩
      replace H : ((hex_Encode.f k y132 l0).bind fun bt135 => (some (strOfNums bt135.2))) = some r := by first | (rw [hy132]; with_reducible exact H) | (have H2_ := (Option.bind_some _ _).symm.trans H; rw [hy132]; with_reducible exact H2_) | (have H2_ := (Option.bind_some _ _).symm.trans H; with_reducible exact H2_) | with_reducible exact H | (rw [hy132]; exact H) | exact H
      have Ny132 := Aside0.mk hy132
      clear hy132
      obtain ⟨⟨t135, t136⟩, A5, H⟩ := bnd_ H
      dsimp only at H
      obtain rfl := Option.some.inj H
      go_enter Try.func18, Try.ntmps18
      go_wp2_with (first | ((with_reducible refine gate_callee (f := 37) rfl ?_); refine goL_ (some 6) Try.func37 #[.int .i64 (l0.length : Int)] ?_; (with_reducible refine (hex_EncodedLen.calls (l0.length : Int) t131 _ A2.out).mono ?_); rintro e w' ⟨rfl, ⟨nd, rfl⟩⟩; refine ⟨_, rfl, ?_⟩) | ((with_reducible refine gate_dst (N := 7) rfl ?_); refine Kd.R_make (Kd.int .u8) _ 5 rfl (N := 7) rfl 42 _ _ rfl t131 rfl rfl Try.underlying42 (.int .u8 0) 1 info5 rfl (by decide) (by omega) 0 (ok := fun _ => True) (okp := fun _ => True) rfl (fun _ hk => hk) trivial (ofd_) (Nat.le_trans (Nat.mul_le_mul_right _ (ofd_ : t131.toNat ≤ 281474976710656)) (by omega)) (Below.refl _ _) (Nat.le_refl _) ?_; intro v133 w6 ho7 hb hg_ hnew_; clear hg_ hnew_; (first | rw [← Ny132.out] at ho7 | (simp only [Int.reduceToNat] at ho7; rw [← Ny132.out] at ho7)); have HO134 := Aside0.mk (Kd.R_lower ho7 (below_size bel_)); replace HB := stepB_ hb; clear hb ho7; obtain ⟨Ao8, co8, eo8⟩ := Kd.R_slice HO134.out; subst eo8) | ((with_reducible refine gate_callee (f := 38) rfl ?_); refine goL_ (some 10) Try.func38 #[.slice Ao8 y132.length co8, .slice A0 l0.length c0] ?_; (with_reducible refine (hex_Encode.calls k (fun k_ => some k_ = (.slice Ao8 y132.length co8 : Value).ownBlock) (.slice Ao8 y132.length co8) y132 _ _ l0 t135 t136 w _ ?side1 ?side2 ?side3 ?side4 A5.out).mono ?_); (case side1 => exact bel_); (case side2 => exact Kd.R_tight rfl HO134.out); (case side3 => exact Kd.C_kept_came (Kd.heap_int .u8) HR0.out bel_ (fun k_ hs_ => (fun e_ => Kd.R_base HO134.out k_ e_.symm) hs_)); (case side4 => exact HC0.out); rintro e w9 ⟨rfl, hy0, hb, hkp⟩; refine ⟨_, rfl, ?_⟩; replace HO134 := Aside0.mk (Kd.R_reok rfl hy0 (fun k_ e_ => HO134.out.1 k_ e_)); replace HB := Aside0.mk (hb); (try clear hb); (try clear hkp); (try clear hy0); have hcv10 := own_string (P := Try.prog) Try.underlying42 Try.underlying5 Try.underlying9 (Kd.own_of_R HO134.out)))
      go_ret
      exact ⟨rfl_, bel_⟩
    · rw [if_neg c4] at H
      exact absurd H (by simp)
  · rw [if_neg c3] at H
    exact absurd H (by simp)
end
end Go.Proofs.Ytflcbanemolkfaa.B
