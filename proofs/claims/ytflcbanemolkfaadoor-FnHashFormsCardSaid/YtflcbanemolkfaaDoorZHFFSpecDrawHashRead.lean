/- What the Go functions loop.example/belfry/spec.DrawHashRead do is what the Lean functions .f of their names here say; condition: .f gives an answer. (Written by the session's program pp.py over the kit's print; Lean checks it.) -/
import Derived.Test.YtflcbanemolkfaaDoorZHFK
import Derived.Test.YtflcbanemolkfaaDoorZHFM
import Derived.Test.YtflcbanemolkfaaDoorZHFFSpecHashText
import Derived.Test.YtflcbanemolkfaaDoorZHFFSpecL1RdDigest
import Derived.Test.YtflcbanemolkfaaDoorZHFGL11
namespace Go.Proofs.YtflcbanemolkfaaDoor.B
open Go.RowKit Go.Proofs.YtflcbanemolkfaaDoorW.PrintWords Go.Proofs.YtflcbanemolkfaaDoorW.PrintLast Go.Proofs.YtflcbanemolkfaaDoorW.PrintMore
attribute [local go_sem] max2_int min2_int max_two min_two max_three min_three max_four min_four
set_option linter.unusedVariables false
set_option linter.unusedSimpArgs false
section
def spec_DrawHashRead.f (k : Nat) (l0 : List Int) : Option (ByteArray) := (spec_l1Open.f l0).bind fun bt275 => ((spec_l1Rd_digest.f k bt275.1 bt275.2).bind fun bt278 => ((spec_HashText.f k bt278.1 bt278.2.1 bt278.2.2.1 bt278.2.2.2.1).bind fun t283 => ((spec_l1Rd_pick.f k bt275.1 bt278.2.2.2.2 6).bind fun bt284 => (if bt284.1 = 0 then ((spec_l1Rd_pick.f k bt275.1 bt284.2 64).bind fun bt286 => (if 0 ≤ bt286.1 then (if bt286.1 ≤ (t283.size : Int) then ((spec_l1Rd_text.f k bt275.1 bt286.2 1).bind fun bt288 => (if (t283.extract 0 (bt286.1 : Int).toNat).size + bt288.1.size ≤ 9223372036854775807 then (if 0 ≤ (wrap64 (bt286.1 + 1)) then (if (wrap64 (bt286.1 + 1)) ≤ (t283.size : Int) then (if ((t283.extract 0 (bt286.1 : Int).toNat) ++ bt288.1).size + (t283.extract ((wrap64 (bt286.1 + 1)) : Int).toNat t283.size).size ≤ 9223372036854775807 then (some (((t283.extract 0 (bt286.1 : Int).toNat) ++ bt288.1) ++ (t283.extract ((wrap64 (bt286.1 + 1)) : Int).toNat t283.size))) else (none)) else (none)) else (none)) else (none))) else (none)) else (none))) else (if bt284.1 = 1 then ((spec_l1Rd_pick.f k bt275.1 bt284.2 64).bind fun bt290 => (if 0 ≤ bt290.1 then (if bt290.1 ≤ (t283.size : Int) then ((spec_l1Rd_pick.f k bt275.1 bt290.2 7).bind fun bt292 => (if 0 ≤ bt292.1 then (if bt292.1 < 7 then ((some (([bt (⟨#[65, 70, 103, 71, 58, 47, 32]⟩ : ByteArray) bt292.1] : List Int) : List Int)).bind fun y294 => (if (t283.extract 0 (bt290.1 : Int).toNat).size + (strOfNums y294).size ≤ 9223372036854775807 then (if 0 ≤ (wrap64 (bt290.1 + 1)) then (if (wrap64 (bt290.1 + 1)) ≤ (t283.size : Int) then (if ((t283.extract 0 (bt290.1 : Int).toNat) ++ (strOfNums y294)).size + (t283.extract ((wrap64 (bt290.1 + 1)) : Int).toNat t283.size).size ≤ 9223372036854775807 then (some (((t283.extract 0 (bt290.1 : Int).toNat) ++ (strOfNums y294)) ++ (t283.extract ((wrap64 (bt290.1 + 1)) : Int).toNat t283.size))) else (none)) else (none)) else (none)) else (none))) else (none)) else (none))) else (none)) else (none))) else (some t283))))))
def spec_DrawHashRead.T6 : Bool × List (List Nat × List Nat) := (true, [([], []), ([], []), ([0, 1], [0, 1]), ([], []), ([3], [3]), ([2, 4], [2, 4]), ([], []), ([], []), ([7], [7]), ([6, 8], [6, 8]), ([5, 9], [5, 9]), ([10, 4, 0, 1, 2, 3, 4, 5, 6, 7, 8, 9, 10], [10])])
def spec_DrawHashRead.B6 : List Nat := [0, 0, 3, 0, 8, 31, 0, 0, 128, 448, 1023, 2047]
theorem spec_DrawHashRead.tab6 : rtab .any (opsOf Tryd.f12 6) = spec_DrawHashRead.T6 := by kernel_rfl
theorem spec_DrawHashRead.bits6 : waitsOk spec_DrawHashRead.T6.2 spec_DrawHashRead.B6 = true := by kernel_rfl
def spec_DrawHashRead.T9 : Bool × List (List Nat × List Nat) := (true, [([], []), ([], []), ([0, 1], [0, 1]), ([], []), ([3], [3]), ([4], [4]), ([5], [5]), ([6], [6]), ([2, 7], [2, 7]), ([], []), ([], []), ([10], [10]), ([9, 11], [9, 11]), ([8, 12], [8, 12]), ([13, 4, 0, 1, 2, 3, 4, 5, 6, 7, 8, 9, 10, 11, 12, 13], [13])])
def spec_DrawHashRead.B9 : List Nat := [0, 0, 3, 0, 8, 24, 56, 120, 255, 0, 0, 1024, 3584, 8191, 16383]
theorem spec_DrawHashRead.tab9 : rtab .any (opsOf Tryd.f12 9) = spec_DrawHashRead.T9 := by kernel_rfl
theorem spec_DrawHashRead.bits9 : waitsOk spec_DrawHashRead.T9.2 spec_DrawHashRead.B9 = true := by kernel_rfl
set_option maxHeartbeats 8000000 in
set_option maxRecDepth 100000 in
theorem spec_DrawHashRead.calls (k : Nat) (A0 : Option Addr) (c0 : Nat) (l0 : List Int) (r : ByteArray) (w : World) (hr0 : Kd.C (Kd.int .u8) w A0 l0.length l0) (hc0 : l0.length ≤ c0) (h : spec_DrawHashRead.f k l0 = some r) :
    Calls Tryd.prog 12 #[.slice A0 l0.length c0] w fun e w' => e = .returned (.string r) ∧ Below w.heap.size w w' := by
  have HR0 := Aside0.mk hr0
  have HC0 := Aside0.mk hc0
  clear hr0 hc0
  have HB := Aside0.mk (Below.refl w.heap.size w)
  have H : ((spec_l1Open.f l0).bind fun bt275 => ((spec_l1Rd_digest.f k bt275.1 bt275.2).bind fun bt278 => ((spec_HashText.f k bt278.1 bt278.2.1 bt278.2.2.1 bt278.2.2.2.1).bind fun t283 => ((spec_l1Rd_pick.f k bt275.1 bt278.2.2.2.2 6).bind fun bt284 => (if bt284.1 = 0 then ((spec_l1Rd_pick.f k bt275.1 bt284.2 64).bind fun bt286 => (if 0 ≤ bt286.1 then (if bt286.1 ≤ (t283.size : Int) then ((spec_l1Rd_text.f k bt275.1 bt286.2 1).bind fun bt288 => (if (t283.extract 0 (bt286.1 : Int).toNat).size + bt288.1.size ≤ 9223372036854775807 then (if 0 ≤ (wrap64 (bt286.1 + 1)) then (if (wrap64 (bt286.1 + 1)) ≤ (t283.size : Int) then (if ((t283.extract 0 (bt286.1 : Int).toNat) ++ bt288.1).size + (t283.extract ((wrap64 (bt286.1 + 1)) : Int).toNat t283.size).size ≤ 9223372036854775807 then (some (((t283.extract 0 (bt286.1 : Int).toNat) ++ bt288.1) ++ (t283.extract ((wrap64 (bt286.1 + 1)) : Int).toNat t283.size))) else (none)) else (none)) else (none)) else (none))) else (none)) else (none))) else (if bt284.1 = 1 then ((spec_l1Rd_pick.f k bt275.1 bt284.2 64).bind fun bt290 => (if 0 ≤ bt290.1 then (if bt290.1 ≤ (t283.size : Int) then ((spec_l1Rd_pick.f k bt275.1 bt290.2 7).bind fun bt292 => (if 0 ≤ bt292.1 then (if bt292.1 < 7 then ((some (([bt (⟨#[65, 70, 103, 71, 58, 47, 32]⟩ : ByteArray) bt292.1] : List Int) : List Int)).bind fun y294 => (if (t283.extract 0 (bt290.1 : Int).toNat).size + (strOfNums y294).size ≤ 9223372036854775807 then (if 0 ≤ (wrap64 (bt290.1 + 1)) then (if (wrap64 (bt290.1 + 1)) ≤ (t283.size : Int) then (if ((t283.extract 0 (bt290.1 : Int).toNat) ++ (strOfNums y294)).size + (t283.extract ((wrap64 (bt290.1 + 1)) : Int).toNat t283.size).size ≤ 9223372036854775807 then (some (((t283.extract 0 (bt290.1 : Int).toNat) ++ (strOfNums y294)) ++ (t283.extract ((wrap64 (bt290.1 + 1)) : Int).toNat t283.size))) else (none)) else (none)) else (none)) else (none))) else (none)) else (none))) else (none)) else (none))) else (some t283))))))) = some r := h
  clear h
  obtain ⟨⟨t275, t276⟩, A2, H⟩ := bnd_ H
  dsimp only at H
  obtain ⟨⟨t278, t279, t280, t281, t282⟩, A3, H⟩ := bnd_ H
  dsimp only at H
  obtain ⟨t283, A4, H⟩ := bnd_ H
  obtain ⟨⟨t284, t285⟩, A5, H⟩ := bnd_ H
  dsimp only at H
  by_cases c6 : t284 = 0
  · rw [if_pos c6] at H
    have c6b0 : (t284 == 0) = true := beq_iff_eq.mpr c6
    have c6b1 : (t284 != 0) = false := bne_eq_false_iff_eq.mpr c6
    clear c6
    obtain ⟨⟨t286, t287⟩, A7, H⟩ := bnd_ H
    dsimp only at H
    by_cases c8 : 0 ≤ t286
    · rw [if_pos c8] at H
      have c8b0 := eq_true c8
      have c8b1 : decide (0 ≤ t286) = true := decide_eq_true c8
      clear c8
      by_cases c9 : t286 ≤ (t283.size : Int)
      · rw [if_pos c9] at H
        have c9b0 := eq_true c9
        have c9b1 : decide (t286 ≤ (t283.size : Int)) = true := decide_eq_true c9
        clear c9
        obtain ⟨⟨t288, t289⟩, A10, H⟩ := bnd_ H
        dsimp only at H
        by_cases c11 : (t283.extract 0 (t286 : Int).toNat).size + t288.size ≤ 9223372036854775807
        · rw [if_pos c11] at H
          have c11b0 := eq_true c11
          have c11b1 : decide ((t283.extract 0 (t286 : Int).toNat).size + t288.size ≤ 9223372036854775807) = true := decide_eq_true c11
          try have c11b2 : (9223372036854775807 < (t283.extract 0 (t286 : Int).toNat).size + t288.size) = False := eq_false (Nat.not_lt.2 c11)
          obtain ⟨ji12, hji12⟩ : ∃ j_ : Int, (wrap64 (t286 + 1)) = j_ := ⟨_, rfl⟩
          replace H : (if 0 ≤ (ji12) then (if (ji12) ≤ (t283.size : Int) then (if ((t283.extract 0 (t286 : Int).toNat) ++ t288).size + (t283.extract ((ji12) : Int).toNat t283.size).size ≤ 9223372036854775807 then (some (((t283.extract 0 (t286 : Int).toNat) ++ t288) ++ (t283.extract ((ji12) : Int).toNat t283.size))) else (none)) else (none)) else (none)) = some r := by first | (rw [hji12] at H; exact H) | (simp only [hji12] at H ⊢; exact H)
          (try rw [hji12] at A2)
          (try rw [hji12] at A3)
          (try rw [hji12] at A4)
          (try rw [hji12] at A5)
          (try rw [hji12] at A7)
          (try rw [hji12] at A10)
          have hji12w : (IntKind.i64.wrap (t286 + 1)) = ji12 := (i64_w _).trans hji12
          by_cases c13 : 0 ≤ (ji12)
          · rw [if_pos c13] at H
            have c13b0 := eq_true c13
            have c13b1 : decide (0 ≤ (ji12)) = true := decide_eq_true c13
            clear c13
            by_cases c14 : (ji12) ≤ (t283.size : Int)
            · rw [if_pos c14] at H
              have c14b0 := eq_true c14
              have c14b1 : decide ((ji12) ≤ (t283.size : Int)) = true := decide_eq_true c14
              clear c14
              by_cases c15 : ((t283.extract 0 (t286 : Int).toNat) ++ t288).size + (t283.extract ((ji12) : Int).toNat t283.size).size ≤ 9223372036854775807
              · rw [if_pos c15] at H
                have c15b0 := eq_true c15
                have c15b1 : decide (((t283.extract 0 (t286 : Int).toNat) ++ t288).size + (t283.extract ((ji12) : Int).toNat t283.size).size ≤ 9223372036854775807) = true := decide_eq_true c15
                try (have c15b1n := c15b1; simp only [ByteArray.size_append, Int.natCast_add] at c15b1n)
                try have c15b2 : (9223372036854775807 < ((t283.extract 0 (t286 : Int).toNat) ++ t288).size + (t283.extract ((ji12) : Int).toNat t283.size).size) = False := eq_false (Nat.not_lt.2 c15)
                obtain rfl := Option.some.inj H
                go_enter Tryd.func12, Tryd.ntmps12
                try go_wp2_with (first | ((with_reducible refine gate_callee (f := 17) rfl ?_); refine goL_ (some 9) Tryd.func17 #[.slice A0 l0.length c0] ?_; (with_reducible refine (spec_l1Open.calls _ _ l0 t275 t276 w _ ?side1 ?side2 ?side3 A2.out).mono ?_); (case side1 => exact bel_); (case side2 => exact HR0.out); (case side3 => exact HC0.out); rintro e w16 ⟨g277, rfl, hi, hb, hb2⟩; refine ⟨_, rfl, ?_⟩; replace HB := Aside0.mk (hb); have HI277 := Aside0.mk (hi); (try clear hb); (try clear hb2); (try clear hk); (try clear hi)) | ((with_reducible refine gate_callee (f := 18) rfl ?_); refine goL_ (some 11) Tryd.func18 #[.pointer (some ⟨g277, 0, none⟩)] ?_; (with_reducible refine (spec_l1Rd_digest.calls k g277 t275 t276 t278 t279 t280 t281 t282 w _ ?side1 ?side2 A3.out).mono ?_); (case side1 => repeat (first | (with_reducible first | exact HI277.out | apply IsS53.alloc | apply IsS53.drewN | apply IsS53.drew | apply IsS53.set_1) | exact HI277.out)); (case side2 => repeat (first | (with_reducible first | exact HB.out | apply below_alloc | apply pw_below_drewN | apply below_drew1 | refine below_set ?_ (IsS53.ge HI277.out)) | exact HB.out)); rintro e w17 ⟨rfl, hi, hb, hk⟩; refine ⟨_, rfl, ?_⟩; replace HB := Aside0.mk (hb); replace HI277 := Aside0.mk (hi); (try clear hb); (try clear hb2); (try clear hk); (try clear hi)) | ((with_reducible refine gate_callee (f := 22) rfl ?_); refine goL_ (some 12) Tryd.func22 #[.agg #[.int .u64 t278, .int .u64 t279, .int .u64 t280, .int .u64 t281]] ?_; (with_reducible refine (spec_HashText.calls k t278 t279 t280 t281 t283 _ A4.out).mono ?_); rintro e w18 ⟨rfl, hb⟩; refine ⟨_, rfl, ?_⟩; replace HB := Aside0.mk (below_step (by repeat (first | (with_reducible first | exact HB.out | apply below_alloc | apply pw_below_drewN | apply below_drew1 | refine below_set ?_ (IsS53.ge HI277.out)) | exact HB.out)) hb); replace HI277 := Aside0.mk (IsS53.below (by repeat (first | (with_reducible first | exact HI277.out | apply IsS53.alloc | apply IsS53.drewN | apply IsS53.drew | apply IsS53.set_1) | exact HI277.out)) hb); (try clear hb); (try clear hb2); (try clear hk); (try clear hi)) | ((with_reducible refine gate_callee (f := 23) rfl ?_); refine goL_ (some 14) Tryd.func23 #[.pointer (some ⟨g277, 0, none⟩), .int .i64 6] ?_; (with_reducible refine (spec_l1Rd_pick.calls k g277 t275 t282 6 t284 t285 w _ ?side1 ?side2 A5.out).mono ?_); (case side1 => repeat (first | (with_reducible first | exact HI277.out | apply IsS53.alloc | apply IsS53.drewN | apply IsS53.drew | apply IsS53.set_1) | exact HI277.out)); (case side2 => repeat (first | (with_reducible first | exact HB.out | apply below_alloc | apply pw_below_drewN | apply below_drew1 | refine below_set ?_ (IsS53.ge HI277.out)) | exact HB.out)); rintro e w19 ⟨rfl, hi, hb, hk⟩; refine ⟨_, rfl, ?_⟩; replace HB := Aside0.mk (hb); replace HI277 := Aside0.mk (hi); (try clear hb); (try clear hb2); (try clear hk); (try clear hi)) | ((with_reducible refine gate_callee (f := 23) rfl ?_); refine goL_ (some 18) Tryd.func23 #[.pointer (some ⟨g277, 0, none⟩), .int .i64 64] ?_; (with_reducible refine (spec_l1Rd_pick.calls k g277 t275 t285 64 t286 t287 w _ ?side1 ?side2 A7.out).mono ?_); (case side1 => repeat (first | (with_reducible first | exact HI277.out | apply IsS53.alloc | apply IsS53.drewN | apply IsS53.drew | apply IsS53.set_1) | exact HI277.out)); (case side2 => repeat (first | (with_reducible first | exact HB.out | apply below_alloc | apply pw_below_drewN | apply below_drew1 | refine below_set ?_ (IsS53.ge HI277.out)) | exact HB.out)); rintro e w20 ⟨rfl, hi, hb, hk⟩; refine ⟨_, rfl, ?_⟩; replace HB := Aside0.mk (hb); replace HI277 := Aside0.mk (hi); (try clear hb); (try clear hb2); (try clear hk); (try clear hi)))
                replace HI277 := Aside0.mk (IsS53.drew HI277.out)
                replace HB := Aside0.mk (below_drew1 HB.out)
                refine start_ (n := 12) (S := fun w' => True) (ds := []) #[false, false, false, false, false, false, false, false, false, false, false, false] (by kernel_rfl) rfl rfl trivial (fun hHeld => ?_); refine with_tabW spec_DrawHashRead.tab6 spec_DrawHashRead.bits6 (fun HT_ HW_ => ?_)
                generalize w20.drew = w21 at HI277 HB hHeld ⊢
                refine pure_ (i := 0) (N := some 19) (v := ?_) (a' := ?_) #[true, false, false, false, false, false, false, false, false, false, false, false] rfl rfl (any_of HT_.out (by kernel_rfl)) (fun _ _ _ h => h) (Or.inl ⟨by rfl, ?_⟩) ?_ ?_
                rotate_left
                · intro w'
                  go_simp
                  first | with_reducible rfl | (rw [if_neg (by intro h_; (try simp only [ByteArray.size_append, ByteArray.size_extract, eq_iff_iff, iff_true] at *); omega)]; first | done | rfl)
                rotate_left
                · simp only [Act.put, List.setIfInBounds_toArray, List.set_cons_zero, List.set_cons_succ, i64_w, i32_w]
                  rfl
                refine pure_ (i := 1) (N := some 20) (v := ?_) (a' := ?_) #[true, true, false, false, false, false, false, false, false, false, false, false] rfl rfl (any_of HT_.out (by kernel_rfl)) (fun _ _ _ h => h) (Or.inl ⟨by rfl, ?_⟩) ?_ ?_
                rotate_left
                · intro w'
                  go_simp
                  first | with_reducible rfl | (rw [if_neg (by intro h_; (try simp only [ByteArray.size_append, ByteArray.size_extract, eq_iff_iff, iff_true] at *); omega)]; first | done | rfl)
                rotate_left
                · simp only [Act.put, List.setIfInBounds_toArray, List.set_cons_zero, List.set_cons_succ, i64_w, i32_w]
                  rfl
                refine pure_ (i := 2) (N := some 21) (v := ?_) (a' := ?_) #[true, true, true, false, false, false, false, false, false, false, false, false] rfl rfl (any_of HT_.out (by kernel_rfl)) (fun _ _ _ h => h) (Or.inl ⟨by rfl, ?_⟩) ?_ ?_
                rotate_left
                · intro w'
                  go_simp
                  first | with_reducible rfl | (rw [if_neg (by intro h_; (try simp only [ByteArray.size_append, ByteArray.size_extract, eq_iff_iff, iff_true] at *); omega)]; first | done | rfl)
                rotate_left
                · simp only [Act.put, List.setIfInBounds_toArray, List.set_cons_zero, List.set_cons_succ, i64_w, i32_w]
                  rfl
                refine pure_ (i := 3) (N := some 22) (v := ?_) (a' := ?_) #[true, true, true, true, false, false, false, false, false, false, false, false] rfl rfl (any_of HT_.out (by kernel_rfl)) (fun _ _ _ h => h) (Or.inl ⟨by rfl, ?_⟩) ?_ ?_
                rotate_left
                · intro w'
                  go_simp
                  first | with_reducible rfl | (rw [if_neg (by intro h_; (try simp only [ByteArray.size_append, ByteArray.size_extract, eq_iff_iff, iff_true] at *); omega)]; first | done | rfl)
                rotate_left
                · simp only [Act.put, List.setIfInBounds_toArray, List.set_cons_zero, List.set_cons_succ, i64_w, i32_w]
                  rfl
                refine pure_ (i := 6) (N := some 25) (v := ?_) (a' := ?_) #[true, true, true, true, false, false, true, false, false, false, false, false] rfl rfl (any_of HT_.out (by kernel_rfl)) (fun _ _ _ h => h) (Or.inl ⟨by rfl, ?_⟩) ?_ ?_
                rotate_left
                · intro w'
                  go_simp
                  first | with_reducible rfl | (rw [if_neg (by intro h_; (try simp only [ByteArray.size_append, ByteArray.size_extract, eq_iff_iff, iff_true] at *); omega)]; first | done | rfl)
                rotate_left
                · simp only [Act.put, List.setIfInBounds_toArray, List.set_cons_zero, List.set_cons_succ, i64_w, i32_w]
                  rfl
                refine pure_ (i := 7) (N := some 26) (v := ?_) (a' := ?_) #[true, true, true, true, false, false, true, true, false, false, false, false] rfl rfl (any_of HT_.out (by kernel_rfl)) (fun _ _ _ h => h) (Or.inl ⟨by rfl, ?_⟩) ?_ ?_
                rotate_left
                · intro w'
                  go_simp
                  first | with_reducible rfl | (rw [if_neg (by intro h_; (try simp only [ByteArray.size_append, ByteArray.size_extract, eq_iff_iff, iff_true] at *); omega)]; first | done | rfl)
                rotate_left
                · simp only [Act.put, List.setIfInBounds_toArray, List.set_cons_zero, List.set_cons_succ, i64_w, i32_w]
                  rfl
                refine pure_ (i := 8) (N := some 27) (v := ?_) (a' := ?_) #[true, true, true, true, false, false, true, true, true, false, false, false] rfl rfl (any_of HT_.out (by kernel_rfl)) (fun _ _ _ h => h) (Or.inl ⟨by rfl, ?_⟩) ?_ ?_
                rotate_left
                · intro w'
                  go_simp
                  first | with_reducible rfl | (rw [if_neg (by intro h_; (try simp only [ByteArray.size_append, ByteArray.size_extract, eq_iff_iff, iff_true] at *); omega)]; first | done | rfl)
                rotate_left
                · simp only [Act.put, List.setIfInBounds_toArray, List.set_cons_zero, List.set_cons_succ, i64_w, i32_w]
                  rfl
                refine pure_ (i := 9) (N := some 28) (v := ?_) (a' := ?_) #[true, true, true, true, false, false, true, true, true, true, false, false] rfl rfl (any_of HT_.out (by kernel_rfl)) (fun _ _ _ h => h) (Or.inl ⟨by rfl, ?_⟩) ?_ ?_
                rotate_left
                · intro w'
                  go_simp
                  first | with_reducible rfl | (rw [if_neg (by intro h_; (try simp only [ByteArray.size_append, ByteArray.size_extract, eq_iff_iff, iff_true] at *); omega)]; first | done | rfl)
                rotate_left
                · simp only [Act.put, List.setIfInBounds_toArray, List.set_cons_zero, List.set_cons_succ, i64_w, i32_w]
                  rfl
                refine oneP_ 4 (some 23) #[true, true, true, true, true, false, true, true, true, true, false, false] HT_ (fun K hK => ?_)
                refine goN_ Tryd.func24 #[.pointer (some ⟨g277, 0, none⟩), .int .i64 1] ?_
                with_reducible refine (spec_l1Rd_text.calls k g277 t275 t287 1 t288 t289 w _ ?side1 ?side2 A10.out).mono ?_
                (case side1 => repeat (first | (with_reducible first | exact HI277.out | apply IsS53.alloc | apply IsS53.drewN | apply IsS53.drew | apply IsS53.set_1) | exact HI277.out))
                (case side2 => repeat (first | (with_reducible first | exact HB.out | apply below_alloc | apply pw_below_drewN | apply below_drew1 | refine below_set ?_ (IsS53.ge HI277.out)) | exact HB.out))
                rintro e w22 ⟨rfl, hi, hb, hk⟩
                refine ⟨_, rfl, ?_⟩
                replace HB := Aside0.mk (hb)
                replace HI277 := Aside0.mk (hi)
                (try clear hb); (try clear hb2); (try clear hk); (try clear hi)
                refine hK.out _ _ trivial (fun hHeld => ?_)
                clear hK K
                refine norm_ (a' := ?_) ?_ ?_
                rotate_left
                · show Act.put _ (some 23) _ = _
                  simp only [Act.put, List.setIfInBounds_toArray, List.set_cons_zero, List.set_cons_succ, i64_w, i32_w]
                  rfl
                refine pure_ (i := 5) (N := some 24) (v := ?_) (a' := ?_) #[true, true, true, true, true, true, true, true, true, true, false, false] rfl rfl (any_of HT_.out (by kernel_rfl)) (fun _ _ _ h => h) (Or.inl ⟨by rfl, ?_⟩) ?_ ?_
                rotate_left
                · intro w'
                  go_simp
                  first | with_reducible rfl | (rw [if_neg (by intro h_; (try simp only [ByteArray.size_append, ByteArray.size_extract, eq_iff_iff, iff_true] at *); omega)]; first | done | rfl)
                rotate_left
                · simp only [Act.put, List.setIfInBounds_toArray, List.set_cons_zero, List.set_cons_succ, i64_w, i32_w]
                  rfl
                refine pure_ (i := 10) (N := some 29) (v := ?_) (a' := ?_) #[true, true, true, true, true, true, true, true, true, true, true, false] rfl rfl (any_of HT_.out (by kernel_rfl)) (fun _ _ _ h => h) (Or.inl ⟨by rfl, ?_⟩) ?_ ?_
                rotate_left
                · intro w'
                  go_simp
                  first | with_reducible rfl | (rw [if_neg (by intro h_; (try simp only [ByteArray.size_append, ByteArray.size_extract, eq_iff_iff, iff_true] at *); omega)]; first | done | rfl)
                rotate_left
                · simp only [Act.put, List.setIfInBounds_toArray, List.set_cons_zero, List.set_cons_succ, i64_w, i32_w]
                  rfl
                refine pure_ (i := 11) (N := some 2) (v := ?_) (a' := ?_) #[true, true, true, true, true, true, true, true, true, true, true, true] rfl rfl (any_of HT_.out (by kernel_rfl)) (fun _ _ _ h => h) (Or.inl ⟨by rfl, ?_⟩) ?_ ?_
                rotate_left
                · intro w'
                  go_simp
                  first | with_reducible rfl | (rw [if_neg (by intro h_; (try simp only [ByteArray.size_append, ByteArray.size_extract, eq_iff_iff, iff_true] at *); omega)]; first | done | rfl)
                rotate_left
                · simp only [Act.put, List.setIfInBounds_toArray, List.set_cons_zero, List.set_cons_succ, i64_w, i32_w]
                  rfl
                refine done_ (done_of HT_.out (by kernel_rfl)) ?_
                try go_wp2
                go_ret
                exact ⟨by first | rfl | (simp [errW_none, errW_some] <;> rfl) | (simp only [← hji12]; first | rfl | (simp [errW_none, errW_some] <;> rfl)) | (simp [*, errW_none, errW_some] <;> rfl), by repeat (first | (with_reducible first | exact HB.out | apply below_alloc | apply pw_below_drewN | apply below_drew1 | refine below_set ?_ (IsS53.ge HI277.out)) | exact HB.out)⟩
              · rw [if_neg c15] at H
                exact absurd H (by simp)
            · rw [if_neg c14] at H
              exact absurd H (by simp)
          · rw [if_neg c13] at H
            exact absurd H (by simp)
        · rw [if_neg c11] at H
          exact absurd H (by simp)
      · rw [if_neg c9] at H
        exact absurd H (by simp)
    · rw [if_neg c8] at H
      exact absurd H (by simp)
  · rw [if_neg c6] at H
    have c6b0 : (t284 == 0) = false := beq_eq_false_iff_ne.mpr c6
    have c6b1 : (t284 != 0) = true := bne_iff_ne.mpr c6
    by_cases c23 : t284 = 1
    · rw [if_pos c23] at H
      have c23b0 : (t284 == 1) = true := beq_iff_eq.mpr c23
      have c23b1 : (t284 != 1) = false := bne_eq_false_iff_eq.mpr c23
      clear c23
      obtain ⟨⟨t290, t291⟩, A24, H⟩ := bnd_ H
      dsimp only at H
      by_cases c25 : 0 ≤ t290
      · rw [if_pos c25] at H
        have c25b0 := eq_true c25
        have c25b1 : decide (0 ≤ t290) = true := decide_eq_true c25
        clear c25
        by_cases c26 : t290 ≤ (t283.size : Int)
        · rw [if_pos c26] at H
          have c26b0 := eq_true c26
          have c26b1 : decide (t290 ≤ (t283.size : Int)) = true := decide_eq_true c26
          clear c26
          obtain ⟨⟨t292, t293⟩, A27, H⟩ := bnd_ H
          dsimp only at H
          by_cases c28 : 0 ≤ t292
          · rw [if_pos c28] at H
            have c28b0 : decide (0 ≤ t292) = true := decide_eq_true c28
            clear c28
            by_cases c29 : t292 < 7
            · rw [if_pos c29] at H
              have c29b0 : decide (t292 < 7) = true := decide_eq_true c29
              clear c29
              obtain ⟨y294, hy294⟩ : ∃ y_ : List Int, y_ = (([bt (⟨#[65, 70, 103, 71, 58, 47, 32]⟩ : ByteArray) t292] : List Int)) := ⟨_, rfl⟩
              replace H : (if (t283.extract 0 (t290 : Int).toNat).size + (strOfNums y294).size ≤ 9223372036854775807 then (if 0 ≤ (wrap64 (t290 + 1)) then (if (wrap64 (t290 + 1)) ≤ (t283.size : Int) then (if ((t283.extract 0 (t290 : Int).toNat) ++ (strOfNums y294)).size + (t283.extract ((wrap64 (t290 + 1)) : Int).toNat t283.size).size ≤ 9223372036854775807 then (some (((t283.extract 0 (t290 : Int).toNat) ++ (strOfNums y294)) ++ (t283.extract ((wrap64 (t290 + 1)) : Int).toNat t283.size))) else (none)) else (none)) else (none)) else (none)) = some r := by first | (rw [hy294]; with_reducible exact H) | (have H2_ := (Option.bind_some _ _).symm.trans H; rw [hy294]; with_reducible exact H2_) | (have H2_ := (Option.bind_some _ _).symm.trans H; with_reducible exact H2_) | with_reducible exact H | (rw [hy294]; exact H) | exact H
              have Ny294 := Aside0.mk hy294
              clear hy294
              by_cases c31 : (t283.extract 0 (t290 : Int).toNat).size + (strOfNums y294).size ≤ 9223372036854775807
              · rw [if_pos c31] at H
                have c31b0 := eq_true c31
                have c31b1 : decide ((t283.extract 0 (t290 : Int).toNat).size + (strOfNums y294).size ≤ 9223372036854775807) = true := decide_eq_true c31
                try have c31b2 : (9223372036854775807 < (t283.extract 0 (t290 : Int).toNat).size + (strOfNums y294).size) = False := eq_false (Nat.not_lt.2 c31)
                obtain ⟨ji32, hji32⟩ : ∃ j_ : Int, (wrap64 (t290 + 1)) = j_ := ⟨_, rfl⟩
                replace H : (if 0 ≤ (ji32) then (if (ji32) ≤ (t283.size : Int) then (if ((t283.extract 0 (t290 : Int).toNat) ++ (strOfNums y294)).size + (t283.extract ((ji32) : Int).toNat t283.size).size ≤ 9223372036854775807 then (some (((t283.extract 0 (t290 : Int).toNat) ++ (strOfNums y294)) ++ (t283.extract ((ji32) : Int).toNat t283.size))) else (none)) else (none)) else (none)) = some r := by first | (rw [hji32] at H; exact H) | (simp only [hji32] at H ⊢; exact H)
                (try rw [hji32] at A2)
                (try rw [hji32] at A3)
                (try rw [hji32] at A4)
                (try rw [hji32] at A5)
                (try rw [hji32] at A24)
                (try rw [hji32] at A27)
                have hji32w : (IntKind.i64.wrap (t290 + 1)) = ji32 := (i64_w _).trans hji32
                by_cases c33 : 0 ≤ (ji32)
                · rw [if_pos c33] at H
                  have c33b0 := eq_true c33
                  have c33b1 : decide (0 ≤ (ji32)) = true := decide_eq_true c33
                  clear c33
                  by_cases c34 : (ji32) ≤ (t283.size : Int)
                  · rw [if_pos c34] at H
                    have c34b0 := eq_true c34
                    have c34b1 : decide ((ji32) ≤ (t283.size : Int)) = true := decide_eq_true c34
                    clear c34
                    by_cases c35 : ((t283.extract 0 (t290 : Int).toNat) ++ (strOfNums y294)).size + (t283.extract ((ji32) : Int).toNat t283.size).size ≤ 9223372036854775807
                    · rw [if_pos c35] at H
                      have c35b0 := eq_true c35
                      have c35b1 : decide (((t283.extract 0 (t290 : Int).toNat) ++ (strOfNums y294)).size + (t283.extract ((ji32) : Int).toNat t283.size).size ≤ 9223372036854775807) = true := decide_eq_true c35
                      try (have c35b1n := c35b1; simp only [ByteArray.size_append, Int.natCast_add] at c35b1n)
                      try have c35b2 : (9223372036854775807 < ((t283.extract 0 (t290 : Int).toNat) ++ (strOfNums y294)).size + (t283.extract ((ji32) : Int).toNat t283.size).size) = False := eq_false (Nat.not_lt.2 c35)
                      obtain rfl := Option.some.inj H
                      go_enter Tryd.func12, Tryd.ntmps12
                      try go_wp2_with (first | ((with_reducible refine gate_callee (f := 17) rfl ?_); refine goL_ (some 9) Tryd.func17 #[.slice A0 l0.length c0] ?_; (with_reducible refine (spec_l1Open.calls _ _ l0 t275 t276 w _ ?side1 ?side2 ?side3 A2.out).mono ?_); (case side1 => exact bel_); (case side2 => exact HR0.out); (case side3 => exact HC0.out); rintro e w36 ⟨g277, rfl, hi, hb, hb2⟩; refine ⟨_, rfl, ?_⟩; replace HB := Aside0.mk (hb); have HI277 := Aside0.mk (hi); (try clear hb); (try clear hb2); (try clear hk); (try clear hi)) | ((with_reducible refine gate_callee (f := 18) rfl ?_); refine goL_ (some 11) Tryd.func18 #[.pointer (some ⟨g277, 0, none⟩)] ?_; (with_reducible refine (spec_l1Rd_digest.calls k g277 t275 t276 t278 t279 t280 t281 t282 w _ ?side1 ?side2 A3.out).mono ?_); (case side1 => repeat (first | (with_reducible first | exact HI277.out | apply IsS53.alloc | apply IsS53.drewN | apply IsS53.drew | apply IsS53.set_1) | exact HI277.out)); (case side2 => repeat (first | (with_reducible first | exact HB.out | apply below_alloc | apply pw_below_drewN | apply below_drew1 | refine below_set ?_ (IsS53.ge HI277.out)) | exact HB.out)); rintro e w37 ⟨rfl, hi, hb, hk⟩; refine ⟨_, rfl, ?_⟩; replace HB := Aside0.mk (hb); replace HI277 := Aside0.mk (hi); (try clear hb); (try clear hb2); (try clear hk); (try clear hi)) | ((with_reducible refine gate_callee (f := 22) rfl ?_); refine goL_ (some 12) Tryd.func22 #[.agg #[.int .u64 t278, .int .u64 t279, .int .u64 t280, .int .u64 t281]] ?_; (with_reducible refine (spec_HashText.calls k t278 t279 t280 t281 t283 _ A4.out).mono ?_); rintro e w38 ⟨rfl, hb⟩; refine ⟨_, rfl, ?_⟩; replace HB := Aside0.mk (below_step (by repeat (first | (with_reducible first | exact HB.out | apply below_alloc | apply pw_below_drewN | apply below_drew1 | refine below_set ?_ (IsS53.ge HI277.out)) | exact HB.out)) hb); replace HI277 := Aside0.mk (IsS53.below (by repeat (first | (with_reducible first | exact HI277.out | apply IsS53.alloc | apply IsS53.drewN | apply IsS53.drew | apply IsS53.set_1) | exact HI277.out)) hb); (try clear hb); (try clear hb2); (try clear hk); (try clear hi)) | ((with_reducible refine gate_callee (f := 23) rfl ?_); refine goL_ (some 14) Tryd.func23 #[.pointer (some ⟨g277, 0, none⟩), .int .i64 6] ?_; (with_reducible refine (spec_l1Rd_pick.calls k g277 t275 t282 6 t284 t285 w _ ?side1 ?side2 A5.out).mono ?_); (case side1 => repeat (first | (with_reducible first | exact HI277.out | apply IsS53.alloc | apply IsS53.drewN | apply IsS53.drew | apply IsS53.set_1) | exact HI277.out)); (case side2 => repeat (first | (with_reducible first | exact HB.out | apply below_alloc | apply pw_below_drewN | apply below_drew1 | refine below_set ?_ (IsS53.ge HI277.out)) | exact HB.out)); rintro e w39 ⟨rfl, hi, hb, hk⟩; refine ⟨_, rfl, ?_⟩; replace HB := Aside0.mk (hb); replace HI277 := Aside0.mk (hi); (try clear hb); (try clear hb2); (try clear hk); (try clear hi)) | ((with_reducible refine gate_callee (f := 23) rfl ?_); refine goL_ (some 33) Tryd.func23 #[.pointer (some ⟨g277, 0, none⟩), .int .i64 64] ?_; (with_reducible refine (spec_l1Rd_pick.calls k g277 t275 t285 64 t290 t291 w _ ?side1 ?side2 A24.out).mono ?_); (case side1 => repeat (first | (with_reducible first | exact HI277.out | apply IsS53.alloc | apply IsS53.drewN | apply IsS53.drew | apply IsS53.set_1) | exact HI277.out)); (case side2 => repeat (first | (with_reducible first | exact HB.out | apply below_alloc | apply pw_below_drewN | apply below_drew1 | refine below_set ?_ (IsS53.ge HI277.out)) | exact HB.out)); rintro e w40 ⟨rfl, hi, hb, hk⟩; refine ⟨_, rfl, ?_⟩; replace HB := Aside0.mk (hb); replace HI277 := Aside0.mk (hi); (try clear hb); (try clear hb2); (try clear hk); (try clear hi)))
                      replace HI277 := Aside0.mk (IsS53.drew HI277.out)
                      replace HB := Aside0.mk (below_drew1 HB.out)
                      refine start_ (n := 15) (S := fun w' => True) (ds := []) #[false, false, false, false, false, false, false, false, false, false, false, false, false, false, false] (by kernel_rfl) rfl rfl trivial (fun hHeld => ?_); refine with_tabW spec_DrawHashRead.tab9 spec_DrawHashRead.bits9 (fun HT_ HW_ => ?_)
                      generalize w40.drew = w41 at HI277 HB hHeld ⊢
                      refine pure_ (i := 0) (N := some 34) (v := ?_) (a' := ?_) #[true, false, false, false, false, false, false, false, false, false, false, false, false, false, false] rfl rfl (any_of HT_.out (by kernel_rfl)) (fun _ _ _ h => h) (Or.inl ⟨by rfl, ?_⟩) ?_ ?_
                      rotate_left
                      · intro w'
                        go_simp
                        first | with_reducible rfl | (rw [if_neg (by intro h_; (try simp only [ByteArray.size_append, ByteArray.size_extract, eq_iff_iff, iff_true] at *); omega)]; first | done | rfl)
                      rotate_left
                      · simp only [Act.put, List.setIfInBounds_toArray, List.set_cons_zero, List.set_cons_succ, i64_w, i32_w]
                        rfl
                      refine pure_ (i := 1) (N := some 35) (v := ?_) (a' := ?_) #[true, true, false, false, false, false, false, false, false, false, false, false, false, false, false] rfl rfl (any_of HT_.out (by kernel_rfl)) (fun _ _ _ h => h) (Or.inl ⟨by rfl, ?_⟩) ?_ ?_
                      rotate_left
                      · intro w'
                        go_simp
                        first | with_reducible rfl | (rw [if_neg (by intro h_; (try simp only [ByteArray.size_append, ByteArray.size_extract, eq_iff_iff, iff_true] at *); omega)]; first | done | rfl)
                      rotate_left
                      · simp only [Act.put, List.setIfInBounds_toArray, List.set_cons_zero, List.set_cons_succ, i64_w, i32_w]
                        rfl
                      refine pure_ (i := 2) (N := some 36) (v := ?_) (a' := ?_) #[true, true, true, false, false, false, false, false, false, false, false, false, false, false, false] rfl rfl (any_of HT_.out (by kernel_rfl)) (fun _ _ _ h => h) (Or.inl ⟨by rfl, ?_⟩) ?_ ?_
                      rotate_left
                      · intro w'
                        go_simp
                        first | with_reducible rfl | (rw [if_neg (by intro h_; (try simp only [ByteArray.size_append, ByteArray.size_extract, eq_iff_iff, iff_true] at *); omega)]; first | done | rfl)
                      rotate_left
                      · simp only [Act.put, List.setIfInBounds_toArray, List.set_cons_zero, List.set_cons_succ, i64_w, i32_w]
                        rfl
                      refine pure_ (i := 3) (N := some 37) (v := ?_) (a' := ?_) #[true, true, true, true, false, false, false, false, false, false, false, false, false, false, false] rfl rfl (any_of HT_.out (by kernel_rfl)) (fun _ _ _ h => h) (Or.inl ⟨by rfl, ?_⟩) ?_ ?_
                      rotate_left
                      · intro w'
                        go_simp
                        first | with_reducible rfl | (rw [if_neg (by intro h_; (try simp only [ByteArray.size_append, ByteArray.size_extract, eq_iff_iff, iff_true] at *); omega)]; first | done | rfl)
                      rotate_left
                      · simp only [Act.put, List.setIfInBounds_toArray, List.set_cons_zero, List.set_cons_succ, i64_w, i32_w]
                        rfl
                      refine pure_ (i := 9) (N := some 43) (v := ?_) (a' := ?_) #[true, true, true, true, false, false, false, false, false, true, false, false, false, false, false] rfl rfl (any_of HT_.out (by kernel_rfl)) (fun _ _ _ h => h) (Or.inl ⟨by rfl, ?_⟩) ?_ ?_
                      rotate_left
                      · intro w'
                        go_simp
                        first | with_reducible rfl | (rw [if_neg (by intro h_; (try simp only [ByteArray.size_append, ByteArray.size_extract, eq_iff_iff, iff_true] at *); omega)]; first | done | rfl)
                      rotate_left
                      · simp only [Act.put, List.setIfInBounds_toArray, List.set_cons_zero, List.set_cons_succ, i64_w, i32_w]
                        rfl
                      refine pure_ (i := 10) (N := some 44) (v := ?_) (a' := ?_) #[true, true, true, true, false, false, false, false, false, true, true, false, false, false, false] rfl rfl (any_of HT_.out (by kernel_rfl)) (fun _ _ _ h => h) (Or.inl ⟨by rfl, ?_⟩) ?_ ?_
                      rotate_left
                      · intro w'
                        go_simp
                        first | with_reducible rfl | (rw [if_neg (by intro h_; (try simp only [ByteArray.size_append, ByteArray.size_extract, eq_iff_iff, iff_true] at *); omega)]; first | done | rfl)
                      rotate_left
                      · simp only [Act.put, List.setIfInBounds_toArray, List.set_cons_zero, List.set_cons_succ, i64_w, i32_w]
                        rfl
                      refine pure_ (i := 11) (N := some 45) (v := ?_) (a' := ?_) #[true, true, true, true, false, false, false, false, false, true, true, true, false, false, false] rfl rfl (any_of HT_.out (by kernel_rfl)) (fun _ _ _ h => h) (Or.inl ⟨by rfl, ?_⟩) ?_ ?_
                      rotate_left
                      · intro w'
                        go_simp
                        first | with_reducible rfl | (rw [if_neg (by intro h_; (try simp only [ByteArray.size_append, ByteArray.size_extract, eq_iff_iff, iff_true] at *); omega)]; first | done | rfl)
                      rotate_left
                      · simp only [Act.put, List.setIfInBounds_toArray, List.set_cons_zero, List.set_cons_succ, i64_w, i32_w]
                        rfl
                      refine pure_ (i := 12) (N := some 46) (v := ?_) (a' := ?_) #[true, true, true, true, false, false, false, false, false, true, true, true, true, false, false] rfl rfl (any_of HT_.out (by kernel_rfl)) (fun _ _ _ h => h) (Or.inl ⟨by rfl, ?_⟩) ?_ ?_
                      rotate_left
                      · intro w'
                        go_simp
                        first | with_reducible rfl | (rw [if_neg (by intro h_; (try simp only [ByteArray.size_append, ByteArray.size_extract, eq_iff_iff, iff_true] at *); omega)]; first | done | rfl)
                      rotate_left
                      · simp only [Act.put, List.setIfInBounds_toArray, List.set_cons_zero, List.set_cons_succ, i64_w, i32_w]
                        rfl
                      refine oneP_ 4 (some 38) #[true, true, true, true, true, false, false, false, false, true, true, true, true, false, false] HT_ (fun K hK => ?_)
                      refine goN_ Tryd.func23 #[.pointer (some ⟨g277, 0, none⟩), .int .i64 7] ?_
                      with_reducible refine (spec_l1Rd_pick.calls k g277 t275 t291 7 t292 t293 w _ ?side1 ?side2 A27.out).mono ?_
                      (case side1 => repeat (first | (with_reducible first | exact HI277.out | apply IsS53.alloc | apply IsS53.drewN | apply IsS53.drew | apply IsS53.set_1) | exact HI277.out))
                      (case side2 => repeat (first | (with_reducible first | exact HB.out | apply below_alloc | apply pw_below_drewN | apply below_drew1 | refine below_set ?_ (IsS53.ge HI277.out)) | exact HB.out))
                      rintro e w42 ⟨rfl, hi, hb, hk⟩
                      refine ⟨_, rfl, ?_⟩
                      replace HB := Aside0.mk (hb)
                      replace HI277 := Aside0.mk (hi)
                      (try clear hb); (try clear hb2); (try clear hk); (try clear hi)
                      have p30 : 0 ≤ (t292 : Int) := ofd_
                      have q30 : t292 < (7 : Int) := ofd_
                      have hx30 := bt_at (⟨#[65, 70, 103, 71, 58, 47, 32]⟩ : ByteArray) t292
                      replace p30 := eq_true p30
                      replace q30 := eq_true q30
                      refine hK.out _ _ trivial (fun hHeld => ?_)
                      clear hK K
                      refine norm_ (a' := ?_) ?_ ?_
                      rotate_left
                      · show Act.put _ (some 38) _ = _
                        simp only [Act.put, List.setIfInBounds_toArray, List.set_cons_zero, List.set_cons_succ, i64_w, i32_w]
                        rfl
                      refine take_ (i := 5) (N := some 39) (v := ?_) (a' := ?_) #[true, true, true, true, true, true, false, false, false, true, true, true, true, false, false] rfl rfl (take_ofW HT_.out HW_.out (by kernel_rfl)) (fun _ _ _ h => h) (Or.inl ⟨by rfl, ?_⟩) hHeld ?_ ?_
                      rotate_left
                      · intro w' _
                        go_simp
                        first | with_reducible rfl | (rw [if_neg (by intro h_; (try simp only [ByteArray.size_append, ByteArray.size_extract, eq_iff_iff, iff_true] at *); omega)]; first | done | rfl)
                      rotate_left
                      · simp only [Act.put, List.setIfInBounds_toArray, List.set_cons_zero, List.set_cons_succ, i64_w, i32_w]
                        rfl
                      refine oneP_ 6 (some 40) #[true, true, true, true, true, true, true, false, false, true, true, true, true, false, false] HT_ (fun K hK => ?_)
                      refine Kd.R_lit_step (Kd.int .u8) _ 5 ?hg (N := 40) ?hd (xs := ([bt (⟨#[65, 70, 103, 71, 58, 47, 32]⟩ : ByteArray) t292] : List Int)) (inner := [.int .u8 (bt (⟨#[65, 70, 103, 71, 58, 47, 32]⟩ : ByteArray) t292)]) (ok := fun _ => True) (okp := fun _ => True) ?hr ?hp (fun _ hk => hk) trivial (Below.refl _ _) (Nat.le_refl _) (by simp) ?_; (case hd => rfl); (case hg => rfl); (case hr => first | (go_simp; done) | (go_simp; rfl)); (case hp => exact (Reps.one (show Kd.M (Kd.int .u8) _ _ _ (bt (⟨#[65, 70, 103, 71, 58, 47, 32]⟩ : ByteArray) t292) [.int .u8 (bt (⟨#[65, 70, 103, 71, 58, 47, 32]⟩ : ByteArray) t292)] from rfl) (Reps.none _ _)))
                      intro v295 w43 ho44 hb hg_ hnew_
                      clear hg_ hnew_
                      (first | rw [← Ny294.out] at ho44 | (simp only [Int.reduceToNat] at ho44; rw [← Ny294.out] at ho44))
                      have HO296 := Aside0.mk (Kd.R_lower ho44 (below_size (by repeat (first | (with_reducible first | exact HB.out | apply below_alloc | apply pw_below_drewN | apply below_drew1 | refine below_set ?_ (IsS53.ge HI277.out)) | exact HB.out))))
                      replace HB := Aside0.mk (below_step (by repeat (first | (with_reducible first | exact HB.out | apply below_alloc | apply pw_below_drewN | apply below_drew1 | refine below_set ?_ (IsS53.ge HI277.out)) | exact HB.out)) hb)
                      replace HI277 := Aside0.mk (IsS53.below (by repeat (first | (with_reducible first | exact HI277.out | apply IsS53.alloc | apply IsS53.drewN | apply IsS53.drew | apply IsS53.set_1) | exact HI277.out)) hb)
                      clear hb ho44
                      refine hK.out _ _ trivial (fun hHeld => ?_)
                      clear hK K
                      refine norm_ (a' := ?_) ?_ ?_
                      rotate_left
                      · show Act.put _ (some 40) _ = _
                        simp only [Act.put, List.setIfInBounds_toArray, List.set_cons_zero, List.set_cons_succ, i64_w, i32_w]
                        rfl
                      refine oneP_ 7 (some 41) #[true, true, true, true, true, true, true, true, false, true, true, true, true, false, false] HT_ (fun K hK => ?_)
                      have hcv45 := own_string (P := Tryd.prog) Tryd.underlying29 Tryd.underlying5 Tryd.underlying9 (Kd.own_of_R HO296.out)
                      refine value_ (w1 := ?_) (v := ?_) (by rfl) rfl ?_ ?_
                      rotate_left 2
                      · go_simp
                        constructor
                        · rfl
                        · rfl
                      clear hcv45
                      refine hK.out _ _ trivial (fun hHeld => ?_)
                      clear hK K
                      refine norm_ (a' := ?_) ?_ ?_
                      rotate_left
                      · show Act.put _ (some 41) _ = _
                        simp only [Act.put, List.setIfInBounds_toArray, List.set_cons_zero, List.set_cons_succ, i64_w, i32_w]
                        rfl
                      refine pure_ (i := 8) (N := some 42) (v := ?_) (a' := ?_) #[true, true, true, true, true, true, true, true, true, true, true, true, true, false, false] rfl rfl (any_of HT_.out (by kernel_rfl)) (fun _ _ _ h => h) (Or.inl ⟨by rfl, ?_⟩) ?_ ?_
                      rotate_left
                      · intro w'
                        go_simp
                        first | with_reducible rfl | (rw [if_neg (by intro h_; (try simp only [ByteArray.size_append, ByteArray.size_extract, eq_iff_iff, iff_true] at *); omega)]; first | done | rfl)
                      rotate_left
                      · simp only [Act.put, List.setIfInBounds_toArray, List.set_cons_zero, List.set_cons_succ, i64_w, i32_w]
                        rfl
                      refine pure_ (i := 13) (N := some 47) (v := ?_) (a' := ?_) #[true, true, true, true, true, true, true, true, true, true, true, true, true, true, false] rfl rfl (any_of HT_.out (by kernel_rfl)) (fun _ _ _ h => h) (Or.inl ⟨by rfl, ?_⟩) ?_ ?_
                      rotate_left
                      · intro w'
                        go_simp
                        first | with_reducible rfl | (rw [if_neg (by intro h_; (try simp only [ByteArray.size_append, ByteArray.size_extract, eq_iff_iff, iff_true] at *); omega)]; first | done | rfl)
                      rotate_left
                      · simp only [Act.put, List.setIfInBounds_toArray, List.set_cons_zero, List.set_cons_succ, i64_w, i32_w]
                        rfl
                      refine pure_ (i := 14) (N := some 2) (v := ?_) (a' := ?_) #[true, true, true, true, true, true, true, true, true, true, true, true, true, true, true] rfl rfl (any_of HT_.out (by kernel_rfl)) (fun _ _ _ h => h) (Or.inl ⟨by rfl, ?_⟩) ?_ ?_
                      rotate_left
                      · intro w'
                        go_simp
                        first | with_reducible rfl | (rw [if_neg (by intro h_; (try simp only [ByteArray.size_append, ByteArray.size_extract, eq_iff_iff, iff_true] at *); omega)]; first | done | rfl)
                      rotate_left
                      · simp only [Act.put, List.setIfInBounds_toArray, List.set_cons_zero, List.set_cons_succ, i64_w, i32_w]
                        rfl
                      refine done_ (done_of HT_.out (by kernel_rfl)) ?_
                      try go_wp2
                      go_ret
                      exact ⟨by first | rfl | (simp [errW_none, errW_some] <;> rfl) | (simp only [← hji32]; first | rfl | (simp [errW_none, errW_some] <;> rfl)) | (simp [*, errW_none, errW_some] <;> rfl), by repeat (first | (with_reducible first | exact HB.out | apply below_alloc | apply pw_below_drewN | apply below_drew1 | refine below_set ?_ (IsS53.ge HI277.out)) | exact HB.out)⟩
                    · rw [if_neg c35] at H
                      exact absurd H (by simp)
                  · rw [if_neg c34] at H
                    exact absurd H (by simp)
                · rw [if_neg c33] at H
                  exact absurd H (by simp)
              · rw [if_neg c31] at H
                exact absurd H (by simp)
            · rw [if_neg c29] at H
              exact absurd H (by simp)
          · rw [if_neg c28] at H
            exact absurd H (by simp)
        · rw [if_neg c26] at H
          exact absurd H (by simp)
      · rw [if_neg c25] at H
        exact absurd H (by simp)
    · rw [if_neg c23] at H
      have c23b0 : (t284 == 1) = false := beq_eq_false_iff_ne.mpr c23
      have c23b1 : (t284 != 1) = true := bne_iff_ne.mpr c23
      obtain rfl := Option.some.inj H
      go_enter Tryd.func12, Tryd.ntmps12
      go_wp2_with (first | ((with_reducible refine gate_callee (f := 17) rfl ?_); refine goL_ (some 9) Tryd.func17 #[.slice A0 l0.length c0] ?_; (with_reducible refine (spec_l1Open.calls _ _ l0 t275 t276 w _ ?side1 ?side2 ?side3 A2.out).mono ?_); (case side1 => exact bel_); (case side2 => exact HR0.out); (case side3 => exact HC0.out); rintro e w46 ⟨g277, rfl, hi, hb, hb2⟩; refine ⟨_, rfl, ?_⟩; replace HB := Aside0.mk (hb); have HI277 := Aside0.mk (hi); (try clear hb); (try clear hb2); (try clear hk); (try clear hi)) | ((with_reducible refine gate_callee (f := 18) rfl ?_); refine goL_ (some 11) Tryd.func18 #[.pointer (some ⟨g277, 0, none⟩)] ?_; (with_reducible refine (spec_l1Rd_digest.calls k g277 t275 t276 t278 t279 t280 t281 t282 w _ ?side1 ?side2 A3.out).mono ?_); (case side1 => repeat (first | (with_reducible first | exact HI277.out | apply IsS53.alloc | apply IsS53.drewN | apply IsS53.drew | apply IsS53.set_1) | exact HI277.out)); (case side2 => repeat (first | (with_reducible first | exact HB.out | apply below_alloc | apply pw_below_drewN | apply below_drew1 | refine below_set ?_ (IsS53.ge HI277.out)) | exact HB.out)); rintro e w47 ⟨rfl, hi, hb, hk⟩; refine ⟨_, rfl, ?_⟩; replace HB := Aside0.mk (hb); replace HI277 := Aside0.mk (hi); (try clear hb); (try clear hb2); (try clear hk); (try clear hi)) | ((with_reducible refine gate_callee (f := 22) rfl ?_); refine goL_ (some 12) Tryd.func22 #[.agg #[.int .u64 t278, .int .u64 t279, .int .u64 t280, .int .u64 t281]] ?_; (with_reducible refine (spec_HashText.calls k t278 t279 t280 t281 t283 _ A4.out).mono ?_); rintro e w48 ⟨rfl, hb⟩; refine ⟨_, rfl, ?_⟩; replace HB := Aside0.mk (below_step (by repeat (first | (with_reducible first | exact HB.out | apply below_alloc | apply pw_below_drewN | apply below_drew1 | refine below_set ?_ (IsS53.ge HI277.out)) | exact HB.out)) hb); replace HI277 := Aside0.mk (IsS53.below (by repeat (first | (with_reducible first | exact HI277.out | apply IsS53.alloc | apply IsS53.drewN | apply IsS53.drew | apply IsS53.set_1) | exact HI277.out)) hb); (try clear hb); (try clear hb2); (try clear hk); (try clear hi)) | ((with_reducible refine gate_callee (f := 23) rfl ?_); refine goL_ (some 14) Tryd.func23 #[.pointer (some ⟨g277, 0, none⟩), .int .i64 6] ?_; (with_reducible refine (spec_l1Rd_pick.calls k g277 t275 t282 6 t284 t285 w _ ?side1 ?side2 A5.out).mono ?_); (case side1 => repeat (first | (with_reducible first | exact HI277.out | apply IsS53.alloc | apply IsS53.drewN | apply IsS53.drew | apply IsS53.set_1) | exact HI277.out)); (case side2 => repeat (first | (with_reducible first | exact HB.out | apply below_alloc | apply pw_below_drewN | apply below_drew1 | refine below_set ?_ (IsS53.ge HI277.out)) | exact HB.out)); rintro e w49 ⟨rfl, hi, hb, hk⟩; refine ⟨_, rfl, ?_⟩; replace HB := Aside0.mk (hb); replace HI277 := Aside0.mk (hi); (try clear hb); (try clear hb2); (try clear hk); (try clear hi)))
      go_ret
      exact ⟨rfl_, by repeat (first | (with_reducible first | exact HB.out | apply below_alloc | apply pw_below_drewN | apply below_drew1 | refine below_set ?_ (IsS53.ge HI277.out)) | exact HB.out)⟩
end
end Go.Proofs.YtflcbanemolkfaaDoor.B
