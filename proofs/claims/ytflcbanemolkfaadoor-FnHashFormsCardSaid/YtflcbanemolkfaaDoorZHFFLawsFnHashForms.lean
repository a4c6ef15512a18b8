/- What the Go functions loop.example/belfry/laws.FnHashForms do is what the Lean functions .f of their names here say; condition: .f gives an answer. (Written by the session's program pp.py over the kit's print; Lean checks it.) -/
import Derived.Test.YtflcbanemolkfaaDoorZHFK
import Derived.Test.YtflcbanemolkfaaDoorZHFM
import Derived.Test.YtflcbanemolkfaaDoorZHFFImplHashRead
import Derived.Test.YtflcbanemolkfaaDoorZHFFSpecDrawHashBack
import Derived.Test.YtflcbanemolkfaaDoorZHFFSpecDrawHashBytes
import Derived.Test.YtflcbanemolkfaaDoorZHFFSpecDrawHashRead
import Derived.Test.YtflcbanemolkfaaDoorZHFFSpecHashRead
import Derived.Test.YtflcbanemolkfaaDoorZHFGEq1
import Derived.Test.YtflcbanemolkfaaDoorZHFGImplPair1
import Derived.Test.YtflcbanemolkfaaDoorZHFHHashBack
import Derived.Test.YtflcbanemolkfaaDoorZHFHHashText
namespace Go.Proofs.YtflcbanemolkfaaDoor.B
open Go.RowKit Go.Proofs.YtflcbanemolkfaaDoorW.PrintWords Go.Proofs.YtflcbanemolkfaaDoorW.PrintLast Go.Proofs.YtflcbanemolkfaaDoorW.PrintMore
attribute [local go_sem] max2_int min2_int max_two min_two max_three min_three max_four min_four
set_option linter.unusedVariables false
set_option linter.unusedSimpArgs false
section
attribute [local go_sem high] eqA24
mutual
def laws_FnHashForms.j0 : Nat → List Int → Bool → Option (Bool)
  | 0, _, _ => none
  | k + 1, x0, x60 => if x60 = true then (some false) else ((spec_DrawHashRead.f k x0).bind fun t333 => ((impl_HashRead.f k t333).bind fun bt334 => ((spec_HashRead.f k t333).bind fun bt340 => (if (bt334.2.2.2.2 != bt340.2.2.2.2) = true then (laws_FnHashForms.j1 k x0 true) else (if bt334.2.2.2.2 = true then ((impl_HashText.f k bt334.1 bt334.2.1 bt334.2.2.1 bt334.2.2.2.1).bind fun t346 => (laws_FnHashForms.j1 k x0 (t346.toList != t333.toList))) else (laws_FnHashForms.j1 k x0 false))))))
def laws_FnHashForms.j1 : Nat → List Int → Bool → Option (Bool)
  | 0, _, _ => none
  | k + 1, x0, x84 => if x84 = true then (some false) else ((spec_DrawHashBack.f k x0).bind fun t347 => ((impl_HashBack.f t347).bind fun bt348 => (if (bt348.2.2.2.2 == ((t347.size : Int) == 32)) = true then (if bt348.2.2.2.2 = true then ((impl_HashBytes.f k bt348.1 bt348.2.1 bt348.2.2.1 bt348.2.2.2.1).bind fun t354 => (some (t354.toList == t347.toList))) else (some true)) else (some false))))
end
def laws_FnHashForms.f (k : Nat) (l0 : List Int) : Option (Bool) := if (l0.length : Int) > 1048576 then (some true) else ((spec_DrawHashBytes.f k l0).bind fun bt312 => ((impl_HashBytes.f k bt312.1 bt312.2.1 bt312.2.2.1 bt312.2.2.2).bind fun t317 => ((impl_HashBack.f t317).bind fun bt318 => ((impl_HashText.f k bt312.1 bt312.2.1 bt312.2.2.1 bt312.2.2.2).bind fun t324 => ((impl_HashRead.f k t324).bind fun bt325 => (if bt318.2.2.2.2 = true then (if bt325.2.2.2.2 = true then (if (!(bt318.1 == bt312.1) || (!(bt318.2.1 == bt312.2.1) || (!(bt318.2.2.1 == bt312.2.2.1) || (!(bt318.2.2.2.1 == bt312.2.2.2))))) = true then (laws_FnHashForms.j0 k l0 true) else (if (!(bt325.1 == bt312.1) || (!(bt325.2.1 == bt312.2.1) || (!(bt325.2.2.1 == bt312.2.2.1) || (!(bt325.2.2.2.1 == bt312.2.2.2))))) = true then (laws_FnHashForms.j0 k l0 true) else ((impl_HashBytes.f k bt312.1 bt312.2.1 bt312.2.2.1 bt312.2.2.2).bind fun t331 => (if (t331.size : Int) = 32 then ((impl_HashText.f k bt312.1 bt312.2.1 bt312.2.2.1 bt312.2.2.2).bind fun t332 => (laws_FnHashForms.j0 k l0 ((t332.size : Int) != 64))) else (laws_FnHashForms.j0 k l0 true))))) else (laws_FnHashForms.j0 k l0 true)) else (laws_FnHashForms.j0 k l0 true)))))))
set_option maxHeartbeats 8000000 in
set_option maxRecDepth 100000 in
theorem laws_FnHashForms.calls (k : Nat) (A0 : Option Addr) (c0 : Nat) (l0 : List Int) (r : Bool) (hr_ : r = true) (w : World) (hr0 : Kd.C (Kd.int .u8) w A0 l0.length l0) (hc0 : l0.length ≤ c0) (ea_ : Addr) (hE : w.cell? ⟨1, 0, none⟩ = some (EVp ea_)) (h : laws_FnHashForms.f k l0 = some r) :
    Calls Tryd.prog 4 #[.slice A0 l0.length c0] w fun e w' => e = .returned (.bool r) ∧ Below w.heap.size w w' := by
  have hu24 := Tryd.underlying24
  have HR0 := Aside0.mk hr0
  have HC0 := Aside0.mk hc0
  clear hr0 hc0
  have HB := Aside0.mk (Below.refl w.heap.size w)
  have H : (if (l0.length : Int) > 1048576 then (some true) else ((spec_DrawHashBytes.f k l0).bind fun bt312 => ((impl_HashBytes.f k bt312.1 bt312.2.1 bt312.2.2.1 bt312.2.2.2).bind fun t317 => ((impl_HashBack.f t317).bind fun bt318 => ((impl_HashText.f k bt312.1 bt312.2.1 bt312.2.2.1 bt312.2.2.2).bind fun t324 => ((impl_HashRead.f k t324).bind fun bt325 => (if bt318.2.2.2.2 = true then (if bt325.2.2.2.2 = true then (if (!(bt318.1 == bt312.1) || (!(bt318.2.1 == bt312.2.1) || (!(bt318.2.2.1 == bt312.2.2.1) || (!(bt318.2.2.2.1 == bt312.2.2.2))))) = true then (laws_FnHashForms.j0 k l0 true) else (if (!(bt325.1 == bt312.1) || (!(bt325.2.1 == bt312.2.1) || (!(bt325.2.2.1 == bt312.2.2.1) || (!(bt325.2.2.2.1 == bt312.2.2.2))))) = true then (laws_FnHashForms.j0 k l0 true) else ((impl_HashBytes.f k bt312.1 bt312.2.1 bt312.2.2.1 bt312.2.2.2).bind fun t331 => (if (t331.size : Int) = 32 then ((impl_HashText.f k bt312.1 bt312.2.1 bt312.2.2.1 bt312.2.2.2).bind fun t332 => (laws_FnHashForms.j0 k l0 ((t332.size : Int) != 64))) else (laws_FnHashForms.j0 k l0 true))))) else (laws_FnHashForms.j0 k l0 true)) else (laws_FnHashForms.j0 k l0 true)))))))) = some r := h
  clear h
  by_cases c2 : (l0.length : Int) > 1048576
  · rw [if_pos c2] at H
    have c2b0 : decide (1048576 < (l0.length : Int)) = true := decide_eq_true c2
    have c2b1 : decide (1048576 < l0.length) = true := decide_eq_true (by omega)
    clear c2
    obtain rfl := Option.some.inj H
    go_enter Tryd.func4, Tryd.ntmps4
    go_wp2
    go_ret
    exact ⟨rfl_, bel_⟩
  · rw [if_neg c2] at H
    have c2b0 : decide (1048576 < (l0.length : Int)) = false := decide_eq_false c2
    have c2b1 : decide (1048576 < l0.length) = false := decide_eq_false (by omega)
    clear c2
    obtain ⟨⟨t312, t313, t314, t315⟩, A3, H⟩ := bnd_ H
    dsimp only at H
    obtain ⟨t317, A4, H⟩ := bnd_ H
    obtain ⟨⟨t318, t319, t320, t321, t322⟩, A5, H⟩ := bnd_ H
    dsimp only at H
    obtain ⟨t324, A6, H⟩ := bnd_ H
    obtain ⟨⟨t325, t326, t327, t328, t329⟩, A7, H⟩ := bnd_ H
    dsimp only at H
    have HC8 := Aside0.mk H
    clear H
    go_enter Tryd.func4, Tryd.ntmps4
    go_upto_region 6 with (first | ((with_reducible refine gate_callee (f := 8) rfl ?_); refine goL_ (some 20) Tryd.func8 #[.slice A0 l0.length c0] ?_; (with_reducible refine (spec_DrawHashBytes.calls k _ _ l0 t312 t313 t314 t315 _ ?side1 ?side2 A3.out).mono ?_); (case side1 => repeat (first | exact HR0.out | (with_reducible refine Kd.C_alloc ?_ _) | (with_reducible refine Kd.C_drewN ?_ _) | (with_reducible refine Kd.C_drew ?_))); (case side2 => exact HC0.out); rintro e w9 ⟨rfl, hb⟩; refine ⟨_, rfl, ?_⟩; replace HB := stepB_ hb; (try clear hb)) | ((with_reducible refine gate_dst (N := 3) rfl ?_); (try (refine gate_guard (by rfl) ?_; dsimp only)); refine boxE_ (cs := #[.int .u64 0, .int .u64 0, .int .u64 0, .int .u64 0]) (t := 24) ?_; intro gb316 hg w10 hbox hb; have BK316 := Aside0.mk (hbox); have GW316 := sizeB_ hg; have GE316 := sizeB_ hg; replace HB := stepB_ hb; clear hb hbox hg; obtain ⟨hcz11_0, hcz11_1, hcz11_2, hcz11_3, hfz11_0, hfz11_1, hfz11_2, hfz11_3⟩ := cz4_ BK316.out) | ((with_reducible refine gate_callee (f := 10) rfl ?_); refine goL_ (some 23) Tryd.func10 #[.agg #[.int .u64 t312, .int .u64 t313, .int .u64 t314, .int .u64 t315]] ?_; (with_reducible refine (impl_HashBytes.calls k t312 t313 t314 t315 t317 _ A4.out).mono ?_); rintro e w12 ⟨rfl, hb⟩; refine ⟨_, rfl, ?_⟩; replace BK316 := blkPB_ (cs := #[.int .u64 t312, .int .u64 t313, .int .u64 t314, .int .u64 t315]) BK316.out hb; replace HB := stepB_ hb; (try clear hb)) | ((with_reducible refine gate_callee (f := 9) rfl ?_); refine goL_ (some 24) Tryd.func9 #[.string t317] ?_; (with_reducible refine (impl_HashBack.calls t317 t318 t319 t320 t321 t322 _ A5.out).mono ?_); rintro e w13 ⟨rfl, hb⟩; refine ⟨_, rfl, ?_⟩; replace BK316 := blkBel_ BK316.out hb; replace HB := stepB_ hb; (try clear hb)) | ((with_reducible refine gate_dst (N := 4) rfl ?_); (try (refine gate_guard (by rfl) ?_; dsimp only)); refine boxE_ (cs := #[.int .u64 0, .int .u64 0, .int .u64 0, .int .u64 0]) (t := 24) ?_; intro gb323 hg w14 hbox hb; have BK323 := Aside0.mk (hbox); have GW323 := sizeB_ hg; have GE323 := sizeB_ hg; replace HB := stepB_ hb; have NB316_323 := neL_ BK316.out hg; have NB323_316 := neG_ BK316.out hg; replace BK316 := blkBel_ BK316.out hb; clear hb hbox hg; have hnb15 := NB323_316.out; have hnc15 := NB316_323.out; obtain ⟨hcz16_0, hcz16_1, hcz16_2, hcz16_3, hfz16_0, hfz16_1, hfz16_2, hfz16_3⟩ := cz4_ BK323.out; obtain ⟨hcz17_0, hcz17_1, hcz17_2, hcz17_3, hfz17_0, hfz17_1, hfz17_2, hfz17_3⟩ := cz4_ BK316.out) | ((with_reducible refine gate_callee (f := 11) rfl ?_); refine goL_ (some 29) Tryd.func11 #[.agg #[.int .u64 t312, .int .u64 t313, .int .u64 t314, .int .u64 t315]] ?_; (with_reducible refine (impl_HashText.calls k t312 t313 t314 t315 t324 _ A6.out).mono ?_); rintro e w18 ⟨rfl, hb⟩; refine ⟨_, rfl, ?_⟩; replace BK316 := blkBel_ BK316.out hb; replace BK323 := blkPB_ (cs := #[.int .u64 t318, .int .u64 t319, .int .u64 t320, .int .u64 t321]) BK323.out hb; replace HB := stepB_ hb; (try clear hb)) | ((with_reducible refine gate_callee (f := 6) rfl ?_); refine goL_ (some 30) Tryd.func6 #[.string t324] ?_; (with_reducible refine (impl_HashRead.calls k t324 t325 t326 t327 t328 t329 _ ea_ (pw_cell_below bel_ hE) A7.out).mono ?_); rintro e w19 ⟨rfl, hb⟩; refine ⟨_, rfl, ?_⟩; replace BK316 := blkBel_ BK316.out hb; replace BK323 := blkBel_ BK323.out hb; replace HB := stepB_ hb; (try clear hb)) | ((with_reducible refine gate_dst (N := 6) rfl ?_); (try (refine gate_guard (by rfl) ?_; dsimp only)); refine boxE_ (cs := #[.int .u64 0, .int .u64 0, .int .u64 0, .int .u64 0]) (t := 24) ?_; intro gb330 hg w20 hbox hb; have BK330 := Aside0.mk (hbox); have GW330 := sizeB_ hg; have GE330 := sizeB_ hg; replace HB := stepB_ hb; have NB316_330 := neL_ BK316.out hg; have NB330_316 := neG_ BK316.out hg; replace BK316 := blkBel_ BK316.out hb; have NB323_330 := neL_ BK323.out hg; have NB330_323 := neG_ BK323.out hg; replace BK323 := blkBel_ BK323.out hb; clear hb hbox hg; have hnb21 := NB330_316.out; have hnc21 := NB316_330.out; have hnb22 := NB330_323.out; have hnc22 := NB323_330.out; obtain ⟨hcz23_0, hcz23_1, hcz23_2, hcz23_3, hfz23_0, hfz23_1, hfz23_2, hfz23_3⟩ := cz4_ BK330.out))
    (try simp only [Act.put, List.setIfInBounds_toArray, List.set_cons_zero, List.set_cons_succ])
    go_cut [60] (fun v60 wc => ∃ (kq : Nat) (x60_7 : Bool), v60 = .bool x60_7 ∧ Aside0 (laws_FnHashForms.j0 kq l0 x60_7 = some r) ∧ Aside0 (kq ≤ k) ∧ Aside0 (wc.heap[gb316]? = some (.cells #[.int .u64 t312, .int .u64 t313, .int .u64 t314, .int .u64 t315] 24 (0, 0))) ∧ Aside0 (wc.heap[gb323]? = some (.cells #[.int .u64 t318, .int .u64 t319, .int .u64 t320, .int .u64 t321] 24 (0, 0))) ∧ Aside0 (wc.heap[gb330]? = some (.cells #[.int .u64 t325, .int .u64 t326, .int .u64 t327, .int .u64 t328] 24 (0, 0))) ∧ Aside0 (Below w.heap.size w wc))
    case first =>
      have H := HC8.out
      clear HC8
      by_cases c24 : t322 = true
      · subst c24
        rw [if_pos rfl] at H
        by_cases c25 : t329 = true
        · subst c25
          rw [if_pos rfl] at H
          by_cases c26 : (!(t318 == t312) || (!(t319 == t313) || (!(t320 == t314) || (!(t321 == t315))))) = true
          · rw [if_pos c26] at H
            have c26b0 : (!(t318 == t312) || (!(t319 == t313) || (!(t320 == t314) || (!(t321 == t315))))) = true := c26
            clear c26
            (first | rw [c26b0] | (simp only [i64_w, i32_w]; rw [c26b0]) | skip)
            have H' := Aside0.mk H
            clear H
            have hnb27 := NB323_316.out
            have hnc27 := NB316_323.out
            have hnb28 := NB323_330.out
            have hnc28 := NB330_323.out
            obtain ⟨hcz29_0, hcz29_1, hcz29_2, hcz29_3, hfz29_0, hfz29_1, hfz29_2, hfz29_3⟩ := cz4_ BK323.out
            have hnb30 := NB316_330.out
            have hnc30 := NB330_316.out
            obtain ⟨hcz31_0, hcz31_1, hcz31_2, hcz31_3, hfz31_0, hfz31_1, hfz31_2, hfz31_3⟩ := cz4_ BK316.out
            go_wp2
            go_meet
            case rel => exact ⟨_, (true), (by first | rfl | (simp; done) | (simp [*]; done)), H', ⟨by first | omega | exact Nat.le_refl _⟩, ⟨blkU_ BK316.out⟩, ⟨blkU_ BK323.out⟩, ⟨blkF_ BK330.out⟩, ⟨bel_⟩⟩
          · rw [if_neg c26] at H
            have c26b0 : (!(t318 == t312) || (!(t319 == t313) || (!(t320 == t314) || (!(t321 == t315))))) = false := by simpa using c26
            clear c26
            (first | rw [c26b0] | (simp only [i64_w, i32_w]; rw [c26b0]) | skip)
            by_cases c32 : (!(t325 == t312) || (!(t326 == t313) || (!(t327 == t314) || (!(t328 == t315))))) = true
            · rw [if_pos c32] at H
              have c32b0 : (!(t325 == t312) || (!(t326 == t313) || (!(t327 == t314) || (!(t328 == t315))))) = true := c32
              clear c32
              have H' := Aside0.mk H
              clear H
              have hnb33 := NB323_316.out
              have hnc33 := NB316_323.out
              have hnb34 := NB323_330.out
              have hnc34 := NB330_323.out
              obtain ⟨hcz35_0, hcz35_1, hcz35_2, hcz35_3, hfz35_0, hfz35_1, hfz35_2, hfz35_3⟩ := cz4_ BK323.out
              have hnb36 := NB316_330.out
              have hnc36 := NB330_316.out
              obtain ⟨hcz37_0, hcz37_1, hcz37_2, hcz37_3, hfz37_0, hfz37_1, hfz37_2, hfz37_3⟩ := cz4_ BK316.out
              obtain ⟨hcz38_0, hcz38_1, hcz38_2, hcz38_3, hfz38_0, hfz38_1, hfz38_2, hfz38_3⟩ := cz4_ BK330.out
              go_wp2
              go_meet
              case rel => exact ⟨_, (true), (by first | rfl | (simp; done) | (simp [*]; done)), H', ⟨by first | omega | exact Nat.le_refl _⟩, ⟨blkU_ BK316.out⟩, ⟨blkU_ BK323.out⟩, ⟨blkF_ BK330.out⟩, ⟨bel_⟩⟩
            · rw [if_neg c32] at H
              have c32b0 : (!(t325 == t312) || (!(t326 == t313) || (!(t327 == t314) || (!(t328 == t315))))) = false := by simpa using c32
              clear c32
              obtain ⟨t331, A39, H⟩ := bnd_ H
              by_cases c40 : (t331.size : Int) = 32
              · rw [if_pos c40] at H
                have c40b0 : ((t331.size : Int) == 32) = true := beq_iff_eq.mpr c40
                have c40b1 : ((t331.size : Int) != 32) = false := bne_eq_false_iff_eq.mpr c40
                clear c40
                obtain ⟨t332, A41, H⟩ := bnd_ H
                have H' := Aside0.mk H
                clear H
                have hnb42 := NB323_316.out
                have hnc42 := NB316_323.out
                have hnb43 := NB323_330.out
                have hnc43 := NB330_323.out
                obtain ⟨hcz44_0, hcz44_1, hcz44_2, hcz44_3, hfz44_0, hfz44_1, hfz44_2, hfz44_3⟩ := cz4_ BK323.out
                have hnb45 := NB316_330.out
                have hnc45 := NB330_316.out
                obtain ⟨hcz46_0, hcz46_1, hcz46_2, hcz46_3, hfz46_0, hfz46_1, hfz46_2, hfz46_3⟩ := cz4_ BK316.out
                obtain ⟨hcz47_0, hcz47_1, hcz47_2, hcz47_3, hfz47_0, hfz47_1, hfz47_2, hfz47_3⟩ := cz4_ BK330.out
                go_wp2_with (first | (go_at_call 10; (with_reducible refine (impl_HashBytes.calls k t312 t313 t314 t315 t331 _ A39.out).mono ?_); rintro e w48 ⟨rfl, hb⟩; replace BK316 := blkBel_ BK316.out hb; replace BK323 := blkBel_ BK323.out hb; replace BK330 := blkPB_ (cs := #[.int .u64 t325, .int .u64 t326, .int .u64 t327, .int .u64 t328]) BK330.out hb; replace HB := stepB_ hb; (try clear hb); obtain ⟨hcz49_0, hcz49_1, hcz49_2, hcz49_3, hfz49_0, hfz49_1, hfz49_2, hfz49_3⟩ := cz4_ BK316.out) | (go_at_call 11; (with_reducible refine (impl_HashText.calls k t312 t313 t314 t315 t332 _ A41.out).mono ?_); rintro e w50 ⟨rfl, hb⟩; replace BK316 := blkBel_ BK316.out hb; replace BK323 := blkBel_ BK323.out hb; replace BK330 := blkBel_ BK330.out hb; replace HB := stepB_ hb; (try clear hb)))
                go_meet
                case rel => exact ⟨_, (((t332.size : Int) != 64)), (by first | rfl | (simp; done) | (simp [*]; done)), H', ⟨by first | omega | exact Nat.le_refl _⟩, ⟨blkU_ BK316.out⟩, ⟨blkU_ BK323.out⟩, ⟨blkU_ BK330.out⟩, ⟨bel_⟩⟩
              · rw [if_neg c40] at H
                have c40b0 : ((t331.size : Int) == 32) = false := beq_eq_false_iff_ne.mpr c40
                have c40b1 : ((t331.size : Int) != 32) = true := bne_iff_ne.mpr c40
                have H' := Aside0.mk H
                clear H
                have hnb51 := NB323_316.out
                have hnc51 := NB316_323.out
                have hnb52 := NB323_330.out
                have hnc52 := NB330_323.out
                obtain ⟨hcz53_0, hcz53_1, hcz53_2, hcz53_3, hfz53_0, hfz53_1, hfz53_2, hfz53_3⟩ := cz4_ BK323.out
                have hnb54 := NB316_330.out
                have hnc54 := NB330_316.out
                obtain ⟨hcz55_0, hcz55_1, hcz55_2, hcz55_3, hfz55_0, hfz55_1, hfz55_2, hfz55_3⟩ := cz4_ BK316.out
                obtain ⟨hcz56_0, hcz56_1, hcz56_2, hcz56_3, hfz56_0, hfz56_1, hfz56_2, hfz56_3⟩ := cz4_ BK330.out
                go_wp2_with (first | (go_at_call 10; (with_reducible refine (impl_HashBytes.calls k t312 t313 t314 t315 t331 _ A39.out).mono ?_); rintro e w57 ⟨rfl, hb⟩; replace BK316 := blkBel_ BK316.out hb; replace BK323 := blkBel_ BK323.out hb; replace BK330 := blkPB_ (cs := #[.int .u64 t325, .int .u64 t326, .int .u64 t327, .int .u64 t328]) BK330.out hb; replace HB := stepB_ hb; (try clear hb)))
                go_meet
                case rel => exact ⟨_, (true), (by first | rfl | (simp; done) | (simp [*]; done)), H', ⟨by first | omega | exact Nat.le_refl _⟩, ⟨blkU_ BK316.out⟩, ⟨blkU_ BK323.out⟩, ⟨blkU_ BK330.out⟩, ⟨bel_⟩⟩
        · replace c25 := Bool.eq_false_iff.mpr c25
          subst c25
          rw [if_neg (show ¬ (false = true) by decide)] at H
          have H' := Aside0.mk H
          clear H
          go_wp2
          go_meet
          case rel => exact ⟨_, (true), (by first | rfl | (simp; done) | (simp [*]; done)), H', ⟨by first | omega | exact Nat.le_refl _⟩, ⟨blkU_ BK316.out⟩, ⟨blkU_ BK323.out⟩, ⟨blkF_ BK330.out⟩, ⟨bel_⟩⟩
      · replace c24 := Bool.eq_false_iff.mpr c24
        subst c24
        rw [if_neg (show ¬ (false = true) by decide)] at H
        have H' := Aside0.mk H
        clear H
        go_wp2
        go_meet
        case rel => exact ⟨_, (true), (by first | rfl | (simp; done) | (simp [*]; done)), H', ⟨by first | omega | exact Nat.le_refl _⟩, ⟨blkU_ BK316.out⟩, ⟨blkU_ BK323.out⟩, ⟨blkF_ BK330.out⟩, ⟨bel_⟩⟩
    case rest =>
      clear HC8
      (try clear c2); (try clear c2b0); (try clear c2b1); (try clear c24); (try clear c25); (try clear c26); (try clear c26b0); (try clear c32); (try clear c32b0); (try clear c40); (try clear c40b0); (try clear c40b1); (try clear hcz11_0); (try clear hcz11_1); (try clear hcz11_2); (try clear hcz11_3); (try clear hcz16_0); (try clear hcz16_1); (try clear hcz16_2); (try clear hcz16_3); (try clear hcz17_0); (try clear hcz17_1); (try clear hcz17_2); (try clear hcz17_3); (try clear hcz23_0); (try clear hcz23_1); (try clear hcz23_2); (try clear hcz23_3); (try clear hcz29_0); (try clear hcz29_1); (try clear hcz29_2); (try clear hcz29_3); (try clear hcz31_0); (try clear hcz31_1); (try clear hcz31_2); (try clear hcz31_3); (try clear hcz35_0); (try clear hcz35_1); (try clear hcz35_2); (try clear hcz35_3); (try clear hcz37_0); (try clear hcz37_1); (try clear hcz37_2); (try clear hcz37_3); (try clear hcz38_0); (try clear hcz38_1); (try clear hcz38_2); (try clear hcz38_3); (try clear hcz44_0); (try clear hcz44_1); (try clear hcz44_2); (try clear hcz44_3); (try clear hcz46_0); (try clear hcz46_1); (try clear hcz46_2); (try clear hcz46_3); (try clear hcz47_0); (try clear hcz47_1); (try clear hcz47_2); (try clear hcz47_3); (try clear hcz49_0); (try clear hcz49_1); (try clear hcz49_2); (try clear hcz49_3); (try clear hcz53_0); (try clear hcz53_1); (try clear hcz53_2); (try clear hcz53_3); (try clear hcz55_0); (try clear hcz55_1); (try clear hcz55_2); (try clear hcz55_3); (try clear hcz56_0); (try clear hcz56_1); (try clear hcz56_2); (try clear hcz56_3); (try clear hfz11_0); (try clear hfz11_1); (try clear hfz11_2); (try clear hfz11_3); (try clear hfz16_0); (try clear hfz16_1); (try clear hfz16_2); (try clear hfz16_3); (try clear hfz17_0); (try clear hfz17_1); (try clear hfz17_2); (try clear hfz17_3); (try clear hfz23_0); (try clear hfz23_1); (try clear hfz23_2); (try clear hfz23_3); (try clear hfz29_0); (try clear hfz29_1); (try clear hfz29_2); (try clear hfz29_3); (try clear hfz31_0); (try clear hfz31_1); (try clear hfz31_2); (try clear hfz31_3); (try clear hfz35_0); (try clear hfz35_1); (try clear hfz35_2); (try clear hfz35_3); (try clear hfz37_0); (try clear hfz37_1); (try clear hfz37_2); (try clear hfz37_3); (try clear hfz38_0); (try clear hfz38_1); (try clear hfz38_2); (try clear hfz38_3); (try clear hfz44_0); (try clear hfz44_1); (try clear hfz44_2); (try clear hfz44_3); (try clear hfz46_0); (try clear hfz46_1); (try clear hfz46_2); (try clear hfz46_3); (try clear hfz47_0); (try clear hfz47_1); (try clear hfz47_2); (try clear hfz47_3); (try clear hfz49_0); (try clear hfz49_1); (try clear hfz49_2); (try clear hfz49_3); (try clear hfz53_0); (try clear hfz53_1); (try clear hfz53_2); (try clear hfz53_3); (try clear hfz55_0); (try clear hfz55_1); (try clear hfz55_2); (try clear hfz55_3); (try clear hfz56_0); (try clear hfz56_1); (try clear hfz56_2); (try clear hfz56_3)
      obtain ⟨kq, x60_7, rfl, HA, HJ7, BK316, BK323, BK330, HB⟩ := hcut
      cases kq with
      | zero => exact absurd HA.out (by simp [laws_FnHashForms.j0])
      | succ kj7 =>
        have H := HA.out
        clear HA
        simp only [laws_FnHashForms.j0] at H
        by_cases c58 : x60_7 = true
        · subst c58
          rw [if_pos rfl] at H
          exact absurd ((Option.some.inj H).trans hr_) (by decide)
        · replace c58 := Bool.eq_false_iff.mpr c58
          subst c58
          rw [if_neg (show ¬ (false = true) by decide)] at H
          obtain ⟨t333, A59, H⟩ := bnd_ H
          obtain ⟨⟨t334, t335, t336, t337, t338⟩, A60, H⟩ := bnd_ H
          dsimp only at H
          obtain ⟨⟨t340, t341, t342, t343, t344⟩, A61, H⟩ := bnd_ H
          dsimp only at H
          have HC62 := Aside0.mk H
          clear H
          go_upto_region 11 with (first | ((with_reducible refine gate_callee (f := 12) rfl ?_); refine goL_ (some 62) Tryd.func12 #[.slice A0 l0.length c0] ?_; (with_reducible refine (spec_DrawHashRead.calls kj7 _ _ l0 t333 _ ?side1 ?side2 A59.out).mono ?_); (case side1 => repeat (first | exact (Kd.C_below HR0.out HB.out) | (with_reducible refine Kd.C_alloc ?_ _) | (with_reducible refine Kd.C_drewN ?_ _) | (with_reducible refine Kd.C_drew ?_))); (case side2 => exact HC0.out); rintro e w63 ⟨rfl, hb⟩; refine ⟨_, rfl, ?_⟩; replace BK316 := blkBel_ BK316.out hb; replace BK323 := blkBel_ BK323.out hb; replace BK330 := blkBel_ BK330.out hb; replace HB := stepB_ hb; (try clear hb)) | ((with_reducible refine gate_callee (f := 6) rfl ?_); refine goL_ (some 65) Tryd.func6 #[.string t333] ?_; (with_reducible refine (impl_HashRead.calls kj7 t333 t334 t335 t336 t337 t338 _ ea_ (pw_cell_below bel_ hE) A60.out).mono ?_); rintro e w64 ⟨rfl, hb⟩; refine ⟨_, rfl, ?_⟩; replace BK316 := blkBel_ BK316.out hb; replace BK323 := blkBel_ BK323.out hb; replace BK330 := blkBel_ BK330.out hb; replace HB := stepB_ hb; (try clear hb)) | ((with_reducible refine gate_dst (N := 9) rfl ?_); (try (refine gate_guard (by rfl) ?_; dsimp only)); refine boxE_ (cs := #[.int .u64 0, .int .u64 0, .int .u64 0, .int .u64 0]) (t := 24) ?_; intro gb339 hg w65 hbox hb; have BK339 := Aside0.mk (hbox); have GW339 := sizeB_ hg; have GE339 := sizeB_ hg; replace HB := stepB_ hb; have NB316_339 := neL_ BK316.out hg; have NB339_316 := neG_ BK316.out hg; replace BK316 := blkBel_ BK316.out hb; have NB323_339 := neL_ BK323.out hg; have NB339_323 := neG_ BK323.out hg; replace BK323 := blkBel_ BK323.out hb; have NB330_339 := neL_ BK330.out hg; have NB339_330 := neG_ BK330.out hg; replace BK330 := blkBel_ BK330.out hb; clear hb hbox hg; have hnb66 := NB339_316.out; have hnc66 := NB316_339.out; have hnb67 := NB339_323.out; have hnc67 := NB323_339.out; have hnb68 := NB339_330.out; have hnc68 := NB330_339.out; obtain ⟨hcz69_0, hcz69_1, hcz69_2, hcz69_3, hfz69_0, hfz69_1, hfz69_2, hfz69_3⟩ := cz4_ BK339.out) | ((with_reducible refine gate_callee (f := 5) rfl ?_); refine goL_ (some 70) Tryd.func5 #[.string t333] ?_; (with_reducible refine (spec_HashRead.calls kj7 t333 t340 t341 t342 t343 t344 _ A61.out).mono ?_); rintro e w70 ⟨rfl, hb⟩; refine ⟨_, rfl, ?_⟩; replace BK316 := blkBel_ BK316.out hb; replace BK323 := blkBel_ BK323.out hb; replace BK330 := blkBel_ BK330.out hb; replace BK339 := blkPB_ (cs := #[.int .u64 t334, .int .u64 t335, .int .u64 t336, .int .u64 t337]) BK339.out hb; replace HB := stepB_ hb; (try clear hb)) | ((with_reducible refine gate_dst (N := 11) rfl ?_); (try (refine gate_guard (by rfl) ?_; dsimp only)); refine boxE_ (cs := #[.int .u64 0, .int .u64 0, .int .u64 0, .int .u64 0]) (t := 24) ?_; intro gb345 hg w71 hbox hb; have BK345 := Aside0.mk (hbox); have GW345 := sizeB_ hg; have GE345 := sizeB_ hg; replace HB := stepB_ hb; have NB316_345 := neL_ BK316.out hg; have NB345_316 := neG_ BK316.out hg; replace BK316 := blkBel_ BK316.out hb; have NB323_345 := neL_ BK323.out hg; have NB345_323 := neG_ BK323.out hg; replace BK323 := blkBel_ BK323.out hb; have NB330_345 := neL_ BK330.out hg; have NB345_330 := neG_ BK330.out hg; replace BK330 := blkBel_ BK330.out hb; have NB339_345 := neL_ BK339.out hg; have NB345_339 := neG_ BK339.out hg; replace BK339 := blkBel_ BK339.out hb; clear hb hbox hg; have hnb72 := NB345_316.out; have hnc72 := NB316_345.out; have hnb73 := NB345_323.out; have hnc73 := NB323_345.out; have hnb74 := NB345_330.out; have hnc74 := NB330_345.out; have hnb75 := NB345_339.out; have hnc75 := NB339_345.out; obtain ⟨hcz76_0, hcz76_1, hcz76_2, hcz76_3, hfz76_0, hfz76_1, hfz76_2, hfz76_3⟩ := cz4_ BK345.out))
          (try simp only [Act.put, List.setIfInBounds_toArray, List.set_cons_zero, List.set_cons_succ])
          go_cut [84] (fun v84 wc => ∃ (kq : Nat) (x84_61 : Bool), v84 = .bool x84_61 ∧ Aside0 (laws_FnHashForms.j1 kq l0 x84_61 = some r) ∧ Aside0 (kq ≤ kj7) ∧ Aside0 (wc.heap[gb316]? = some (.cells #[.int .u64 t312, .int .u64 t313, .int .u64 t314, .int .u64 t315] 24 (0, 0))) ∧ Aside0 (wc.heap[gb323]? = some (.cells #[.int .u64 t318, .int .u64 t319, .int .u64 t320, .int .u64 t321] 24 (0, 0))) ∧ Aside0 (wc.heap[gb330]? = some (.cells #[.int .u64 t325, .int .u64 t326, .int .u64 t327, .int .u64 t328] 24 (0, 0))) ∧ Aside0 (wc.heap[gb339]? = some (.cells #[.int .u64 t334, .int .u64 t335, .int .u64 t336, .int .u64 t337] 24 (0, 0))) ∧ Aside0 (wc.heap[gb345]? = some (.cells #[.int .u64 t340, .int .u64 t341, .int .u64 t342, .int .u64 t343] 24 (0, 0))) ∧ Aside0 (Below w.heap.size w wc))
          case first =>
            have H := HC62.out
            clear HC62
            by_cases c77 : (t338 != t344) = true
            · rw [if_pos c77] at H
              have c77b0 : (t338 != t344) = true := c77
              (try (have c77b1 : decide (t338 = t344) = false := by simpa using c77))
              (try (have c77b2 : (t338 == t344) = false := by simpa using c77))
              (try (have c77b3 : ¬ (t338 = t344) := by simpa using c77))
              clear c77
              (first | rw [c77b0] | (simp only [i64_w, i32_w]; rw [c77b0]) | skip)
              have H' := Aside0.mk H
              clear H
              go_wp2
              go_meet
              case rel => exact ⟨_, (true), (by first | rfl | (simp; done) | (simp [*]; done)), H', ⟨by have := HJ7.out; first | omega | exact Nat.le_refl _⟩, ⟨blkU_ BK316.out⟩, ⟨blkU_ BK323.out⟩, ⟨blkU_ BK330.out⟩, ⟨blkU_ BK339.out⟩, ⟨blkF_ BK345.out⟩, ⟨bel_⟩⟩
            · rw [if_neg c77] at H
              have c77b0 : (t338 != t344) = false := by simpa using c77
              (try (have c77b1 : decide (t338 = t344) = true := by simpa using c77))
              (try (have c77b2 : (t338 == t344) = true := by simpa using c77))
              clear c77
              (first | rw [c77b0] | (simp only [i64_w, i32_w]; rw [c77b0]) | skip)
              by_cases c78 : t338 = true
              · subst c78
                rw [if_pos rfl] at H
                obtain ⟨t346, A79, H⟩ := bnd_ H
                have H' := Aside0.mk H
                clear H
                have hnb80 := NB339_316.out
                have hnc80 := NB316_339.out
                have hnb81 := NB339_323.out
                have hnc81 := NB323_339.out
                have hnb82 := NB339_330.out
                have hnc82 := NB330_339.out
                have hnb83 := NB339_345.out
                have hnc83 := NB345_339.out
                obtain ⟨hcz84_0, hcz84_1, hcz84_2, hcz84_3, hfz84_0, hfz84_1, hfz84_2, hfz84_3⟩ := cz4_ BK339.out
                go_wp2_with (first | (go_at_call 11; (with_reducible refine (impl_HashText.calls kj7 t334 t335 t336 t337 t346 _ A79.out).mono ?_); rintro e w85 ⟨rfl, hb⟩; replace BK316 := blkBel_ BK316.out hb; replace BK323 := blkBel_ BK323.out hb; replace BK330 := blkBel_ BK330.out hb; replace BK339 := blkBel_ BK339.out hb; replace BK345 := blkPB_ (cs := #[.int .u64 t340, .int .u64 t341, .int .u64 t342, .int .u64 t343]) BK345.out hb; replace HB := stepB_ hb; (try clear hb)))
                go_meet
                case rel => exact ⟨_, ((t346.toList != t333.toList)), (by first | rfl | (simp; done) | (simp [*]; done)), H', ⟨by have := HJ7.out; first | omega | exact Nat.le_refl _⟩, ⟨blkU_ BK316.out⟩, ⟨blkU_ BK323.out⟩, ⟨blkU_ BK330.out⟩, ⟨blkU_ BK339.out⟩, ⟨blkU_ BK345.out⟩, ⟨bel_⟩⟩
              · replace c78 := Bool.eq_false_iff.mpr c78
                subst c78
                rw [if_neg (show ¬ (false = true) by decide)] at H
                have H' := Aside0.mk H
                clear H
                go_wp2
                go_meet
                case rel => exact ⟨_, (false), (by first | rfl | (simp; done) | (simp [*]; done)), H', ⟨by have := HJ7.out; first | omega | exact Nat.le_refl _⟩, ⟨blkU_ BK316.out⟩, ⟨blkU_ BK323.out⟩, ⟨blkU_ BK330.out⟩, ⟨blkU_ BK339.out⟩, ⟨blkF_ BK345.out⟩, ⟨bel_⟩⟩
          case rest =>
            clear HC62
            (try clear c2); (try clear c2b0); (try clear c2b1); (try clear c24); (try clear c25); (try clear c26); (try clear c26b0); (try clear c32); (try clear c32b0); (try clear c40); (try clear c40b0); (try clear c40b1); (try clear c58); (try clear c77); (try clear c77b0); (try clear c77b1); (try clear c77b2); (try clear c78); (try clear hcz11_0); (try clear hcz11_1); (try clear hcz11_2); (try clear hcz11_3); (try clear hcz16_0); (try clear hcz16_1); (try clear hcz16_2); (try clear hcz16_3); (try clear hcz17_0); (try clear hcz17_1); (try clear hcz17_2); (try clear hcz17_3); (try clear hcz23_0); (try clear hcz23_1); (try clear hcz23_2); (try clear hcz23_3); (try clear hcz29_0); (try clear hcz29_1); (try clear hcz29_2); (try clear hcz29_3); (try clear hcz31_0); (try clear hcz31_1); (try clear hcz31_2); (try clear hcz31_3); (try clear hcz35_0); (try clear hcz35_1); (try clear hcz35_2); (try clear hcz35_3); (try clear hcz37_0); (try clear hcz37_1); (try clear hcz37_2); (try clear hcz37_3); (try clear hcz38_0); (try clear hcz38_1); (try clear hcz38_2); (try clear hcz38_3); (try clear hcz44_0); (try clear hcz44_1); (try clear hcz44_2); (try clear hcz44_3); (try clear hcz46_0); (try clear hcz46_1); (try clear hcz46_2); (try clear hcz46_3); (try clear hcz47_0); (try clear hcz47_1); (try clear hcz47_2); (try clear hcz47_3); (try clear hcz49_0); (try clear hcz49_1); (try clear hcz49_2); (try clear hcz49_3); (try clear hcz53_0); (try clear hcz53_1); (try clear hcz53_2); (try clear hcz53_3); (try clear hcz55_0); (try clear hcz55_1); (try clear hcz55_2); (try clear hcz55_3); (try clear hcz56_0); (try clear hcz56_1); (try clear hcz56_2); (try clear hcz56_3); (try clear hcz69_0); (try clear hcz69_1); (try clear hcz69_2); (try clear hcz69_3); (try clear hcz76_0); (try clear hcz76_1); (try clear hcz76_2); (try clear hcz76_3); (try clear hcz84_0); (try clear hcz84_1); (try clear hcz84_2); (try clear hcz84_3); (try clear hfz11_0); (try clear hfz11_1); (try clear hfz11_2); (try clear hfz11_3); (try clear hfz16_0); (try clear hfz16_1); (try clear hfz16_2); (try clear hfz16_3); (try clear hfz17_0); (try clear hfz17_1); (try clear hfz17_2); (try clear hfz17_3); (try clear hfz23_0); (try clear hfz23_1); (try clear hfz23_2); (try clear hfz23_3); (try clear hfz29_0); (try clear hfz29_1); (try clear hfz29_2); (try clear hfz29_3); (try clear hfz31_0); (try clear hfz31_1); (try clear hfz31_2); (try clear hfz31_3); (try clear hfz35_0); (try clear hfz35_1); (try clear hfz35_2); (try clear hfz35_3); (try clear hfz37_0); (try clear hfz37_1); (try clear hfz37_2); (try clear hfz37_3); (try clear hfz38_0); (try clear hfz38_1); (try clear hfz38_2); (try clear hfz38_3); (try clear hfz44_0); (try clear hfz44_1); (try clear hfz44_2); (try clear hfz44_3); (try clear hfz46_0); (try clear hfz46_1); (try clear hfz46_2); (try clear hfz46_3); (try clear hfz47_0); (try clear hfz47_1); (try clear hfz47_2); (try clear hfz47_3); (try clear hfz49_0); (try clear hfz49_1); (try clear hfz49_2); (try clear hfz49_3); (try clear hfz53_0); (try clear hfz53_1); (try clear hfz53_2); (try clear hfz53_3); (try clear hfz55_0); (try clear hfz55_1); (try clear hfz55_2); (try clear hfz55_3); (try clear hfz56_0); (try clear hfz56_1); (try clear hfz56_2); (try clear hfz56_3); (try clear hfz69_0); (try clear hfz69_1); (try clear hfz69_2); (try clear hfz69_3); (try clear hfz76_0); (try clear hfz76_1); (try clear hfz76_2); (try clear hfz76_3); (try clear hfz84_0); (try clear hfz84_1); (try clear hfz84_2); (try clear hfz84_3)
            obtain ⟨kq, x84_61, rfl, HA, HJ61, BK316, BK323, BK330, BK339, BK345, HB⟩ := hcut
            cases kq with
            | zero => exact absurd HA.out (by simp [laws_FnHashForms.j1])
            | succ kj61 =>
              have H := HA.out
              clear HA
              simp only [laws_FnHashForms.j1] at H
              by_cases c86 : x84_61 = true
              · subst c86
                rw [if_pos rfl] at H
                exact absurd ((Option.some.inj H).trans hr_) (by decide)
              · replace c86 := Bool.eq_false_iff.mpr c86
                subst c86
                rw [if_neg (show ¬ (false = true) by decide)] at H
                obtain ⟨t347, A87, H⟩ := bnd_ H
                obtain ⟨⟨t348, t349, t350, t351, t352⟩, A88, H⟩ := bnd_ H
                dsimp only at H
                by_cases c89 : (t352 == ((t347.size : Int) == 32)) = true
                · rw [if_pos c89] at H
                  have c89b0 : (t352 == ((t347.size : Int) == 32)) = true := c89
                  (try (have c89b1 : decide (t352 = ((t347.size : Int) == 32)) = true := by simpa using c89))
                  (try (have c89b2 : (t352 == ((t347.size : Int) == 32)) = true := by simpa using c89))
                  clear c89
                  by_cases c90 : t352 = true
                  · subst c90
                    rw [if_pos rfl] at H
                    obtain ⟨t354, A91, H⟩ := bnd_ H
                    obtain rfl := Option.some.inj H
                    go_wp2_with (first | ((with_reducible refine gate_callee (f := 13) rfl ?_); refine goL_ (some 86) Tryd.func13 #[.slice A0 l0.length c0] ?_; (with_reducible refine (spec_DrawHashBack.calls kj61 _ _ l0 t347 _ ?side1 ?side2 A87.out).mono ?_); (case side1 => repeat (first | exact (Kd.C_below HR0.out HB.out) | (with_reducible refine Kd.C_alloc ?_ _) | (with_reducible refine Kd.C_drewN ?_ _) | (with_reducible refine Kd.C_drew ?_))); (case side2 => exact HC0.out); rintro e w92 ⟨rfl, hb⟩; refine ⟨_, rfl, ?_⟩; replace BK316 := blkBel_ BK316.out hb; replace BK323 := blkBel_ BK323.out hb; replace BK330 := blkBel_ BK330.out hb; replace BK339 := blkBel_ BK339.out hb; replace BK345 := blkBel_ BK345.out hb; replace HB := stepB_ hb; (try clear hb)) | ((with_reducible refine gate_callee (f := 9) rfl ?_); refine goL_ (some 89) Tryd.func9 #[.string t347] ?_; (with_reducible refine (impl_HashBack.calls t347 t348 t349 t350 t351 true _ A88.out).mono ?_); rintro e w93 ⟨rfl, hb⟩; refine ⟨_, rfl, ?_⟩; replace BK316 := blkBel_ BK316.out hb; replace BK323 := blkBel_ BK323.out hb; replace BK330 := blkBel_ BK330.out hb; replace BK339 := blkBel_ BK339.out hb; replace BK345 := blkBel_ BK345.out hb; replace HB := stepB_ hb; (try clear hb)) | ((with_reducible refine gate_dst (N := 14) rfl ?_); (try (refine gate_guard (by rfl) ?_; dsimp only)); refine boxE_ (cs := #[.int .u64 0, .int .u64 0, .int .u64 0, .int .u64 0]) (t := 24) ?_; intro gb353 hg w94 hbox hb; have BK353 := Aside0.mk (hbox); have GW353 := sizeB_ hg; have GE353 := sizeB_ hg; replace HB := stepB_ hb; have NB316_353 := neL_ BK316.out hg; have NB353_316 := neG_ BK316.out hg; replace BK316 := blkBel_ BK316.out hb; have NB323_353 := neL_ BK323.out hg; have NB353_323 := neG_ BK323.out hg; replace BK323 := blkBel_ BK323.out hb; have NB330_353 := neL_ BK330.out hg; have NB353_330 := neG_ BK330.out hg; replace BK330 := blkBel_ BK330.out hb; have NB339_353 := neL_ BK339.out hg; have NB353_339 := neG_ BK339.out hg; replace BK339 := blkBel_ BK339.out hb; have NB345_353 := neL_ BK345.out hg; have NB353_345 := neG_ BK345.out hg; replace BK345 := blkBel_ BK345.out hb; clear hb hbox hg; have hnb95 := NB353_316.out; have hnc95 := NB316_353.out; have hnb96 := NB353_323.out; have hnc96 := NB323_353.out; have hnb97 := NB353_330.out; have hnc97 := NB330_353.out; have hnb98 := NB353_339.out; have hnc98 := NB339_353.out; have hnb99 := NB353_345.out; have hnc99 := NB345_353.out; obtain ⟨hcz100_0, hcz100_1, hcz100_2, hcz100_3, hfz100_0, hfz100_1, hfz100_2, hfz100_3⟩ := cz4_ BK353.out) | (go_at_call 10; (with_reducible refine (impl_HashBytes.calls kj61 t348 t349 t350 t351 t354 _ A91.out).mono ?_); rintro e w101 ⟨rfl, hb⟩; replace BK316 := blkBel_ BK316.out hb; replace BK323 := blkBel_ BK323.out hb; replace BK330 := blkBel_ BK330.out hb; replace BK339 := blkBel_ BK339.out hb; replace BK345 := blkBel_ BK345.out hb; replace BK353 := blkPB_ (cs := #[.int .u64 t348, .int .u64 t349, .int .u64 t350, .int .u64 t351]) BK353.out hb; replace HB := stepB_ hb; (try clear hb)))
                    go_ret
                    exact ⟨rfl_, bel_⟩
                  · replace c90 := Bool.eq_false_iff.mpr c90
                    subst c90
                    rw [if_neg (show ¬ (false = true) by decide)] at H
                    obtain rfl := Option.some.inj H
                    go_wp2_with (first | ((with_reducible refine gate_callee (f := 13) rfl ?_); refine goL_ (some 86) Tryd.func13 #[.slice A0 l0.length c0] ?_; (with_reducible refine (spec_DrawHashBack.calls kj61 _ _ l0 t347 _ ?side1 ?side2 A87.out).mono ?_); (case side1 => repeat (first | exact (Kd.C_below HR0.out HB.out) | (with_reducible refine Kd.C_alloc ?_ _) | (with_reducible refine Kd.C_drewN ?_ _) | (with_reducible refine Kd.C_drew ?_))); (case side2 => exact HC0.out); rintro e w102 ⟨rfl, hb⟩; refine ⟨_, rfl, ?_⟩; replace BK316 := blkBel_ BK316.out hb; replace BK323 := blkBel_ BK323.out hb; replace BK330 := blkBel_ BK330.out hb; replace BK339 := blkBel_ BK339.out hb; replace BK345 := blkBel_ BK345.out hb; replace HB := stepB_ hb; (try clear hb)) | ((with_reducible refine gate_callee (f := 9) rfl ?_); refine goL_ (some 89) Tryd.func9 #[.string t347] ?_; (with_reducible refine (impl_HashBack.calls t347 t348 t349 t350 t351 false _ A88.out).mono ?_); rintro e w103 ⟨rfl, hb⟩; refine ⟨_, rfl, ?_⟩; replace BK316 := blkBel_ BK316.out hb; replace BK323 := blkBel_ BK323.out hb; replace BK330 := blkBel_ BK330.out hb; replace BK339 := blkBel_ BK339.out hb; replace BK345 := blkBel_ BK345.out hb; replace HB := stepB_ hb; (try clear hb)) | ((with_reducible refine gate_dst (N := 14) rfl ?_); (try (refine gate_guard (by rfl) ?_; dsimp only)); refine boxE_ (cs := #[.int .u64 0, .int .u64 0, .int .u64 0, .int .u64 0]) (t := 24) ?_; intro gb353 hg w104 hbox hb; have BK353 := Aside0.mk (hbox); have GW353 := sizeB_ hg; have GE353 := sizeB_ hg; replace HB := stepB_ hb; have NB316_353 := neL_ BK316.out hg; have NB353_316 := neG_ BK316.out hg; replace BK316 := blkBel_ BK316.out hb; have NB323_353 := neL_ BK323.out hg; have NB353_323 := neG_ BK323.out hg; replace BK323 := blkBel_ BK323.out hb; have NB330_353 := neL_ BK330.out hg; have NB353_330 := neG_ BK330.out hg; replace BK330 := blkBel_ BK330.out hb; have NB339_353 := neL_ BK339.out hg; have NB353_339 := neG_ BK339.out hg; replace BK339 := blkBel_ BK339.out hb; have NB345_353 := neL_ BK345.out hg; have NB353_345 := neG_ BK345.out hg; replace BK345 := blkBel_ BK345.out hb; clear hb hbox hg; have hnb105 := NB353_316.out; have hnc105 := NB316_353.out; have hnb106 := NB353_323.out; have hnc106 := NB323_353.out; have hnb107 := NB353_330.out; have hnc107 := NB330_353.out; have hnb108 := NB353_339.out; have hnc108 := NB339_353.out; have hnb109 := NB353_345.out; have hnc109 := NB345_353.out; obtain ⟨hcz110_0, hcz110_1, hcz110_2, hcz110_3, hfz110_0, hfz110_1, hfz110_2, hfz110_3⟩ := cz4_ BK353.out))
                    go_ret
                    exact ⟨rfl_, bel_⟩
                · rw [if_neg c89] at H
                  have c89b0 : (t352 == ((t347.size : Int) == 32)) = false := by simpa using c89
                  (try (have c89b1 : decide (t352 = ((t347.size : Int) == 32)) = false := by simpa using c89))
                  (try (have c89b2 : (t352 == ((t347.size : Int) == 32)) = false := by simpa using c89))
                  (try (have c89b3 : ¬ (t352 = ((t347.size : Int) == 32)) := by simpa using c89))
                  clear c89
                  exact absurd ((Option.some.inj H).trans hr_) (by decide)
end
end Go.Proofs.YtflcbanemolkfaaDoor.B
