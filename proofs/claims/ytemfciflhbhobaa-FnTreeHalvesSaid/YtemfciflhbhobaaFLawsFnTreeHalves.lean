/- What the Go functions loop.example/belfry/laws.FnTreeHalves do is what the Lean functions .f of their names here say; condition: .f gives an answer. (Written by the session's program pp.py over the kit's print; Lean checks it.) -/
import Derived.Test.YtemfciflhbhobaaK
import Derived.Test.YtemfciflhbhobaaM
import Derived.Test.YtemfciflhbhobaaFImplTreeRoot
import Derived.Test.YtemfciflhbhobaaFSpecDrawTreeRoot
import Derived.Test.YtemfciflhbhobaaGEq1
import Derived.Test.YtemfciflhbhobaaGImplPair1
import Derived.Test.YtemfciflhbhobaaGPoint1
import Derived.Test.YtemfciflhbhobaaGSplit1
import Derived.Test.YtemfciflhbhobaaGTree1
namespace Go.Proofs.Ytemfciflhbhobaa.B
open Go.RowKit Go.Proofs.YtemfciflhbhobaaW.PrintWords Go.Proofs.YtemfciflhbhobaaW.PrintLast Go.Proofs.YtemfciflhbhobaaW.PrintMore
attribute [local go_sem] max2_int min2_int max_two min_two max_three min_three max_four min_four   -- for this text's walks alone
set_option linter.unusedVariables false
set_option linter.unusedSimpArgs false

section
attribute [local go_sem high] eqA29 eqA31
/-! ### laws_FnTreeHalves: function 9 -/
mutual
def laws_FnTreeHalves.j0 : Nat → List ByteArray → Bool → Option (Bool)
  | 0, _, _ => none
  | k + 1, x3, x18 => if x18 = true then ((impl_TreePoint.f k x3).bind fun bt1201 => ((spec_TreePoint.f k x3).bind fun bt1206 => (some (bt1201.1 == bt1206.1 && ((bt1201.2.1 == bt1206.2.1 && (bt1201.2.2.1 == bt1206.2.2.1 && (bt1201.2.2.2.1 == bt1206.2.2.2.1 && (bt1201.2.2.2.2 == bt1206.2.2.2.2))))))))) else ((impl_TreeSplit.f k (x3.length : Int)).bind fun t1211 => ((spec_TreeSplit.f k (x3.length : Int)).bind fun t1212 => (if t1211 = t1212 then (if t1211 < 1 then (laws_FnTreeHalves.j1 k x3 true) else (if t1211 ≥ (x3.length : Int) then (laws_FnTreeHalves.j1 k x3 true) else ((impl_TreeRoot.f k x3).bind fun bt1213 => (if 0 ≤ t1211 then (if t1211 ≤ (x3.length : Int) then ((impl_TreeRoot.f k (x3.take (t1211 : Int).toNat)).bind fun bt1221 => ((impl_TreeRoot.f k (x3.drop (t1211 : Int).toNat)).bind fun bt1229 => ((impl_HashPair.f k bt1221.1 bt1221.2.1 bt1221.2.2.1 bt1221.2.2.2 bt1229.1 bt1229.2.1 bt1229.2.2.1 bt1229.2.2.2).bind fun bt1233 => (laws_FnTreeHalves.j1 k x3 (!(bt1213.1 == bt1233.1) || (!(bt1213.2.1 == bt1233.2.1) || (!(bt1213.2.2.1 == bt1233.2.2.1) || (!(bt1213.2.2.2 == bt1233.2.2.2))))))))) else (none)) else (none))))) else (laws_FnTreeHalves.j1 k x3 true))))
def laws_FnTreeHalves.j1 : Nat → List ByteArray → Bool → Option (Bool)
  | 0, _, _ => none
  | k + 1, x3, x55 => if x55 = true then (some false) else ((impl_TreePoint.f k x3).bind fun bt1237 => (if bt1237.1 = (x3.length : Int) then ((impl_TreeRoot.f k x3).bind fun bt1243 => (some (bt1237.2.1 == bt1243.1 && (bt1237.2.2.1 == bt1243.2.1 && (bt1237.2.2.2.1 == bt1243.2.2.1 && (bt1237.2.2.2.2 == bt1243.2.2.2)))))) else (some false)))
end
def laws_FnTreeHalves.f (k : Nat) (l0 : List Int) : Option (Bool) := if (l0.length : Int) > 1048576 then (some true) else ((spec_DrawTreeRoot.f k l0).bind fun t1197 => ((spec_LeavesOk.f k t1197).bind fun t1200 => (if t1200 = true then (laws_FnTreeHalves.j0 k t1197 (decide ((t1197.length : Int) < 2))) else (laws_FnTreeHalves.j0 k t1197 true))))
theorem laws_FnTreeHalves.mono_l : ∀ k, (∀ y0 y1, LeO (laws_FnTreeHalves.j0 k y0 y1) (laws_FnTreeHalves.j0 (k + 1) y0 y1)) ∧ (∀ y0 y1, LeO (laws_FnTreeHalves.j1 k y0 y1) (laws_FnTreeHalves.j1 (k + 1) y0 y1))
  | 0 => ⟨fun _ _ r h => by simp [laws_FnTreeHalves.j0] at h, fun _ _ r h => by simp [laws_FnTreeHalves.j1] at h⟩
  | k + 1 => by
    obtain ⟨ih0, ih1⟩ := laws_FnTreeHalves.mono_l k
    refine ⟨?_, ?_⟩
    · intro y0 y1
      unfold laws_FnTreeHalves.j0
      repeat' first | (with_reducible first | exact ih0 _ _ | exact ih1 _ _ | exact impl_HashPair.mono _ _ _ _ _ _ _ _ _ | exact impl_TreePoint.mono _ _ | exact impl_TreeRoot.mono _ _ | exact impl_TreeSplit.mono _ _ | exact spec_DrawTreeRoot.mono _ _ | exact spec_LeavesOk.mono _ _ | exact spec_TreePoint.mono _ _ | exact spec_TreeSplit.mono _ _ | exact LeO.refl _ | exact LeO.none _ | refine LeO.ite ?_ ?_ | refine LeO.bind ?_ (fun _ => ?_)) | exact ih0 _ _ | exact ih1 _ _ | exact LeO.none _ | refine LeO.ite ?_ ?_ | refine LeO.bind ?_ (fun _ => ?_)
    · intro y0 y1
      unfold laws_FnTreeHalves.j1
      repeat' first | (with_reducible first | exact ih0 _ _ | exact ih1 _ _ | exact impl_HashPair.mono _ _ _ _ _ _ _ _ _ | exact impl_TreePoint.mono _ _ | exact impl_TreeRoot.mono _ _ | exact impl_TreeSplit.mono _ _ | exact spec_DrawTreeRoot.mono _ _ | exact spec_LeavesOk.mono _ _ | exact spec_TreePoint.mono _ _ | exact spec_TreeSplit.mono _ _ | exact LeO.refl _ | exact LeO.none _ | refine LeO.ite ?_ ?_ | refine LeO.bind ?_ (fun _ => ?_)) | exact ih0 _ _ | exact ih1 _ _ | exact LeO.none _ | refine LeO.ite ?_ ?_ | refine LeO.bind ?_ (fun _ => ?_)
theorem laws_FnTreeHalves.mono : ∀ a0 k, LeO (laws_FnTreeHalves.f k a0) (laws_FnTreeHalves.f (k + 1) a0) := by
  intro a0 k
  obtain ⟨ih0, ih1⟩ := laws_FnTreeHalves.mono_l k
  unfold laws_FnTreeHalves.f
  repeat' first | (with_reducible first | exact ih0 _ _ | exact ih1 _ _ | exact impl_HashPair.mono _ _ _ _ _ _ _ _ _ | exact impl_TreePoint.mono _ _ | exact impl_TreeRoot.mono _ _ | exact impl_TreeSplit.mono _ _ | exact spec_DrawTreeRoot.mono _ _ | exact spec_LeavesOk.mono _ _ | exact spec_TreePoint.mono _ _ | exact spec_TreeSplit.mono _ _ | exact LeO.refl _ | exact LeO.none _ | refine LeO.ite ?_ ?_ | refine LeO.bind ?_ (fun _ => ?_)) | exact ih0 _ _ | exact ih1 _ _ | exact LeO.none _ | refine LeO.ite ?_ ?_ | refine LeO.bind ?_ (fun _ => ?_)
def laws_FnTreeHalves.T7 : Bool × List (List Nat × List Nat) := (true, [([], []), ([], []), ([1], [1]), ([2], [2]), ([0, 3], [0, 3]), ([4, 3], [4]), ([5], [5]), ([6, 5], [5, 6]), ([5, 7], [5, 7]), ([8, 5], [8]), ([9], [9]), ([9], [9]), ([11, 9], [9, 11]), ([10, 12, 9], [9, 10, 12]), ([9, 13], [9, 13]), ([14, 9], [14]), ([15], [15]), ([16, 15, 15], [15, 16]), ([15], [15]), ([15], [15]), ([18, 19, 15], [15, 18, 19]), ([20, 17, 15], [15, 20]), ([15], [15]), ([15], [15]), ([22, 23, 15], [15, 22, 23]), ([24, 21, 15], [15, 24]), ([21, 25, 25, 15], [15, 21, 25]), ([17, 26, 15], [15, 17, 26]), ([15, 27], [15, 27])])
def laws_FnTreeHalves.B7 : List Nat := [0, 0, 2, 6, 15, 31, 63, 127, 255, 511, 1023, 1023, 3071, 8191, 16383, 32767, 65535, 131071, 65535, 65535, 851967, 2097151, 65535, 65535, 12648447, 33554431, 67108863, 134217727, 268435455]
theorem laws_FnTreeHalves.tab7 : rtab .any (opsOf Try.f9 7) = laws_FnTreeHalves.T7 := by kernel_rfl
theorem laws_FnTreeHalves.bits7 : waitsOk laws_FnTreeHalves.T7.2 laws_FnTreeHalves.B7 = true := by kernel_rfl
def laws_FnTreeHalves.T10 : Bool × List (List Nat × List Nat) := (true, [([], []), ([0], [0]), ([], []), ([2], [2]), ([1, 3], [1, 3]), ([4], [4]), ([5], [5]), ([6, 5], [5, 6]), ([5], [5]), ([8, 5, 5], [5, 8]), ([7, 9, 5], [5, 7, 9]), ([5, 10], [5, 10]), ([11, 9, 0, 1, 2, 3, 4, 5, 6, 7, 8, 9, 10, 11], [11])])
def laws_FnTreeHalves.B10 : List Nat := [0, 1, 0, 4, 15, 31, 63, 127, 63, 319, 1023, 2047, 4095]
theorem laws_FnTreeHalves.tab10 : rtab .any (opsOf Try.f9 10) = laws_FnTreeHalves.T10 := by kernel_rfl
theorem laws_FnTreeHalves.bits10 : waitsOk laws_FnTreeHalves.T10.2 laws_FnTreeHalves.B10 = true := by kernel_rfl
theorem drawnR_ {α : Type} {d : Kd α} {e b : Nat} {o : Nat → Prop} {v : Value} {x : List α} {w w' : World} (h : d.R e w b o v x) (hd : Drawn0 w w') : Aside0 (d.R e w' b o v x) := by obtain ⟨n, rfl⟩ := hd; exact ⟨by apply Kd.R_drewN; exact h⟩
set_option maxHeartbeats 8000000 in
set_option maxRecDepth 100000 in
theorem laws_FnTreeHalves.calls (k : Nat) (A0 : Option Addr) (c0 : Nat) (l0 : List Int) (r : Bool) (hr_ : r = true) (w : World) (hr0 : Kd.C (Kd.int .u8) w A0 l0.length l0) (hc0 : l0.length ≤ c0) (h : laws_FnTreeHalves.f k l0 = some r) :
    Calls Try.prog 9 #[.slice A0 l0.length c0] w fun e w' => e = .returned (.bool r) ∧ Below w.heap.size w w' := by
  have hu31 := Try.underlying31
  have hu29 := Try.underlying29
  have HR0 := Aside0.mk hr0
  have HC0 := Aside0.mk hc0
  clear hr0 hc0
  have HB := Aside0.mk (Below.refl w.heap.size w)
  have H : (if (l0.length : Int) > 1048576 then (some true) else ((spec_DrawTreeRoot.f k l0).bind fun t1197 => ((spec_LeavesOk.f k t1197).bind fun t1200 => (if t1200 = true then (laws_FnTreeHalves.j0 k t1197 (decide ((t1197.length : Int) < 2))) else (laws_FnTreeHalves.j0 k t1197 true))))) = some r := h
  clear h
  by_cases c2 : (l0.length : Int) > 1048576
  · rw [if_pos c2] at H
    have c2b0 : decide (1048576 < (l0.length : Int)) = true := decide_eq_true c2
    have c2b1 : decide (1048576 < l0.length) = true := decide_eq_true (by omega)
    clear c2
    obtain rfl := Option.some.inj H
    go_enter Try.func9, Try.ntmps9
    go_wp2
    go_ret
    exact ⟨rfl_, bel_⟩
  · rw [if_neg c2] at H
    have c2b0 : decide (1048576 < (l0.length : Int)) = false := decide_eq_false c2
    have c2b1 : decide (1048576 < l0.length) = false := decide_eq_false (by omega)
    clear c2
    obtain ⟨t1197, A3, H⟩ := bnd_ H
    have HC4 := Aside0.mk H
    clear H
    go_enter Try.func9, Try.ntmps9
    go_upto_region 4 with (first | ((with_reducible refine gate_callee (f := 52) rfl ?_); refine goL_ (some 10) Try.func52 #[.slice A0 l0.length c0] ?_; (with_reducible refine (spec_DrawTreeRoot.calls k _ _ l0 t1197 _ ?side1 ?side2 A3.out).mono ?_); (case side1 => repeat (first | exact HR0.out | (with_reducible refine Kd.C_alloc ?_ _) | (with_reducible refine Kd.C_drewN ?_ _) | (with_reducible refine Kd.C_drew ?_))); (case side2 => exact HC0.out); rintro e w5 ⟨v1198, rfl, ho0, hb⟩; refine ⟨_, rfl, ?_⟩; have HO1199 := Aside0.mk (Kd.R_lower ho0 (below_size bel_)); replace HB := stepB_ hb; (try clear hb); (try clear ho0)))
    (try simp only [Act.put, List.setIfInBounds_toArray, List.set_cons_zero, List.set_cons_succ])
    go_cut [18] (fun v18 wc => ∃ (kq : Nat) (x18_3 : Bool), v18 = .bool x18_3 ∧ Aside0 (laws_FnTreeHalves.j0 kq t1197 x18_3 = some r) ∧ Aside0 (kq ≤ k) ∧ Aside0 (Kd.R Kd.string 9 wc w.heap.size (fun _ => True) v1198 t1197) ∧ Aside0 (Below w.heap.size w wc))
    case first =>
      have H := HC4.out
      clear HC4
      obtain ⟨t1200, A6, H⟩ := bnd_ H
      by_cases c7 : t1200 = true
      · subst c7
        rw [if_pos rfl] at H
        have H' := Aside0.mk H
        clear H
        obtain ⟨Ao8, co8, eo8⟩ := Kd.R_slice HO1199.out
        subst eo8
        go_wp2_with (first | ((with_reducible refine gate_callee (f := 53) rfl ?_); refine goL_ (some 12) Try.func53 #[.slice Ao8 t1197.length co8] ?_; (with_reducible refine (spec_LeavesOk.calls k _ _ t1197 true _ ?side1 ?side2 A6.out).mono ?_); (case side1 => repeat (first | exact (Kd.R_reads' HO1199.out).2.2 | (with_reducible refine Kd.C_alloc ?_ _) | (with_reducible refine Kd.C_drewN ?_ _) | (with_reducible refine Kd.C_drew ?_))); (case side2 => exact (Kd.R_reads' HO1199.out).2.1); rintro e w' ⟨rfl, ⟨nd, rfl⟩⟩; refine ⟨_, rfl, ?_⟩))
        go_meet
        case rel => exact ⟨_, (decide ((t1197.length : Int) < 2)), (by first | rfl | (simp; done) | (simp [*]; done)), H', ⟨by first | omega | exact Nat.le_refl _⟩, ⟨kdU_ HO1199.out⟩, ⟨bel_⟩⟩
      · replace c7 := Bool.eq_false_iff.mpr c7
        subst c7
        rw [if_neg (show ¬ (false = true) by decide)] at H
        have H' := Aside0.mk H
        clear H
        obtain ⟨Ao9, co9, eo9⟩ := Kd.R_slice HO1199.out
        subst eo9
        go_wp2_with (first | ((with_reducible refine gate_callee (f := 53) rfl ?_); refine goL_ (some 12) Try.func53 #[.slice Ao9 t1197.length co9] ?_; (with_reducible refine (spec_LeavesOk.calls k _ _ t1197 false _ ?side1 ?side2 A6.out).mono ?_); (case side1 => repeat (first | exact (Kd.R_reads' HO1199.out).2.2 | (with_reducible refine Kd.C_alloc ?_ _) | (with_reducible refine Kd.C_drewN ?_ _) | (with_reducible refine Kd.C_drew ?_))); (case side2 => exact (Kd.R_reads' HO1199.out).2.1); rintro e w' ⟨rfl, ⟨nd, rfl⟩⟩; refine ⟨_, rfl, ?_⟩))
        go_meet
        case rel => exact ⟨_, (true), (by first | rfl | (simp; done) | (simp [*]; done)), H', ⟨by first | omega | exact Nat.le_refl _⟩, ⟨kdU_ HO1199.out⟩, ⟨bel_⟩⟩
    case rest =>
      clear HC4
      (try clear c2); (try clear c2b0); (try clear c2b1); (try clear c7)
      obtain ⟨kq, x18_3, rfl, HA, HJ3, HO_3, HB⟩ := hcut
      cases kq with
      | zero => exact absurd HA.out (by simp [laws_FnTreeHalves.j0])
      | succ kj3 =>
        have H := HA.out
        clear HA
        simp only [laws_FnTreeHalves.j0] at H
        by_cases c10 : x18_3 = true
        · subst c10
          rw [if_pos rfl] at H
          obtain ⟨⟨t1201, t1202, t1203, t1204, t1205⟩, A11, H⟩ := bnd_ H
          dsimp only at H
          obtain ⟨⟨t1206, t1207, t1208, t1209, t1210⟩, A12, H⟩ := bnd_ H
          dsimp only at H
          obtain rfl := Option.some.inj H
          obtain ⟨Ao13, co13, eo13⟩ := Kd.R_slice HO_3.out
          subst eo13
          go_wp2_with (first | ((with_reducible refine gate_callee (f := 49) rfl ?_); refine goL_ (some 20) Try.func49 #[.slice Ao13 t1197.length co13] ?_; (with_reducible refine (impl_TreePoint.calls kj3 _ _ t1197 t1201 t1202 t1203 t1204 t1205 _ ?side1 ?side2 A11.out).mono ?_); (case side1 => repeat (first | exact (Kd.R_reads' HO_3.out).2.2 | (with_reducible refine Kd.C_alloc ?_ _) | (with_reducible refine Kd.C_drewN ?_ _) | (with_reducible refine Kd.C_drew ?_))); (case side2 => exact (Kd.R_reads' HO_3.out).2.1); rintro e w14 ⟨rfl, hb⟩; refine ⟨_, rfl, ?_⟩; replace HO_3 := Aside0.mk (Kd.R_below (kdU_ HO_3.out) hb); replace HB := stepB_ hb; (try clear hb)) | ((with_reducible refine gate_callee (f := 48) rfl ?_); refine goL_ (some 22) Try.func48 #[.slice Ao13 t1197.length co13] ?_; (with_reducible refine (spec_TreePoint.calls kj3 _ _ t1197 t1206 t1207 t1208 t1209 t1210 _ ?side1 ?side2 A12.out).mono ?_); (case side1 => repeat (first | exact (Kd.R_reads' HO_3.out).2.2 | (with_reducible refine Kd.C_alloc ?_ _) | (with_reducible refine Kd.C_drewN ?_ _) | (with_reducible refine Kd.C_drew ?_))); (case side2 => exact (Kd.R_reads' HO_3.out).2.1); rintro e w15 ⟨rfl, hb⟩; refine ⟨_, rfl, ?_⟩; replace HO_3 := Aside0.mk (Kd.R_below (kdU_ HO_3.out) hb); replace HB := stepB_ hb; (try clear hb)))
          go_ret
          exact ⟨rfl_, bel_⟩
        · replace c10 := Bool.eq_false_iff.mpr c10
          subst c10
          rw [if_neg (show ¬ (false = true) by decide)] at H
          obtain ⟨t1211, A16, H⟩ := bnd_ H
          have HC17 := Aside0.mk H
          clear H
          obtain ⟨Ao18, co18, eo18⟩ := Kd.R_slice HO_3.out
          subst eo18
          go_upto_region 7 with (first | ((with_reducible refine gate_callee (f := 54) rfl ?_); refine goL_ (some 26) Try.func54 #[.int .i64 (t1197.length : Int)] ?_; (with_reducible refine (impl_TreeSplit.calls kj3 (t1197.length : Int) t1211 _ A16.out).mono ?_); rintro e wz_ ⟨rfl, hd_⟩; refine ⟨_, rfl, ?_⟩; replace HO_3 := drawnR_ HO_3.out hd_; replace HB := drawnB_ HB.out hd_; clear hd_))
          (try simp only [Act.put, List.setIfInBounds_toArray, List.set_cons_zero, List.set_cons_succ])
          go_cut [55] (fun v55 wc => ∃ (kq : Nat) (x55_16 : Bool), v55 = .bool x55_16 ∧ Aside0 (laws_FnTreeHalves.j1 kq t1197 x55_16 = some r) ∧ Aside0 (kq ≤ kj3) ∧ Aside0 (Kd.R Kd.string 9 wc w.heap.size (fun _ => True) (.slice Ao18 t1197.length co18) t1197) ∧ Aside0 (Below w.heap.size w wc))
          case first =>
            have H := HC17.out
            clear HC17
            obtain ⟨t1212, A19, H⟩ := bnd_ H
            by_cases c20 : t1211 = t1212
            · rw [if_pos c20] at H
              have c20b0 : (t1211 == t1212) = true := beq_iff_eq.mpr c20
              have c20b1 : (t1211 != t1212) = false := bne_eq_false_iff_eq.mpr c20
              clear c20
              (first | rw [c20b0] | (simp only [i64_w, i32_w]; rw [c20b0]) | skip)
              by_cases c21 : t1211 < 1
              · rw [if_pos c21] at H
                have c21b0 : decide (t1211 < 1) = true := decide_eq_true c21
                clear c21
                have H' := Aside0.mk H
                clear H
                try go_wp2
                replace HO_3 := Aside0.mk (Kd.R_drew HO_3.out)
                replace HB := Aside0.mk (below_drew1 HB.out)
                refine start_ (n := 29) (S := fun w' => True) (ds := []) #[false, false, false, false, false, false, false, false, false, false, false, false, false, false, false, false, false, false, false, false, false, false, false, false, false, false, false, false, false] (by kernel_rfl) rfl rfl trivial (fun hHeld => ?_); refine with_tabW laws_FnTreeHalves.tab7 laws_FnTreeHalves.bits7 (fun HT_ HW_ => ?_)
                generalize wz_.drew = w22 at HO_3 HB hHeld ⊢
                refine pureP_ 0 (some 27) #[true, false, false, false, false, false, false, false, false, false, false, false, false, false, false, false, false, false, false, false, false, false, false, false, false, false, false, false, false] HT_ ?_
                refine pureP_ 1 (some 28) #[true, true, false, false, false, false, false, false, false, false, false, false, false, false, false, false, false, false, false, false, false, false, false, false, false, false, false, false, false] HT_ ?_
                refine pureP_ 2 (some 29) #[true, true, true, false, false, false, false, false, false, false, false, false, false, false, false, false, false, false, false, false, false, false, false, false, false, false, false, false, false] HT_ ?_
                refine oneP_ 3 (some 30) #[true, true, true, true, false, false, false, false, false, false, false, false, false, false, false, false, false, false, false, false, false, false, false, false, false, false, false, false, false] HT_ (fun K hK => ?_)
                refine goN_ Try.func55 #[.int .i64 (t1197.length : Int)] ?_
                with_reducible refine (spec_TreeSplit.calls kj3 (t1197.length : Int) t1212 _ A19.out).mono ?_
                rintro e w' ⟨rfl, ⟨nd, rfl⟩⟩
                refine ⟨_, rfl, ?_⟩
                refine hK.out _ _ trivial (fun hHeld => ?_)
                clear hK K
                refine norm_ (a' := ?_) ?_ ?_
                rotate_left
                · show Act.put _ (some 30) _ = _
                  simp only [Act.put, List.setIfInBounds_toArray, List.set_cons_zero, List.set_cons_succ, i64_w, i32_w]
                  rfl
                refine pureP_ 4 (some 31) #[true, true, true, true, true, false, false, false, false, false, false, false, false, false, false, false, false, false, false, false, false, false, false, false, false, false, false, false, false] HT_ ?_
                refine pureP_ 5 (some 32) #[true, true, true, true, true, true, false, false, false, false, false, false, false, false, false, false, false, false, false, false, false, false, false, false, false, false, false, false, false] HT_ ?_
                refine pureP_ 6 (some 33) #[true, true, true, true, true, true, true, false, false, false, false, false, false, false, false, false, false, false, false, false, false, false, false, false, false, false, false, false, false] HT_ ?_
                refine pureP_ 7 (some 34) #[true, true, true, true, true, true, true, true, false, false, false, false, false, false, false, false, false, false, false, false, false, false, false, false, false, false, false, false, false] HT_ ?_
                refine pureP_ 8 (some 35) #[true, true, true, true, true, true, true, true, true, false, false, false, false, false, false, false, false, false, false, false, false, false, false, false, false, false, false, false, false] HT_ ?_
                refine pureP_ 9 (some 36) #[true, true, true, true, true, true, true, true, true, true, false, false, false, false, false, false, false, false, false, false, false, false, false, false, false, false, false, false, false] HT_ ?_
                refine pure_ (i := 10) (N := some 37) (v := undef) (a' := ?_) #[true, true, true, true, true, true, true, true, true, true, true, false, false, false, false, false, false, false, false, false, false, false, false, false, false, false, false, false, false] rfl rfl (any_of HT_.out (by kernel_rfl)) (fun _ _ _ h => h) (Or.inr ⟨by rfl, rfl⟩) ?_ ?_
                rotate_left
                · simp only [Act.put, List.setIfInBounds_toArray, List.set_cons_zero, List.set_cons_succ, i64_w, i32_w]
                  rfl
                refine pure_ (i := 11) (N := some 38) (v := undef) (a' := ?_) #[true, true, true, true, true, true, true, true, true, true, true, true, false, false, false, false, false, false, false, false, false, false, false, false, false, false, false, false, false] rfl rfl (any_of HT_.out (by kernel_rfl)) (fun _ _ _ h => h) (Or.inr ⟨by rfl, rfl⟩) ?_ ?_
                rotate_left
                · simp only [Act.put, List.setIfInBounds_toArray, List.set_cons_zero, List.set_cons_succ, i64_w, i32_w]
                  rfl
                refine pure_ (i := 12) (N := some 39) (v := undef) (a' := ?_) #[true, true, true, true, true, true, true, true, true, true, true, true, true, false, false, false, false, false, false, false, false, false, false, false, false, false, false, false, false] rfl rfl (any_of HT_.out (by kernel_rfl)) (fun _ _ _ h => h) (Or.inr ⟨by rfl, rfl⟩) ?_ ?_
                rotate_left
                · simp only [Act.put, List.setIfInBounds_toArray, List.set_cons_zero, List.set_cons_succ, i64_w, i32_w]
                  rfl
                refine pure_ (i := 13) (N := some 40) (v := undef) (a' := ?_) #[true, true, true, true, true, true, true, true, true, true, true, true, true, true, false, false, false, false, false, false, false, false, false, false, false, false, false, false, false] rfl rfl (any_of HT_.out (by kernel_rfl)) (fun _ _ _ h => h) (Or.inr ⟨by rfl, rfl⟩) ?_ ?_
                rotate_left
                · simp only [Act.put, List.setIfInBounds_toArray, List.set_cons_zero, List.set_cons_succ, i64_w, i32_w]
                  rfl
                refine pureP_ 14 (some 41) #[true, true, true, true, true, true, true, true, true, true, true, true, true, true, true, false, false, false, false, false, false, false, false, false, false, false, false, false, false] HT_ ?_
                refine pureP_ 15 (some 42) #[true, true, true, true, true, true, true, true, true, true, true, true, true, true, true, true, false, false, false, false, false, false, false, false, false, false, false, false, false] HT_ ?_
                refine pure_ (i := 16) (N := some 43) (v := undef) (a' := ?_) #[true, true, true, true, true, true, true, true, true, true, true, true, true, true, true, true, true, false, false, false, false, false, false, false, false, false, false, false, false] rfl rfl (any_of HT_.out (by kernel_rfl)) (fun _ _ _ h => h) (Or.inr ⟨by rfl, rfl⟩) ?_ ?_
                rotate_left
                · simp only [Act.put, List.setIfInBounds_toArray, List.set_cons_zero, List.set_cons_succ, i64_w, i32_w]
                  rfl
                refine pure_ (i := 17) (N := some 44) (v := undef) (a' := ?_) #[true, true, true, true, true, true, true, true, true, true, true, true, true, true, true, true, true, true, false, false, false, false, false, false, false, false, false, false, false] rfl rfl (any_of HT_.out (by kernel_rfl)) (fun _ _ _ h => h) (Or.inr ⟨by rfl, rfl⟩) ?_ ?_
                rotate_left
                · simp only [Act.put, List.setIfInBounds_toArray, List.set_cons_zero, List.set_cons_succ, i64_w, i32_w]
                  rfl
                refine pure_ (i := 18) (N := some 45) (v := undef) (a' := ?_) #[true, true, true, true, true, true, true, true, true, true, true, true, true, true, true, true, true, true, true, false, false, false, false, false, false, false, false, false, false] rfl rfl (any_of HT_.out (by kernel_rfl)) (fun _ _ _ h => h) (Or.inr ⟨by rfl, rfl⟩) ?_ ?_
                rotate_left
                · simp only [Act.put, List.setIfInBounds_toArray, List.set_cons_zero, List.set_cons_succ, i64_w, i32_w]
                  rfl
                refine pure_ (i := 19) (N := some 46) (v := undef) (a' := ?_) #[true, true, true, true, true, true, true, true, true, true, true, true, true, true, true, true, true, true, true, true, false, false, false, false, false, false, false, false, false] rfl rfl (any_of HT_.out (by kernel_rfl)) (fun _ _ _ h => h) (Or.inr ⟨by rfl, rfl⟩) ?_ ?_
                rotate_left
                · simp only [Act.put, List.setIfInBounds_toArray, List.set_cons_zero, List.set_cons_succ, i64_w, i32_w]
                  rfl
                refine pure_ (i := 20) (N := some 47) (v := undef) (a' := ?_) #[true, true, true, true, true, true, true, true, true, true, true, true, true, true, true, true, true, true, true, true, true, false, false, false, false, false, false, false, false] rfl rfl (any_of HT_.out (by kernel_rfl)) (fun _ _ _ h => h) (Or.inr ⟨by rfl, rfl⟩) ?_ ?_
                rotate_left
                · simp only [Act.put, List.setIfInBounds_toArray, List.set_cons_zero, List.set_cons_succ, i64_w, i32_w]
                  rfl
                refine pure_ (i := 21) (N := some 48) (v := undef) (a' := ?_) #[true, true, true, true, true, true, true, true, true, true, true, true, true, true, true, true, true, true, true, true, true, true, false, false, false, false, false, false, false] rfl rfl (any_of HT_.out (by kernel_rfl)) (fun _ _ _ h => h) (Or.inr ⟨by rfl, rfl⟩) ?_ ?_
                rotate_left
                · simp only [Act.put, List.setIfInBounds_toArray, List.set_cons_zero, List.set_cons_succ, i64_w, i32_w]
                  rfl
                refine pure_ (i := 22) (N := some 49) (v := undef) (a' := ?_) #[true, true, true, true, true, true, true, true, true, true, true, true, true, true, true, true, true, true, true, true, true, true, true, false, false, false, false, false, false] rfl rfl (any_of HT_.out (by kernel_rfl)) (fun _ _ _ h => h) (Or.inr ⟨by rfl, rfl⟩) ?_ ?_
                rotate_left
                · simp only [Act.put, List.setIfInBounds_toArray, List.set_cons_zero, List.set_cons_succ, i64_w, i32_w]
                  rfl
                refine pure_ (i := 23) (N := some 50) (v := undef) (a' := ?_) #[true, true, true, true, true, true, true, true, true, true, true, true, true, true, true, true, true, true, true, true, true, true, true, true, false, false, false, false, false] rfl rfl (any_of HT_.out (by kernel_rfl)) (fun _ _ _ h => h) (Or.inr ⟨by rfl, rfl⟩) ?_ ?_
                rotate_left
                · simp only [Act.put, List.setIfInBounds_toArray, List.set_cons_zero, List.set_cons_succ, i64_w, i32_w]
                  rfl
                refine pure_ (i := 24) (N := some 51) (v := undef) (a' := ?_) #[true, true, true, true, true, true, true, true, true, true, true, true, true, true, true, true, true, true, true, true, true, true, true, true, true, false, false, false, false] rfl rfl (any_of HT_.out (by kernel_rfl)) (fun _ _ _ h => h) (Or.inr ⟨by rfl, rfl⟩) ?_ ?_
                rotate_left
                · simp only [Act.put, List.setIfInBounds_toArray, List.set_cons_zero, List.set_cons_succ, i64_w, i32_w]
                  rfl
                refine pure_ (i := 25) (N := some 52) (v := undef) (a' := ?_) #[true, true, true, true, true, true, true, true, true, true, true, true, true, true, true, true, true, true, true, true, true, true, true, true, true, true, false, false, false] rfl rfl (any_of HT_.out (by kernel_rfl)) (fun _ _ _ h => h) (Or.inr ⟨by rfl, rfl⟩) ?_ ?_
                rotate_left
                · simp only [Act.put, List.setIfInBounds_toArray, List.set_cons_zero, List.set_cons_succ, i64_w, i32_w]
                  rfl
                refine pure_ (i := 26) (N := some 53) (v := undef) (a' := ?_) #[true, true, true, true, true, true, true, true, true, true, true, true, true, true, true, true, true, true, true, true, true, true, true, true, true, true, true, false, false] rfl rfl (any_of HT_.out (by kernel_rfl)) (fun _ _ _ h => h) (Or.inr ⟨by rfl, rfl⟩) ?_ ?_
                rotate_left
                · simp only [Act.put, List.setIfInBounds_toArray, List.set_cons_zero, List.set_cons_succ, i64_w, i32_w]
                  rfl
                refine pure_ (i := 27) (N := some 54) (v := undef) (a' := ?_) #[true, true, true, true, true, true, true, true, true, true, true, true, true, true, true, true, true, true, true, true, true, true, true, true, true, true, true, true, false] rfl rfl (any_of HT_.out (by kernel_rfl)) (fun _ _ _ h => h) (Or.inr ⟨by rfl, rfl⟩) ?_ ?_
                rotate_left
                · simp only [Act.put, List.setIfInBounds_toArray, List.set_cons_zero, List.set_cons_succ, i64_w, i32_w]
                  rfl
                refine pureP_ 28 (some 55) #[true, true, true, true, true, true, true, true, true, true, true, true, true, true, true, true, true, true, true, true, true, true, true, true, true, true, true, true, true] HT_ ?_
                refine done_ (done_of HT_.out (by kernel_rfl)) ?_
                try go_wp2
                go_meet
                case rel => exact ⟨_, (true), (by first | rfl | (simp; done) | (simp [*]; done)), H', ⟨by have := HJ3.out; first | omega | exact Nat.le_refl _⟩, ⟨kdU_ HO_3.out⟩, ⟨bel_⟩⟩
              · rw [if_neg c21] at H
                have c21b0 : decide (t1211 < 1) = false := decide_eq_false c21
                clear c21
                by_cases c23 : t1211 ≥ (t1197.length : Int)
                · rw [if_pos c23] at H
                  have c23b0 : decide ((t1197.length : Int) ≤ t1211) = true := decide_eq_true c23
                  clear c23
                  have H' := Aside0.mk H
                  clear H
                  try go_wp2
                  replace HO_3 := Aside0.mk (Kd.R_drew HO_3.out)
                  replace HB := Aside0.mk (below_drew1 HB.out)
                  refine start_ (n := 29) (S := fun w' => True) (ds := []) #[false, false, false, false, false, false, false, false, false, false, false, false, false, false, false, false, false, false, false, false, false, false, false, false, false, false, false, false, false] (by kernel_rfl) rfl rfl trivial (fun hHeld => ?_); refine with_tabW laws_FnTreeHalves.tab7 laws_FnTreeHalves.bits7 (fun HT_ HW_ => ?_)
                  generalize wz_.drew = w24 at HO_3 HB hHeld ⊢
                  refine pureP_ 0 (some 27) #[true, false, false, false, false, false, false, false, false, false, false, false, false, false, false, false, false, false, false, false, false, false, false, false, false, false, false, false, false] HT_ ?_
                  refine pureP_ 1 (some 28) #[true, true, false, false, false, false, false, false, false, false, false, false, false, false, false, false, false, false, false, false, false, false, false, false, false, false, false, false, false] HT_ ?_
                  refine pureP_ 2 (some 29) #[true, true, true, false, false, false, false, false, false, false, false, false, false, false, false, false, false, false, false, false, false, false, false, false, false, false, false, false, false] HT_ ?_
                  refine oneP_ 3 (some 30) #[true, true, true, true, false, false, false, false, false, false, false, false, false, false, false, false, false, false, false, false, false, false, false, false, false, false, false, false, false] HT_ (fun K hK => ?_)
                  refine goN_ Try.func55 #[.int .i64 (t1197.length : Int)] ?_
                  with_reducible refine (spec_TreeSplit.calls kj3 (t1197.length : Int) t1212 _ A19.out).mono ?_
                  rintro e w' ⟨rfl, ⟨nd, rfl⟩⟩
                  refine ⟨_, rfl, ?_⟩
                  refine hK.out _ _ trivial (fun hHeld => ?_)
                  clear hK K
                  refine norm_ (a' := ?_) ?_ ?_
                  rotate_left
                  · show Act.put _ (some 30) _ = _
                    simp only [Act.put, List.setIfInBounds_toArray, List.set_cons_zero, List.set_cons_succ, i64_w, i32_w]
                    rfl
                  refine pureP_ 4 (some 31) #[true, true, true, true, true, false, false, false, false, false, false, false, false, false, false, false, false, false, false, false, false, false, false, false, false, false, false, false, false] HT_ ?_
                  refine pureP_ 5 (some 32) #[true, true, true, true, true, true, false, false, false, false, false, false, false, false, false, false, false, false, false, false, false, false, false, false, false, false, false, false, false] HT_ ?_
                  refine pureP_ 6 (some 33) #[true, true, true, true, true, true, true, false, false, false, false, false, false, false, false, false, false, false, false, false, false, false, false, false, false, false, false, false, false] HT_ ?_
                  refine pureP_ 7 (some 34) #[true, true, true, true, true, true, true, true, false, false, false, false, false, false, false, false, false, false, false, false, false, false, false, false, false, false, false, false, false] HT_ ?_
                  refine pureP_ 8 (some 35) #[true, true, true, true, true, true, true, true, true, false, false, false, false, false, false, false, false, false, false, false, false, false, false, false, false, false, false, false, false] HT_ ?_
                  refine pureP_ 9 (some 36) #[true, true, true, true, true, true, true, true, true, true, false, false, false, false, false, false, false, false, false, false, false, false, false, false, false, false, false, false, false] HT_ ?_
                  refine pureP_ 10 (some 37) #[true, true, true, true, true, true, true, true, true, true, true, false, false, false, false, false, false, false, false, false, false, false, false, false, false, false, false, false, false] HT_ ?_
                  refine pureP_ 11 (some 38) #[true, true, true, true, true, true, true, true, true, true, true, true, false, false, false, false, false, false, false, false, false, false, false, false, false, false, false, false, false] HT_ ?_
                  refine pureP_ 12 (some 39) #[true, true, true, true, true, true, true, true, true, true, true, true, true, false, false, false, false, false, false, false, false, false, false, false, false, false, false, false, false] HT_ ?_
                  refine pureP_ 13 (some 40) #[true, true, true, true, true, true, true, true, true, true, true, true, true, true, false, false, false, false, false, false, false, false, false, false, false, false, false, false, false] HT_ ?_
                  refine pureP_ 14 (some 41) #[true, true, true, true, true, true, true, true, true, true, true, true, true, true, true, false, false, false, false, false, false, false, false, false, false, false, false, false, false] HT_ ?_
                  refine pureP_ 15 (some 42) #[true, true, true, true, true, true, true, true, true, true, true, true, true, true, true, true, false, false, false, false, false, false, false, false, false, false, false, false, false] HT_ ?_
                  refine pure_ (i := 16) (N := some 43) (v := undef) (a' := ?_) #[true, true, true, true, true, true, true, true, true, true, true, true, true, true, true, true, true, false, false, false, false, false, false, false, false, false, false, false, false] rfl rfl (any_of HT_.out (by kernel_rfl)) (fun _ _ _ h => h) (Or.inr ⟨by rfl, rfl⟩) ?_ ?_
                  rotate_left
                  · simp only [Act.put, List.setIfInBounds_toArray, List.set_cons_zero, List.set_cons_succ, i64_w, i32_w]
                    rfl
                  refine pure_ (i := 17) (N := some 44) (v := undef) (a' := ?_) #[true, true, true, true, true, true, true, true, true, true, true, true, true, true, true, true, true, true, false, false, false, false, false, false, false, false, false, false, false] rfl rfl (any_of HT_.out (by kernel_rfl)) (fun _ _ _ h => h) (Or.inr ⟨by rfl, rfl⟩) ?_ ?_
                  rotate_left
                  · simp only [Act.put, List.setIfInBounds_toArray, List.set_cons_zero, List.set_cons_succ, i64_w, i32_w]
                    rfl
                  refine pure_ (i := 18) (N := some 45) (v := undef) (a' := ?_) #[true, true, true, true, true, true, true, true, true, true, true, true, true, true, true, true, true, true, true, false, false, false, false, false, false, false, false, false, false] rfl rfl (any_of HT_.out (by kernel_rfl)) (fun _ _ _ h => h) (Or.inr ⟨by rfl, rfl⟩) ?_ ?_
                  rotate_left
                  · simp only [Act.put, List.setIfInBounds_toArray, List.set_cons_zero, List.set_cons_succ, i64_w, i32_w]
                    rfl
                  refine pure_ (i := 19) (N := some 46) (v := undef) (a' := ?_) #[true, true, true, true, true, true, true, true, true, true, true, true, true, true, true, true, true, true, true, true, false, false, false, false, false, false, false, false, false] rfl rfl (any_of HT_.out (by kernel_rfl)) (fun _ _ _ h => h) (Or.inr ⟨by rfl, rfl⟩) ?_ ?_
                  rotate_left
                  · simp only [Act.put, List.setIfInBounds_toArray, List.set_cons_zero, List.set_cons_succ, i64_w, i32_w]
                    rfl
                  refine pure_ (i := 20) (N := some 47) (v := undef) (a' := ?_) #[true, true, true, true, true, true, true, true, true, true, true, true, true, true, true, true, true, true, true, true, true, false, false, false, false, false, false, false, false] rfl rfl (any_of HT_.out (by kernel_rfl)) (fun _ _ _ h => h) (Or.inr ⟨by rfl, rfl⟩) ?_ ?_
                  rotate_left
                  · simp only [Act.put, List.setIfInBounds_toArray, List.set_cons_zero, List.set_cons_succ, i64_w, i32_w]
                    rfl
                  refine pure_ (i := 21) (N := some 48) (v := undef) (a' := ?_) #[true, true, true, true, true, true, true, true, true, true, true, true, true, true, true, true, true, true, true, true, true, true, false, false, false, false, false, false, false] rfl rfl (any_of HT_.out (by kernel_rfl)) (fun _ _ _ h => h) (Or.inr ⟨by rfl, rfl⟩) ?_ ?_
                  rotate_left
                  · simp only [Act.put, List.setIfInBounds_toArray, List.set_cons_zero, List.set_cons_succ, i64_w, i32_w]
                    rfl
                  refine pure_ (i := 22) (N := some 49) (v := undef) (a' := ?_) #[true, true, true, true, true, true, true, true, true, true, true, true, true, true, true, true, true, true, true, true, true, true, true, false, false, false, false, false, false] rfl rfl (any_of HT_.out (by kernel_rfl)) (fun _ _ _ h => h) (Or.inr ⟨by rfl, rfl⟩) ?_ ?_
                  rotate_left
                  · simp only [Act.put, List.setIfInBounds_toArray, List.set_cons_zero, List.set_cons_succ, i64_w, i32_w]
                    rfl
                  refine pure_ (i := 23) (N := some 50) (v := undef) (a' := ?_) #[true, true, true, true, true, true, true, true, true, true, true, true, true, true, true, true, true, true, true, true, true, true, true, true, false, false, false, false, false] rfl rfl (any_of HT_.out (by kernel_rfl)) (fun _ _ _ h => h) (Or.inr ⟨by rfl, rfl⟩) ?_ ?_
                  rotate_left
                  · simp only [Act.put, List.setIfInBounds_toArray, List.set_cons_zero, List.set_cons_succ, i64_w, i32_w]
                    rfl
                  refine pure_ (i := 24) (N := some 51) (v := undef) (a' := ?_) #[true, true, true, true, true, true, true, true, true, true, true, true, true, true, true, true, true, true, true, true, true, true, true, true, true, false, false, false, false] rfl rfl (any_of HT_.out (by kernel_rfl)) (fun _ _ _ h => h) (Or.inr ⟨by rfl, rfl⟩) ?_ ?_
                  rotate_left
                  · simp only [Act.put, List.setIfInBounds_toArray, List.set_cons_zero, List.set_cons_succ, i64_w, i32_w]
                    rfl
                  refine pure_ (i := 25) (N := some 52) (v := undef) (a' := ?_) #[true, true, true, true, true, true, true, true, true, true, true, true, true, true, true, true, true, true, true, true, true, true, true, true, true, true, false, false, false] rfl rfl (any_of HT_.out (by kernel_rfl)) (fun _ _ _ h => h) (Or.inr ⟨by rfl, rfl⟩) ?_ ?_
                  rotate_left
                  · simp only [Act.put, List.setIfInBounds_toArray, List.set_cons_zero, List.set_cons_succ, i64_w, i32_w]
                    rfl
                  refine pure_ (i := 26) (N := some 53) (v := undef) (a' := ?_) #[true, true, true, true, true, true, true, true, true, true, true, true, true, true, true, true, true, true, true, true, true, true, true, true, true, true, true, false, false] rfl rfl (any_of HT_.out (by kernel_rfl)) (fun _ _ _ h => h) (Or.inr ⟨by rfl, rfl⟩) ?_ ?_
                  rotate_left
                  · simp only [Act.put, List.setIfInBounds_toArray, List.set_cons_zero, List.set_cons_succ, i64_w, i32_w]
                    rfl
                  refine pure_ (i := 27) (N := some 54) (v := undef) (a' := ?_) #[true, true, true, true, true, true, true, true, true, true, true, true, true, true, true, true, true, true, true, true, true, true, true, true, true, true, true, true, false] rfl rfl (any_of HT_.out (by kernel_rfl)) (fun _ _ _ h => h) (Or.inr ⟨by rfl, rfl⟩) ?_ ?_
                  rotate_left
                  · simp only [Act.put, List.setIfInBounds_toArray, List.set_cons_zero, List.set_cons_succ, i64_w, i32_w]
                    rfl
                  refine pureP_ 28 (some 55) #[true, true, true, true, true, true, true, true, true, true, true, true, true, true, true, true, true, true, true, true, true, true, true, true, true, true, true, true, true] HT_ ?_
                  refine done_ (done_of HT_.out (by kernel_rfl)) ?_
                  try go_wp2
                  go_meet
                  case rel => exact ⟨_, (true), (by first | rfl | (simp; done) | (simp [*]; done)), H', ⟨by have := HJ3.out; first | omega | exact Nat.le_refl _⟩, ⟨kdU_ HO_3.out⟩, ⟨bel_⟩⟩
                · rw [if_neg c23] at H
                  have c23b0 : decide ((t1197.length : Int) ≤ t1211) = false := decide_eq_false c23
                  clear c23
                  obtain ⟨⟨t1213, t1214, t1215, t1216⟩, A25, H⟩ := bnd_ H
                  dsimp only at H
                  by_cases c26 : 0 ≤ t1211
                  · rw [if_pos c26] at H
                    have c26b0 := eq_true c26
                    have c26b1 : decide (0 ≤ t1211) = true := decide_eq_true c26
                    clear c26
                    by_cases c27 : t1211 ≤ (t1197.length : Int)
                    · rw [if_pos c27] at H
                      have c27b0 := eq_true c27
                      have c27b1 : decide (t1211 ≤ (t1197.length : Int)) = true := decide_eq_true c27
                      clear c27
                      obtain ⟨y1217, hy1217⟩ : ∃ y_ : List ByteArray, y_ = (t1197.take (t1211 : Int).toNat) := ⟨_, rfl⟩
                      replace H : ((impl_TreeRoot.f kj3 y1217).bind fun bt1221 => ((impl_TreeRoot.f kj3 (t1197.drop (t1211 : Int).toNat)).bind fun bt1229 => ((impl_HashPair.f kj3 bt1221.1 bt1221.2.1 bt1221.2.2.1 bt1221.2.2.2 bt1229.1 bt1229.2.1 bt1229.2.2.1 bt1229.2.2.2).bind fun bt1233 => (laws_FnTreeHalves.j1 kj3 t1197 (!(t1213 == bt1233.1) || (!(t1214 == bt1233.2.1) || (!(t1215 == bt1233.2.2.1) || (!(t1216 == bt1233.2.2.2))))))))) = some r := by first | (rw [hy1217]; with_reducible exact H) | (have H2_ := (Option.bind_some _ _).symm.trans H; rw [hy1217]; with_reducible exact H2_) | (have H2_ := (Option.bind_some _ _).symm.trans H; with_reducible exact H2_) | with_reducible exact H | (rw [hy1217]; exact H) | exact H
                      have Ny1217 := Aside0.mk hy1217
                      clear hy1217
                      obtain ⟨⟨t1221, t1222, t1223, t1224⟩, A28, H⟩ := bnd_ H
                      dsimp only at H
                      have c29b0 := eq_true (ofd_ : 0 ≤ t1211)
                      have c30b0 := eq_true (ofd_ : t1211 ≤ (t1197.length : Int))
                      obtain ⟨y1225, hy1225⟩ : ∃ y_ : List ByteArray, y_ = (t1197.drop (t1211 : Int).toNat) := ⟨_, rfl⟩
                      replace H : ((impl_TreeRoot.f kj3 y1225).bind fun bt1229 => ((impl_HashPair.f kj3 t1221 t1222 t1223 t1224 bt1229.1 bt1229.2.1 bt1229.2.2.1 bt1229.2.2.2).bind fun bt1233 => (laws_FnTreeHalves.j1 kj3 t1197 (!(t1213 == bt1233.1) || (!(t1214 == bt1233.2.1) || (!(t1215 == bt1233.2.2.1) || (!(t1216 == bt1233.2.2.2)))))))) = some r := by first | (rw [hy1225]; with_reducible exact H) | (have H2_ := (Option.bind_some _ _).symm.trans H; rw [hy1225]; with_reducible exact H2_) | (have H2_ := (Option.bind_some _ _).symm.trans H; with_reducible exact H2_) | with_reducible exact H | (rw [hy1225]; exact H) | exact H
                      have Ny1225 := Aside0.mk hy1225
                      clear hy1225
                      obtain ⟨⟨t1229, t1230, t1231, t1232⟩, A31, H⟩ := bnd_ H
                      dsimp only at H
                      obtain ⟨⟨t1233, t1234, t1235, t1236⟩, A32, H⟩ := bnd_ H
                      dsimp only at H
                      have H' := Aside0.mk H
                      clear H
                      try go_wp2
                      replace HO_3 := Aside0.mk (Kd.R_drew HO_3.out)
                      replace HB := Aside0.mk (below_drew1 HB.out)
                      refine start_ (n := 29) (S := fun w' => True) (ds := []) #[false, false, false, false, false, false, false, false, false, false, false, false, false, false, false, false, false, false, false, false, false, false, false, false, false, false, false, false, false] (by kernel_rfl) rfl rfl trivial (fun hHeld => ?_); refine with_tabW laws_FnTreeHalves.tab7 laws_FnTreeHalves.bits7 (fun HT_ HW_ => ?_)
                      generalize wz_.drew = w33 at HO_3 HB hHeld ⊢
                      have q35 : (t1211 : Int) ≤ ((t1197.length : Int) : Int) := ofd_
                      obtain ⟨i035, hi035, _, hsz35, _⟩ := info_parts info9
                      have hroom35 : t1197.length ≤ co18 := (Kd.R_reads' HO_3.out).2.1
                      have hC35 : Kd.C Kd.string _ Ao18 t1197.length t1197 := (Kd.R_reads' HO_3.out).2.2
                      have hcut35 := cut_to (P := Try.prog) 60 9 .i64 Try.underlying60 hi035 Ao18 t1197.length co18 t1211 (ofd_) q35 hroom35
                      have hr35 := Kd.C_take (m := (t1211 : Int).toNat) hC35 (by omega)
                      have hy35 : y1217.length = (t1211 : Int).toNat := (by rw [Ny1217.out, List.length_take]; omega)
                      rw [← Ny1217.out] at hr35
                      rw [← hy35] at hcut35
                      have HR1220 := Aside0.mk hr35
                      have HC1220 := Aside0.mk (show y1217.length ≤ co18 from by omega)
                      clear hr35 hC35 hroom35 hi035 hsz35
                      have KY35 := Aside0.mk hy35
                      clear hy35
                      have KL35 := Aside0.mk (show (t1211 : Int).toNat ≤ t1197.length from by omega)
                      replace q35 := eq_true q35
                      have q37 : (t1211 : Int) ≤ ((t1197.length : Int) : Int) := ofd_
                      obtain ⟨i037, hi037, _, hsz37, _⟩ := info_parts info9
                      have hroom37 : t1197.length ≤ co18 := (Kd.R_reads' HO_3.out).2.1
                      have hC37 : Kd.C Kd.string _ Ao18 t1197.length t1197 := (Kd.R_reads' HO_3.out).2.2
                      have q037 : (0 : Int) ≤ (t1211 : Int) := ofd_
                      have hcut37 := cut_from (P := Try.prog) 60 9 .i64 Try.underlying60 hi037 1 hsz37 Ao18 t1197.length co18 t1211 q037 q37
                      have hr37 := Kd.C_drop (m := (t1211 : Int).toNat) (c := co18) hC37 (by omega) hroom37
                      obtain ⟨A37, hA37⟩ : ∃ A1, A1 = (if co18 = (t1211 : Int).toNat then Ao18 else (Ao18 : Option Addr).map (·.add ((t1211 : Int).toNat * 1))) := ⟨_, rfl⟩
                      obtain ⟨c37, hc37⟩ : ∃ c1, c1 = co18 - (t1211 : Int).toNat := ⟨_, rfl⟩
                      have hy37 : y1225.length = t1197.length - (t1211 : Int).toNat := (by rw [Ny1225.out, List.length_drop] <;> omega)
                      rw [show (t1197).drop (t1211 : Int).toNat = y1225 from Ny1225.out.symm] at hr37
                      replace hr37 : Kd.C Kd.string _ A37 y1225.length y1225 := (by rw [hA37]; exact hr37)
                      rw [← hy37, ← hA37, ← hc37] at hcut37
                      have HR1228 := Aside0.mk hr37
                      have HC1228 := Aside0.mk (show y1225.length ≤ c37 from by rw [hy37, hc37]; exact Nat.sub_le_sub_right hroom37 _)
                      clear hr37 hC37 hroom37 hi037 hsz37 hc37
                      have KY37 := Aside0.mk hy37
                      have KA37 := Aside0.mk hA37
                      clear hy37 hA37
                      have KL37 := Aside0.mk (show (t1211 : Int).toNat ≤ t1197.length from by omega)
                      replace q37 := eq_true q37
                      refine pureP_ 0 (some 27) #[true, false, false, false, false, false, false, false, false, false, false, false, false, false, false, false, false, false, false, false, false, false, false, false, false, false, false, false, false] HT_ ?_
                      refine pureP_ 1 (some 28) #[true, true, false, false, false, false, false, false, false, false, false, false, false, false, false, false, false, false, false, false, false, false, false, false, false, false, false, false, false] HT_ ?_
                      refine pureP_ 2 (some 29) #[true, true, true, false, false, false, false, false, false, false, false, false, false, false, false, false, false, false, false, false, false, false, false, false, false, false, false, false, false] HT_ ?_
                      refine oneP_ 3 (some 30) #[true, true, true, true, false, false, false, false, false, false, false, false, false, false, false, false, false, false, false, false, false, false, false, false, false, false, false, false, false] HT_ (fun K hK => ?_)
                      refine goN_ Try.func55 #[.int .i64 (t1197.length : Int)] ?_
                      with_reducible refine (spec_TreeSplit.calls kj3 (t1197.length : Int) t1212 _ A19.out).mono ?_
                      rintro e w' ⟨rfl, ⟨nd, rfl⟩⟩
                      refine ⟨_, rfl, ?_⟩
                      refine hK.out _ _ trivial (fun hHeld => ?_)
                      clear hK K
                      refine norm_ (a' := ?_) ?_ ?_
                      rotate_left
                      · show Act.put _ (some 30) _ = _
                        simp only [Act.put, List.setIfInBounds_toArray, List.set_cons_zero, List.set_cons_succ, i64_w, i32_w]
                        rfl
                      refine pureP_ 4 (some 31) #[true, true, true, true, true, false, false, false, false, false, false, false, false, false, false, false, false, false, false, false, false, false, false, false, false, false, false, false, false] HT_ ?_
                      refine pureP_ 5 (some 32) #[true, true, true, true, true, true, false, false, false, false, false, false, false, false, false, false, false, false, false, false, false, false, false, false, false, false, false, false, false] HT_ ?_
                      refine pureP_ 6 (some 33) #[true, true, true, true, true, true, true, false, false, false, false, false, false, false, false, false, false, false, false, false, false, false, false, false, false, false, false, false, false] HT_ ?_
                      refine pureP_ 7 (some 34) #[true, true, true, true, true, true, true, true, false, false, false, false, false, false, false, false, false, false, false, false, false, false, false, false, false, false, false, false, false] HT_ ?_
                      refine pureP_ 8 (some 35) #[true, true, true, true, true, true, true, true, true, false, false, false, false, false, false, false, false, false, false, false, false, false, false, false, false, false, false, false, false] HT_ ?_
                      refine pureP_ 9 (some 36) #[true, true, true, true, true, true, true, true, true, true, false, false, false, false, false, false, false, false, false, false, false, false, false, false, false, false, false, false, false] HT_ ?_
                      refine pureP_ 10 (some 37) #[true, true, true, true, true, true, true, true, true, true, true, false, false, false, false, false, false, false, false, false, false, false, false, false, false, false, false, false, false] HT_ ?_
                      refine pureP_ 11 (some 38) #[true, true, true, true, true, true, true, true, true, true, true, true, false, false, false, false, false, false, false, false, false, false, false, false, false, false, false, false, false] HT_ ?_
                      refine pureP_ 12 (some 39) #[true, true, true, true, true, true, true, true, true, true, true, true, true, false, false, false, false, false, false, false, false, false, false, false, false, false, false, false, false] HT_ ?_
                      refine pureP_ 13 (some 40) #[true, true, true, true, true, true, true, true, true, true, true, true, true, true, false, false, false, false, false, false, false, false, false, false, false, false, false, false, false] HT_ ?_
                      refine pureP_ 14 (some 41) #[true, true, true, true, true, true, true, true, true, true, true, true, true, true, true, false, false, false, false, false, false, false, false, false, false, false, false, false, false] HT_ ?_
                      refine pureP_ 15 (some 42) #[true, true, true, true, true, true, true, true, true, true, true, true, true, true, true, true, false, false, false, false, false, false, false, false, false, false, false, false, false] HT_ ?_
                      refine pureP_ 16 (some 43) #[true, true, true, true, true, true, true, true, true, true, true, true, true, true, true, true, true, false, false, false, false, false, false, false, false, false, false, false, false] HT_ ?_
                      refine pureP_ 18 (some 45) #[true, true, true, true, true, true, true, true, true, true, true, true, true, true, true, true, true, false, true, false, false, false, false, false, false, false, false, false, false] HT_ ?_
                      refine pureP_ 19 (some 46) #[true, true, true, true, true, true, true, true, true, true, true, true, true, true, true, true, true, false, true, true, false, false, false, false, false, false, false, false, false] HT_ ?_
                      refine pureP_ 20 (some 47) #[true, true, true, true, true, true, true, true, true, true, true, true, true, true, true, true, true, false, true, true, true, false, false, false, false, false, false, false, false] HT_ ?_
                      refine pureP_ 22 (some 49) #[true, true, true, true, true, true, true, true, true, true, true, true, true, true, true, true, true, false, true, true, true, false, true, false, false, false, false, false, false] HT_ ?_
                      refine pureP_ 23 (some 50) #[true, true, true, true, true, true, true, true, true, true, true, true, true, true, true, true, true, false, true, true, true, false, true, true, false, false, false, false, false] HT_ ?_
                      refine pureP_ 24 (some 51) #[true, true, true, true, true, true, true, true, true, true, true, true, true, true, true, true, true, false, true, true, true, false, true, true, true, false, false, false, false] HT_ ?_
                      refine oneP_ 17 (some 44) #[true, true, true, true, true, true, true, true, true, true, true, true, true, true, true, true, true, true, true, true, true, false, true, true, true, false, false, false, false] HT_ (fun K hK => ?_)
                      refine goN_ Try.func45 #[.slice Ao18 t1197.length co18] ?_
                      with_reducible refine (impl_TreeRoot.calls kj3 _ _ t1197 t1213 t1214 t1215 t1216 _ ?side1 ?side2 A25.out).mono ?_
                      (case side1 => repeat (first | exact (Kd.R_reads' HO_3.out).2.2 | (with_reducible refine Kd.C_alloc ?_ _) | (with_reducible refine Kd.C_drewN ?_ _) | (with_reducible refine Kd.C_drew ?_)))
                      (case side2 => exact (Kd.R_reads' HO_3.out).2.1)
                      rintro e w34 ⟨rfl, hb⟩
                      refine ⟨_, rfl, ?_⟩
                      replace HO_3 := Aside0.mk (Kd.R_below (kdU_ HO_3.out) hb)
                      replace HR1220 := Aside0.mk (Kd.C_below (by repeat (first | (with_reducible exact HR1220.out) | (with_reducible refine Kd.C_alloc ?_ _) | (with_reducible refine Kd.C_drewN ?_ _) | (with_reducible refine Kd.C_drew ?_) | exact HR1220.out)) hb)
                      replace HR1228 := Aside0.mk (Kd.C_below (by repeat (first | (with_reducible exact HR1228.out) | (with_reducible refine Kd.C_alloc ?_ _) | (with_reducible refine Kd.C_drewN ?_ _) | (with_reducible refine Kd.C_drew ?_) | exact HR1228.out)) hb)
                      replace HB := stepB_ hb
                      (try clear hb)
                      refine hK.out _ _ trivial (fun hHeld => ?_)
                      clear hK K
                      refine norm_ (a' := ?_) ?_ ?_
                      rotate_left
                      · show Act.put _ (some 44) _ = _
                        simp only [Act.put, List.setIfInBounds_toArray, List.set_cons_zero, List.set_cons_succ, i64_w, i32_w]
                        rfl
                      refine oneP_ 21 (some 48) #[true, true, true, true, true, true, true, true, true, true, true, true, true, true, true, true, true, true, true, true, true, true, true, true, true, false, false, false, false] HT_ (fun K hK => ?_)
                      refine goN_ Try.func45 #[.slice Ao18 y1217.length co18] ?_
                      with_reducible refine (impl_TreeRoot.calls kj3 _ _ y1217 t1221 t1222 t1223 t1224 _ ?side1 ?side2 A28.out).mono ?_
                      (case side1 => repeat (first | exact (by repeat (first | (with_reducible exact HR1220.out) | (with_reducible refine Kd.C_alloc ?_ _) | (with_reducible refine Kd.C_drewN ?_ _) | (with_reducible refine Kd.C_drew ?_) | exact HR1220.out)) | (with_reducible refine Kd.C_alloc ?_ _) | (with_reducible refine Kd.C_drewN ?_ _) | (with_reducible refine Kd.C_drew ?_)))
                      (case side2 => exact HC1220.out)
                      rintro e w36 ⟨rfl, hb⟩
                      refine ⟨_, rfl, ?_⟩
                      replace HO_3 := Aside0.mk (Kd.R_below (kdU_ HO_3.out) hb)
                      replace HR1220 := Aside0.mk (Kd.C_below (by repeat (first | (with_reducible exact HR1220.out) | (with_reducible refine Kd.C_alloc ?_ _) | (with_reducible refine Kd.C_drewN ?_ _) | (with_reducible refine Kd.C_drew ?_) | exact HR1220.out)) hb)
                      replace HR1228 := Aside0.mk (Kd.C_below (by repeat (first | (with_reducible exact HR1228.out) | (with_reducible refine Kd.C_alloc ?_ _) | (with_reducible refine Kd.C_drewN ?_ _) | (with_reducible refine Kd.C_drew ?_) | exact HR1228.out)) hb)
                      replace HB := stepB_ hb
                      (try clear hb)
                      refine hK.out _ _ trivial (fun hHeld => ?_)
                      clear hK K
                      refine norm_ (a' := ?_) ?_ ?_
                      rotate_left
                      · show Act.put _ (some 48) _ = _
                        simp only [Act.put, List.setIfInBounds_toArray, List.set_cons_zero, List.set_cons_succ, i64_w, i32_w]
                        rfl
                      refine oneP_ 25 (some 52) #[true, true, true, true, true, true, true, true, true, true, true, true, true, true, true, true, true, true, true, true, true, true, true, true, true, true, false, false, false] HT_ (fun K hK => ?_)
                      refine goN_ Try.func45 #[.slice A37 y1225.length c37] ?_
                      with_reducible refine (impl_TreeRoot.calls kj3 _ _ y1225 t1229 t1230 t1231 t1232 _ ?side1 ?side2 A31.out).mono ?_
                      (case side1 => repeat (first | exact (by repeat (first | (with_reducible exact HR1228.out) | (with_reducible refine Kd.C_alloc ?_ _) | (with_reducible refine Kd.C_drewN ?_ _) | (with_reducible refine Kd.C_drew ?_) | exact HR1228.out)) | (with_reducible refine Kd.C_alloc ?_ _) | (with_reducible refine Kd.C_drewN ?_ _) | (with_reducible refine Kd.C_drew ?_)))
                      (case side2 => exact HC1228.out)
                      rintro e w38 ⟨rfl, hb⟩
                      refine ⟨_, rfl, ?_⟩
                      replace HO_3 := Aside0.mk (Kd.R_below (kdU_ HO_3.out) hb)
                      replace HR1220 := Aside0.mk (Kd.C_below (by repeat (first | (with_reducible exact HR1220.out) | (with_reducible refine Kd.C_alloc ?_ _) | (with_reducible refine Kd.C_drewN ?_ _) | (with_reducible refine Kd.C_drew ?_) | exact HR1220.out)) hb)
                      replace HR1228 := Aside0.mk (Kd.C_below (by repeat (first | (with_reducible exact HR1228.out) | (with_reducible refine Kd.C_alloc ?_ _) | (with_reducible refine Kd.C_drewN ?_ _) | (with_reducible refine Kd.C_drew ?_) | exact HR1228.out)) hb)
                      replace HB := stepB_ hb
                      (try clear hb)
                      refine hK.out _ _ trivial (fun hHeld => ?_)
                      clear hK K
                      refine norm_ (a' := ?_) ?_ ?_
                      rotate_left
                      · show Act.put _ (some 52) _ = _
                        simp only [Act.put, List.setIfInBounds_toArray, List.set_cons_zero, List.set_cons_succ, i64_w, i32_w]
                        rfl
                      refine oneP_ 26 (some 53) #[true, true, true, true, true, true, true, true, true, true, true, true, true, true, true, true, true, true, true, true, true, true, true, true, true, true, true, false, false] HT_ (fun K hK => ?_)
                      refine goN_ Try.func56 #[.agg #[.int .u64 t1221, .int .u64 t1222, .int .u64 t1223, .int .u64 t1224], .agg #[.int .u64 t1229, .int .u64 t1230, .int .u64 t1231, .int .u64 t1232]] ?_
                      with_reducible refine (impl_HashPair.calls kj3 t1221 t1222 t1223 t1224 t1229 t1230 t1231 t1232 t1233 t1234 t1235 t1236 _ A32.out).mono ?_
                      rintro e w39 ⟨rfl, hb⟩
                      refine ⟨_, rfl, ?_⟩
                      replace HO_3 := Aside0.mk (Kd.R_below (kdU_ HO_3.out) hb)
                      replace HR1220 := Aside0.mk (Kd.C_below (by repeat (first | (with_reducible exact HR1220.out) | (with_reducible refine Kd.C_alloc ?_ _) | (with_reducible refine Kd.C_drewN ?_ _) | (with_reducible refine Kd.C_drew ?_) | exact HR1220.out)) hb)
                      replace HR1228 := Aside0.mk (Kd.C_below (by repeat (first | (with_reducible exact HR1228.out) | (with_reducible refine Kd.C_alloc ?_ _) | (with_reducible refine Kd.C_drewN ?_ _) | (with_reducible refine Kd.C_drew ?_) | exact HR1228.out)) hb)
                      replace HB := stepB_ hb
                      (try clear hb)
                      refine hK.out _ _ trivial (fun hHeld => ?_)
                      clear hK K
                      refine norm_ (a' := ?_) ?_ ?_
                      rotate_left
                      · show Act.put _ (some 53) _ = _
                        simp only [Act.put, List.setIfInBounds_toArray, List.set_cons_zero, List.set_cons_succ, i64_w, i32_w]
                        rfl
                      refine pureP_ 27 (some 54) #[true, true, true, true, true, true, true, true, true, true, true, true, true, true, true, true, true, true, true, true, true, true, true, true, true, true, true, true, false] HT_ ?_
                      refine pureP_ 28 (some 55) #[true, true, true, true, true, true, true, true, true, true, true, true, true, true, true, true, true, true, true, true, true, true, true, true, true, true, true, true, true] HT_ ?_
                      refine done_ (done_of HT_.out (by kernel_rfl)) ?_
                      try go_wp2
                      go_meet
                      case rel => exact ⟨_, ((!(t1213 == t1233) || (!(t1214 == t1234) || (!(t1215 == t1235) || (!(t1216 == t1236)))))), (by first | rfl | (simp; done) | (simp [*]; done)), H', ⟨by have := HJ3.out; first | omega | exact Nat.le_refl _⟩, ⟨kdU_ HO_3.out⟩, ⟨bel_⟩⟩
                    · rw [if_neg c27] at H
                      exact absurd H (by simp)
                  · rw [if_neg c26] at H
                    exact absurd H (by simp)
            · rw [if_neg c20] at H
              have c20b0 : (t1211 == t1212) = false := beq_eq_false_iff_ne.mpr c20
              have c20b1 : (t1211 != t1212) = true := bne_iff_ne.mpr c20
              (first | rw [c20b0] | (simp only [i64_w, i32_w]; rw [c20b0]) | skip)
              have H' := Aside0.mk H
              clear H
              try go_wp2
              replace HO_3 := Aside0.mk (Kd.R_drew HO_3.out)
              replace HB := Aside0.mk (below_drew1 HB.out)
              refine start_ (n := 29) (S := fun w' => True) (ds := []) #[false, false, false, false, false, false, false, false, false, false, false, false, false, false, false, false, false, false, false, false, false, false, false, false, false, false, false, false, false] (by kernel_rfl) rfl rfl trivial (fun hHeld => ?_); refine with_tabW laws_FnTreeHalves.tab7 laws_FnTreeHalves.bits7 (fun HT_ HW_ => ?_)
              generalize wz_.drew = w40 at HO_3 HB hHeld ⊢
              refine pureP_ 0 (some 27) #[true, false, false, false, false, false, false, false, false, false, false, false, false, false, false, false, false, false, false, false, false, false, false, false, false, false, false, false, false] HT_ ?_
              refine pureP_ 1 (some 28) #[true, true, false, false, false, false, false, false, false, false, false, false, false, false, false, false, false, false, false, false, false, false, false, false, false, false, false, false, false] HT_ ?_
              refine pureP_ 2 (some 29) #[true, true, true, false, false, false, false, false, false, false, false, false, false, false, false, false, false, false, false, false, false, false, false, false, false, false, false, false, false] HT_ ?_
              refine oneP_ 3 (some 30) #[true, true, true, true, false, false, false, false, false, false, false, false, false, false, false, false, false, false, false, false, false, false, false, false, false, false, false, false, false] HT_ (fun K hK => ?_)
              refine goN_ Try.func55 #[.int .i64 (t1197.length : Int)] ?_
              with_reducible refine (spec_TreeSplit.calls kj3 (t1197.length : Int) t1212 _ A19.out).mono ?_
              rintro e w' ⟨rfl, ⟨nd, rfl⟩⟩
              refine ⟨_, rfl, ?_⟩
              refine hK.out _ _ trivial (fun hHeld => ?_)
              clear hK K
              refine norm_ (a' := ?_) ?_ ?_
              rotate_left
              · show Act.put _ (some 30) _ = _
                simp only [Act.put, List.setIfInBounds_toArray, List.set_cons_zero, List.set_cons_succ, i64_w, i32_w]
                rfl
              refine pureP_ 4 (some 31) #[true, true, true, true, true, false, false, false, false, false, false, false, false, false, false, false, false, false, false, false, false, false, false, false, false, false, false, false, false] HT_ ?_
              refine pureP_ 5 (some 32) #[true, true, true, true, true, true, false, false, false, false, false, false, false, false, false, false, false, false, false, false, false, false, false, false, false, false, false, false, false] HT_ ?_
              refine pure_ (i := 6) (N := some 33) (v := undef) (a' := ?_) #[true, true, true, true, true, true, true, false, false, false, false, false, false, false, false, false, false, false, false, false, false, false, false, false, false, false, false, false, false] rfl rfl (any_of HT_.out (by kernel_rfl)) (fun _ _ _ h => h) (Or.inr ⟨by rfl, rfl⟩) ?_ ?_
              rotate_left
              · simp only [Act.put, List.setIfInBounds_toArray, List.set_cons_zero, List.set_cons_succ, i64_w, i32_w]
                rfl
              refine pure_ (i := 7) (N := some 34) (v := undef) (a' := ?_) #[true, true, true, true, true, true, true, true, false, false, false, false, false, false, false, false, false, false, false, false, false, false, false, false, false, false, false, false, false] rfl rfl (any_of HT_.out (by kernel_rfl)) (fun _ _ _ h => h) (Or.inr ⟨by rfl, rfl⟩) ?_ ?_
              rotate_left
              · simp only [Act.put, List.setIfInBounds_toArray, List.set_cons_zero, List.set_cons_succ, i64_w, i32_w]
                rfl
              refine pureP_ 8 (some 35) #[true, true, true, true, true, true, true, true, true, false, false, false, false, false, false, false, false, false, false, false, false, false, false, false, false, false, false, false, false] HT_ ?_
              refine pureP_ 9 (some 36) #[true, true, true, true, true, true, true, true, true, true, false, false, false, false, false, false, false, false, false, false, false, false, false, false, false, false, false, false, false] HT_ ?_
              refine pure_ (i := 10) (N := some 37) (v := undef) (a' := ?_) #[true, true, true, true, true, true, true, true, true, true, true, false, false, false, false, false, false, false, false, false, false, false, false, false, false, false, false, false, false] rfl rfl (any_of HT_.out (by kernel_rfl)) (fun _ _ _ h => h) (Or.inr ⟨by rfl, rfl⟩) ?_ ?_
              rotate_left
              · simp only [Act.put, List.setIfInBounds_toArray, List.set_cons_zero, List.set_cons_succ, i64_w, i32_w]
                rfl
              refine pure_ (i := 11) (N := some 38) (v := undef) (a' := ?_) #[true, true, true, true, true, true, true, true, true, true, true, true, false, false, false, false, false, false, false, false, false, false, false, false, false, false, false, false, false] rfl rfl (any_of HT_.out (by kernel_rfl)) (fun _ _ _ h => h) (Or.inr ⟨by rfl, rfl⟩) ?_ ?_
              rotate_left
              · simp only [Act.put, List.setIfInBounds_toArray, List.set_cons_zero, List.set_cons_succ, i64_w, i32_w]
                rfl
              refine pure_ (i := 12) (N := some 39) (v := undef) (a' := ?_) #[true, true, true, true, true, true, true, true, true, true, true, true, true, false, false, false, false, false, false, false, false, false, false, false, false, false, false, false, false] rfl rfl (any_of HT_.out (by kernel_rfl)) (fun _ _ _ h => h) (Or.inr ⟨by rfl, rfl⟩) ?_ ?_
              rotate_left
              · simp only [Act.put, List.setIfInBounds_toArray, List.set_cons_zero, List.set_cons_succ, i64_w, i32_w]
                rfl
              refine pure_ (i := 13) (N := some 40) (v := undef) (a' := ?_) #[true, true, true, true, true, true, true, true, true, true, true, true, true, true, false, false, false, false, false, false, false, false, false, false, false, false, false, false, false] rfl rfl (any_of HT_.out (by kernel_rfl)) (fun _ _ _ h => h) (Or.inr ⟨by rfl, rfl⟩) ?_ ?_
              rotate_left
              · simp only [Act.put, List.setIfInBounds_toArray, List.set_cons_zero, List.set_cons_succ, i64_w, i32_w]
                rfl
              refine pureP_ 14 (some 41) #[true, true, true, true, true, true, true, true, true, true, true, true, true, true, true, false, false, false, false, false, false, false, false, false, false, false, false, false, false] HT_ ?_
              refine pureP_ 15 (some 42) #[true, true, true, true, true, true, true, true, true, true, true, true, true, true, true, true, false, false, false, false, false, false, false, false, false, false, false, false, false] HT_ ?_
              refine pure_ (i := 16) (N := some 43) (v := undef) (a' := ?_) #[true, true, true, true, true, true, true, true, true, true, true, true, true, true, true, true, true, false, false, false, false, false, false, false, false, false, false, false, false] rfl rfl (any_of HT_.out (by kernel_rfl)) (fun _ _ _ h => h) (Or.inr ⟨by rfl, rfl⟩) ?_ ?_
              rotate_left
              · simp only [Act.put, List.setIfInBounds_toArray, List.set_cons_zero, List.set_cons_succ, i64_w, i32_w]
                rfl
              refine pure_ (i := 17) (N := some 44) (v := undef) (a' := ?_) #[true, true, true, true, true, true, true, true, true, true, true, true, true, true, true, true, true, true, false, false, false, false, false, false, false, false, false, false, false] rfl rfl (any_of HT_.out (by kernel_rfl)) (fun _ _ _ h => h) (Or.inr ⟨by rfl, rfl⟩) ?_ ?_
              rotate_left
              · simp only [Act.put, List.setIfInBounds_toArray, List.set_cons_zero, List.set_cons_succ, i64_w, i32_w]
                rfl
              refine pure_ (i := 18) (N := some 45) (v := undef) (a' := ?_) #[true, true, true, true, true, true, true, true, true, true, true, true, true, true, true, true, true, true, true, false, false, false, false, false, false, false, false, false, false] rfl rfl (any_of HT_.out (by kernel_rfl)) (fun _ _ _ h => h) (Or.inr ⟨by rfl, rfl⟩) ?_ ?_
              rotate_left
              · simp only [Act.put, List.setIfInBounds_toArray, List.set_cons_zero, List.set_cons_succ, i64_w, i32_w]
                rfl
              refine pure_ (i := 19) (N := some 46) (v := undef) (a' := ?_) #[true, true, true, true, true, true, true, true, true, true, true, true, true, true, true, true, true, true, true, true, false, false, false, false, false, false, false, false, false] rfl rfl (any_of HT_.out (by kernel_rfl)) (fun _ _ _ h => h) (Or.inr ⟨by rfl, rfl⟩) ?_ ?_
              rotate_left
              · simp only [Act.put, List.setIfInBounds_toArray, List.set_cons_zero, List.set_cons_succ, i64_w, i32_w]
                rfl
              refine pure_ (i := 20) (N := some 47) (v := undef) (a' := ?_) #[true, true, true, true, true, true, true, true, true, true, true, true, true, true, true, true, true, true, true, true, true, false, false, false, false, false, false, false, false] rfl rfl (any_of HT_.out (by kernel_rfl)) (fun _ _ _ h => h) (Or.inr ⟨by rfl, rfl⟩) ?_ ?_
              rotate_left
              · simp only [Act.put, List.setIfInBounds_toArray, List.set_cons_zero, List.set_cons_succ, i64_w, i32_w]
                rfl
              refine pure_ (i := 21) (N := some 48) (v := undef) (a' := ?_) #[true, true, true, true, true, true, true, true, true, true, true, true, true, true, true, true, true, true, true, true, true, true, false, false, false, false, false, false, false] rfl rfl (any_of HT_.out (by kernel_rfl)) (fun _ _ _ h => h) (Or.inr ⟨by rfl, rfl⟩) ?_ ?_
              rotate_left
              · simp only [Act.put, List.setIfInBounds_toArray, List.set_cons_zero, List.set_cons_succ, i64_w, i32_w]
                rfl
              refine pure_ (i := 22) (N := some 49) (v := undef) (a' := ?_) #[true, true, true, true, true, true, true, true, true, true, true, true, true, true, true, true, true, true, true, true, true, true, true, false, false, false, false, false, false] rfl rfl (any_of HT_.out (by kernel_rfl)) (fun _ _ _ h => h) (Or.inr ⟨by rfl, rfl⟩) ?_ ?_
              rotate_left
              · simp only [Act.put, List.setIfInBounds_toArray, List.set_cons_zero, List.set_cons_succ, i64_w, i32_w]
                rfl
              refine pure_ (i := 23) (N := some 50) (v := undef) (a' := ?_) #[true, true, true, true, true, true, true, true, true, true, true, true, true, true, true, true, true, true, true, true, true, true, true, true, false, false, false, false, false] rfl rfl (any_of HT_.out (by kernel_rfl)) (fun _ _ _ h => h) (Or.inr ⟨by rfl, rfl⟩) ?_ ?_
              rotate_left
              · simp only [Act.put, List.setIfInBounds_toArray, List.set_cons_zero, List.set_cons_succ, i64_w, i32_w]
                rfl
              refine pure_ (i := 24) (N := some 51) (v := undef) (a' := ?_) #[true, true, true, true, true, true, true, true, true, true, true, true, true, true, true, true, true, true, true, true, true, true, true, true, true, false, false, false, false] rfl rfl (any_of HT_.out (by kernel_rfl)) (fun _ _ _ h => h) (Or.inr ⟨by rfl, rfl⟩) ?_ ?_
              rotate_left
              · simp only [Act.put, List.setIfInBounds_toArray, List.set_cons_zero, List.set_cons_succ, i64_w, i32_w]
                rfl
              refine pure_ (i := 25) (N := some 52) (v := undef) (a' := ?_) #[true, true, true, true, true, true, true, true, true, true, true, true, true, true, true, true, true, true, true, true, true, true, true, true, true, true, false, false, false] rfl rfl (any_of HT_.out (by kernel_rfl)) (fun _ _ _ h => h) (Or.inr ⟨by rfl, rfl⟩) ?_ ?_
              rotate_left
              · simp only [Act.put, List.setIfInBounds_toArray, List.set_cons_zero, List.set_cons_succ, i64_w, i32_w]
                rfl
              refine pure_ (i := 26) (N := some 53) (v := undef) (a' := ?_) #[true, true, true, true, true, true, true, true, true, true, true, true, true, true, true, true, true, true, true, true, true, true, true, true, true, true, true, false, false] rfl rfl (any_of HT_.out (by kernel_rfl)) (fun _ _ _ h => h) (Or.inr ⟨by rfl, rfl⟩) ?_ ?_
              rotate_left
              · simp only [Act.put, List.setIfInBounds_toArray, List.set_cons_zero, List.set_cons_succ, i64_w, i32_w]
                rfl
              refine pure_ (i := 27) (N := some 54) (v := undef) (a' := ?_) #[true, true, true, true, true, true, true, true, true, true, true, true, true, true, true, true, true, true, true, true, true, true, true, true, true, true, true, true, false] rfl rfl (any_of HT_.out (by kernel_rfl)) (fun _ _ _ h => h) (Or.inr ⟨by rfl, rfl⟩) ?_ ?_
              rotate_left
              · simp only [Act.put, List.setIfInBounds_toArray, List.set_cons_zero, List.set_cons_succ, i64_w, i32_w]
                rfl
              refine pureP_ 28 (some 55) #[true, true, true, true, true, true, true, true, true, true, true, true, true, true, true, true, true, true, true, true, true, true, true, true, true, true, true, true, true] HT_ ?_
              refine done_ (done_of HT_.out (by kernel_rfl)) ?_
              try go_wp2
              go_meet
              case rel => exact ⟨_, (true), (by first | rfl | (simp; done) | (simp [*]; done)), H', ⟨by have := HJ3.out; first | omega | exact Nat.le_refl _⟩, ⟨kdU_ HO_3.out⟩, ⟨bel_⟩⟩
          case rest =>
            clear HC17
            (try clear c1); (try clear c2); (try clear c20); (try clear c20b0); (try clear c20b1); (try clear c26); (try clear c26b0); (try clear c26b1); (try clear c27); (try clear c27b0); (try clear c27b1); (try clear c29b0); (try clear c30b0); (try clear q35); (try clear c37); (try clear q37); (try clear q037)
            obtain ⟨kq, x55_16, rfl, HA, HJ16, HO_3, HB⟩ := hcut
            cases kq with
            | zero => exact absurd HA.out (by simp [laws_FnTreeHalves.j1])
            | succ kj16 =>
              have H := HA.out
              clear HA
              simp only [laws_FnTreeHalves.j1] at H
              by_cases c41 : x55_16 = true
              · subst c41
                rw [if_pos rfl] at H
                exact absurd ((Option.some.inj H).trans hr_) (by decide)
              · replace c41 := Bool.eq_false_iff.mpr c41
                subst c41
                rw [if_neg (show ¬ (false = true) by decide)] at H
                obtain ⟨⟨t1237, t1238, t1239, t1240, t1241⟩, A42, H⟩ := bnd_ H
                dsimp only at H
                by_cases c43 : t1237 = (t1197.length : Int)
                · rw [if_pos c43] at H
                  have c43b0 : (t1237 == (t1197.length : Int)) = true := beq_iff_eq.mpr c43
                  have c43b1 : (t1237 != (t1197.length : Int)) = false := bne_eq_false_iff_eq.mpr c43
                  clear c43
                  obtain ⟨⟨t1243, t1244, t1245, t1246⟩, A44, H⟩ := bnd_ H
                  dsimp only at H
                  obtain rfl := Option.some.inj H
                  try go_wp2_with (first | ((with_reducible refine gate_callee (f := 49) rfl ?_); refine goL_ (some 57) Try.func49 #[.slice Ao18 t1197.length co18] ?_; (with_reducible refine (impl_TreePoint.calls kj16 _ _ t1197 t1237 t1238 t1239 t1240 t1241 _ ?side1 ?side2 A42.out).mono ?_); (case side1 => repeat (first | exact (Kd.R_reads' HO_3.out).2.2 | (with_reducible refine Kd.C_alloc ?_ _) | (with_reducible refine Kd.C_drewN ?_ _) | (with_reducible refine Kd.C_drew ?_))); (case side2 => exact (Kd.R_reads' HO_3.out).2.1); rintro e w45 ⟨rfl, hb⟩; refine ⟨_, rfl, ?_⟩; replace HO_3 := Aside0.mk (Kd.R_below (kdU_ HO_3.out) hb); replace HB := stepB_ hb; (try clear hb)) | ((with_reducible refine gate_dst (N := 5) rfl ?_); (try (refine gate_guard (by rfl) ?_; dsimp only)); refine boxE_ (cs := #[.int .i64 0, .int .u64 0, .int .u64 0, .int .u64 0, .int .u64 0]) (t := 31) ?_; intro gb1242 hg w46 hbox hb; replace HO_3 := Aside0.mk (Kd.R_below (kdU_ HO_3.out) hb); have BK1242 := Aside0.mk (hbox); have GW1242 := sizeB_ hg; have GE1242 := sizeB_ hg; replace HB := stepB_ hb; clear hb hbox hg; obtain ⟨hcz47_0, hcz47_1, hcz47_2, hcz47_3, hcz47_4, hfz47_0, hfz47_1, hfz47_2, hfz47_3, hfz47_4⟩ := cz5_ BK1242.out))
                  have n0_ : Aside0 (Kd.R Kd.string 9 (((((w46.setCell ⟨gb1242, 0, none⟩ (.int .i64 t1237)).setCell ⟨gb1242, 1, none⟩ (.int .u64 t1238)).setCell ⟨gb1242, 2, none⟩ (.int .u64 t1239)).setCell ⟨gb1242, 3, none⟩ (.int .u64 t1240)).setCell ⟨gb1242, 4, none⟩ (.int .u64 t1241)) w.heap.size (fun _ => True) (.slice Ao18 t1197.length co18) t1197) := ⟨by (with_reducible repeat (first | apply Kd.R_alloc | apply Kd.R_drewN | apply Kd.R_drew)); exact Kd.R_mono (Kd.R_far (p := ⟨gb1242, 4, none⟩) (Kd.R_far (p := ⟨gb1242, 3, none⟩) (Kd.R_far (p := ⟨gb1242, 2, none⟩) (Kd.R_far (p := ⟨gb1242, 1, none⟩) (Kd.R_far (p := ⟨gb1242, 0, none⟩) (Kd.R_types HO_3.out BK1242.out (by decide)) (fun _ hk => hk.2) (.int .i64 t1237)) (fun _ hk => hk.2) (.int .u64 t1238)) (fun _ hk => hk.2) (.int .u64 t1239)) (fun _ hk => hk.2) (.int .u64 t1240)) (fun _ hk => hk.2) (.int .u64 t1241)) (fun _ hk => trivial)⟩
                  have n1_ : Aside0 ((((((w46.setCell ⟨gb1242, 0, none⟩ (.int .i64 t1237)).setCell ⟨gb1242, 1, none⟩ (.int .u64 t1238)).setCell ⟨gb1242, 2, none⟩ (.int .u64 t1239)).setCell ⟨gb1242, 3, none⟩ (.int .u64 t1240)).setCell ⟨gb1242, 4, none⟩ (.int .u64 t1241)).heap[gb1242]? = some (.cells #[.int .i64 t1237, .int .u64 t1238, .int .u64 t1239, .int .u64 t1240, .int .u64 t1241] 31 (0, 0))) := ⟨blkF_ BK1242.out⟩
                  have n2_ : Aside0 (Below w.heap.size w (((((w46.setCell ⟨gb1242, 0, none⟩ (.int .i64 t1237)).setCell ⟨gb1242, 1, none⟩ (.int .u64 t1238)).setCell ⟨gb1242, 2, none⟩ (.int .u64 t1239)).setCell ⟨gb1242, 3, none⟩ (.int .u64 t1240)).setCell ⟨gb1242, 4, none⟩ (.int .u64 t1241))) := ⟨bel_⟩
                  (try clear HO_3); (try clear BK1242); (try clear HB)
                  generalize (((((w46.setCell ⟨gb1242, 0, none⟩ (.int .i64 t1237)).setCell ⟨gb1242, 1, none⟩ (.int .u64 t1238)).setCell ⟨gb1242, 2, none⟩ (.int .u64 t1239)).setCell ⟨gb1242, 3, none⟩ (.int .u64 t1240)).setCell ⟨gb1242, 4, none⟩ (.int .u64 t1241)) = w48 at n0_ n1_ n2_ ⊢
                  have HO_3 := n0_
                  have BK1242 := n1_
                  have HB := n2_
                  clear n0_ n1_ n2_
                  replace HO_3 := Aside0.mk (Kd.R_drew HO_3.out)
                  replace BK1242 := Aside0.mk (blk_drew BK1242.out)
                  replace HB := Aside0.mk (below_drew1 HB.out)
                  refine start_ (n := 13) (S := fun w' => w'.cell? ⟨gb1242, 0, none⟩ = some (.int .i64 t1237) ∧ w'.cell? ⟨gb1242, 1, none⟩ = some (.int .u64 t1238) ∧ w'.cell? ⟨gb1242, 2, none⟩ = some (.int .u64 t1239) ∧ w'.cell? ⟨gb1242, 3, none⟩ = some (.int .u64 t1240) ∧ w'.cell? ⟨gb1242, 4, none⟩ = some (.int .u64 t1241)) (ds := []) #[false, false, false, false, false, false, false, false, false, false, false, false, false] (by kernel_rfl) rfl rfl ⟨(blk_cell BK1242.out 0).trans rfl, (blk_cell BK1242.out 1).trans rfl, (blk_cell BK1242.out 2).trans rfl, (blk_cell BK1242.out 3).trans rfl, (blk_cell BK1242.out 4).trans rfl⟩ (fun hHeld => ?_); refine with_tabW laws_FnTreeHalves.tab10 laws_FnTreeHalves.bits10 (fun HT_ HW_ => ?_)
                  generalize w48.drew = w49 at HO_3 BK1242 HB hHeld ⊢
                  refine pureP_ 0 (some 58) #[true, false, false, false, false, false, false, false, false, false, false, false, false] HT_ ?_
                  refine pureP_ 2 (some 60) #[true, false, true, false, false, false, false, false, false, false, false, false, false] HT_ ?_
                  refine pureP_ 3 (some 61) #[true, false, true, true, false, false, false, false, false, false, false, false, false] HT_ ?_
                  refine takeP_ 1 (some 59) #[true, true, true, true, false, false, false, false, false, false, false, false, false] HT_ HW_ hHeld ?_
                  refine pureP_ 4 (some 62) #[true, true, true, true, true, false, false, false, false, false, false, false, false] HT_ ?_
                  refine pureP_ 5 (some 63) #[true, true, true, true, true, true, false, false, false, false, false, false, false] HT_ ?_
                  refine pureP_ 6 (some 64) #[true, true, true, true, true, true, true, false, false, false, false, false, false] HT_ ?_
                  refine pureP_ 8 (some 66) #[true, true, true, true, true, true, true, false, true, false, false, false, false] HT_ ?_
                  refine takeP_ 7 (some 65) #[true, true, true, true, true, true, true, true, true, false, false, false, false] HT_ HW_ hHeld ?_
                  refine oneP_ 9 (some 67) #[true, true, true, true, true, true, true, true, true, true, false, false, false] HT_ (fun K hK => ?_)
                  refine goN_ Try.func45 #[.slice Ao18 t1197.length co18] ?_
                  with_reducible refine (impl_TreeRoot.calls kj16 _ _ t1197 t1243 t1244 t1245 t1246 _ ?side1 ?side2 A44.out).mono ?_
                  (case side1 => repeat (first | exact (Kd.R_reads' HO_3.out).2.2 | (with_reducible refine Kd.C_alloc ?_ _) | (with_reducible refine Kd.C_drewN ?_ _) | (with_reducible refine Kd.C_drew ?_)))
                  (case side2 => exact (Kd.R_reads' HO_3.out).2.1)
                  rintro e w50 ⟨rfl, hb⟩
                  refine ⟨_, rfl, ?_⟩
                  replace HO_3 := Aside0.mk (Kd.R_below (kdU_ HO_3.out) hb)
                  replace BK1242 := blkBel_ BK1242.out hb
                  replace HB := stepB_ hb
                  (try clear hb); (try clear hk)
                  refine hK.out _ _ ⟨(blk_cell BK1242.out 0).trans rfl, (blk_cell BK1242.out 1).trans rfl, (blk_cell BK1242.out 2).trans rfl, (blk_cell BK1242.out 3).trans rfl, (blk_cell BK1242.out 4).trans rfl⟩ (fun hHeld => ?_)
                  clear hK K
                  refine norm_ (a' := ?_) ?_ ?_
                  rotate_left
                  · show Act.put _ (some 67) _ = _
                    simp only [Act.put, List.setIfInBounds_toArray, List.set_cons_zero, List.set_cons_succ, i64_w, i32_w]
                    rfl
                  refine pureP_ 10 (some 68) #[true, true, true, true, true, true, true, true, true, true, true, false, false] HT_ ?_
                  refine pureP_ 11 (some 69) #[true, true, true, true, true, true, true, true, true, true, true, true, false] HT_ ?_
                  refine pureP_ 12 (some 2) #[true, true, true, true, true, true, true, true, true, true, true, true, true] HT_ ?_
                  refine done_ (done_of HT_.out (by kernel_rfl)) ?_
                  try go_wp2
                  go_ret
                  exact ⟨rfl_, bel_⟩
                · rw [if_neg c43] at H
                  have c43b0 : (t1237 == (t1197.length : Int)) = false := beq_eq_false_iff_ne.mpr c43
                  have c43b1 : (t1237 != (t1197.length : Int)) = true := bne_iff_ne.mpr c43
                  exact absurd ((Option.some.inj H).trans hr_) (by decide)

/-- THE ONE PURE STATEMENT of laws_FnTreeHalves: yours. -/
def laws_FnTreeHalves.Pure : Prop := ∀ (l0 : List Int), l0.length ≤ maxLen → l0.length * 1 ≤ 140737488351232 → (∀ x ∈ l0, (Lit.int .u8 x).wf = true) → ∃ k, laws_FnTreeHalves.f k l0 = some true
theorem laws_FnTreeHalves.walk (P : laws_FnTreeHalves.Pure) (a0 : Option Addr) (len0 cap0 : Nat) (z0 : List Int) (w : World) (w0 : (a0 = none ∧ len0 = 0 ∧ cap0 = 0 ∧ z0 = []) ∨ ∃ x, a0 = some x ∧ len0 ≤ cap0 ∧ cap0 ≤ maxLen ∧ z0.length = cap0 ∧ (∀ i, i < z0.length → w.cell? (x.add i) = some (.int .u8 (z0.getD i 0))) ∧ ∀ n ∈ z0, (Lit.int .u8 n).wf = true) (y0 : len0 * 1 ≤ 140737488351232) :
    Calls Try.prog 9 #[.slice a0 len0 cap0] w fun e w' => e = .returned (.bool true) ∧ Below w.heap.size w w' := by
  obtain ⟨l0, rfl, hr0, hm0, hw0, hc0⟩ := ReadsInt.ofRowC w0
  obtain ⟨k, h⟩ := P l0 hm0 y0 hw0
  refine (laws_FnTreeHalves.calls k _ _ l0 true rfl w (Kd.C_of_reads (d := (0 : Int)) (h1 := fun _ => rfl) hr0) hc0 h).mono ?_
  rintro e w' ⟨rfl, hd⟩
  exact ⟨rfl, hd⟩

end
end Go.Proofs.Ytemfciflhbhobaa.B
