/- What the Go function loop.example/belfry/laws.FnHashBlockApart does is what the Lean function .f of its name here says; condition: .f gives an answer. (Written by the session's program pp.py over the kit's print; Lean checks it.) -/
import Derived.Test.YtfbhlofifodkjaaK
import Derived.Test.YtfbhlofifodkjaaE0
import Derived.Test.YtfbhlofifodkjaaFSpecHashBlock
import Derived.Test.YtfbhlofifodkjaaFImplHashBlock
import Derived.Test.YtfbhlofifodkjaaFImplHashOf
import Derived.Test.YtfbhlofifodkjaaFSpecDrawHashBlock
import Derived.Test.YtfbhlofifodkjaaFLawsMore
import Derived.Test.YtfbhlofifodkjaaFLawsBare
import Derived.Test.YtfbhlofifodkjaaFSpecDrawHashOf
import Derived.Test.YtfbhlofifodkjaaFLawsAt
namespace Go.Proofs.Ytfbhlofifodkjaa.B
open Go.RowKit Go.Proofs.YtfbhlofifodkjaaW.PrintWords Go.Proofs.YtfbhlofifodkjaaW.PrintLast Go.Proofs.YtfbhlofifodkjaaW.PrintMore
attribute [local go_sem] max2_int min2_int max_two min_two max_three min_three max_four min_four   -- for this text's walks alone
set_option linter.unusedVariables false
set_option linter.unusedSimpArgs false

attribute [local go_sem high] eqA30
/-! ### laws_FnHashBlockApart: function 19 -/
mutual
def laws_FnHashBlockApart.j0 : Nat → List Int → Bool → Option (Bool)
  | 0, _, _ => none
  | k + 1, x0, x56 => if x56 = true then (some false) else ((spec_DrawHashOf.f k x0).bind fun t708 => ((laws_bare.f k t708).bind fun t709 => ((laws_more.f k x0 9).bind fun t710 => ((spec_DrawHashOf.f k t710).bind fun t713 => ((laws_bare.f k t713).bind fun t714 => (if (t709.size : Int) > 23 then (if 0 ≤ 23 then (if 23 ≤ (t709.size : Int) then (laws_FnHashBlockApart.j1 k x0 (t709.extract 0 23) t714) else (none)) else (none)) else (laws_FnHashBlockApart.j1 k x0 t709 t714)))))))
def laws_FnHashBlockApart.j1 : Nat → List Int → ByteArray → ByteArray → Option (Bool)
  | 0, _, _, _ => none
  | k + 1, x0, x7, x8 => if (x8.size : Int) > 23 then (if 0 ≤ 23 then (if 23 ≤ (x8.size : Int) then (laws_FnHashBlockApart.j2 k x0 x7 (x8.extract 0 23)) else (none)) else (none)) else (laws_FnHashBlockApart.j2 k x0 x7 x8)
def laws_FnHashBlockApart.j2 : Nat → List Int → ByteArray → ByteArray → Option (Bool)
  | 0, _, _, _ => none
  | k + 1, x0, x7, x8 => (laws_at.f x0 6).bind fun t715 => (if (wrap64 ((x7.size : Int) + 1)) = 0 then (none) else ((impl_HashOf.f k x7).bind fun bt716 => ((impl_HashOf.f k x8).bind fun bt720 => (if ((bt716.1 == bt720.1 && (bt716.2.1 == bt720.2.1 && (bt716.2.2.1 == bt720.2.2.1 && (bt716.2.2.2 == bt720.2.2.2)))) == (x7.toList == x8.toList)) = true then (if 0 ≤ (Int.tmod (wrap64 (t715)) (wrap64 ((x7.size : Int) + 1))) then (if (Int.tmod (wrap64 (t715)) (wrap64 ((x7.size : Int) + 1))) ≤ (x7.size : Int) then (if (x7.extract 0 ((Int.tmod (wrap64 (t715)) (wrap64 ((x7.size : Int) + 1))) : Int).toNat).size + 1 ≤ 9223372036854775807 then (if ((x7.extract 0 ((Int.tmod (wrap64 (t715)) (wrap64 ((x7.size : Int) + 1))) : Int).toNat) ++ (⟨#[255]⟩ : ByteArray)).size + (x7.extract ((Int.tmod (wrap64 (t715)) (wrap64 ((x7.size : Int) + 1))) : Int).toNat x7.size).size ≤ 9223372036854775807 then ((impl_HashOf.f k (((x7.extract 0 ((Int.tmod (wrap64 (t715)) (wrap64 ((x7.size : Int) + 1))) : Int).toNat) ++ (⟨#[255]⟩ : ByteArray)) ++ (x7.extract ((Int.tmod (wrap64 (t715)) (wrap64 ((x7.size : Int) + 1))) : Int).toNat x7.size))).bind fun bt724 => ((impl_HashOf.f k x7).bind fun bt728 => (some (bt724.1 == bt728.1 && (bt724.2.1 == bt728.2.1 && (bt724.2.2.1 == bt728.2.2.1 && (bt724.2.2.2 == bt728.2.2.2))))))) else (none)) else (none)) else (none)) else (none)) else (some false)))))
end
def laws_FnHashBlockApart.f (k : Nat) (l0 : List Int) : Option (Bool) := if (l0.length : Int) > 1048576 then (some true) else ((spec_DrawHashBlock.f k l0).bind fun bt661 => ((laws_more.f k l0 3).bind fun t671 => ((spec_DrawHashBlock.f k t671).bind fun bt674 => ((impl_HashBlock.f k bt661.1 bt661.2.1 bt661.2.2.1 bt661.2.2.2.1 bt661.2.2.2.2.1 bt661.2.2.2.2.2.1 bt661.2.2.2.2.2.2.1 bt661.2.2.2.2.2.2.2).bind fun bt684 => ((spec_HashBlock.f k bt661.1 bt661.2.1 bt661.2.2.1 bt661.2.2.2.1 bt661.2.2.2.2.1 bt661.2.2.2.2.2.1 bt661.2.2.2.2.2.2.1 bt661.2.2.2.2.2.2.2).bind fun bt688 => (if (!(bt684.1 == bt688.1) || (!(bt684.2.1 == bt688.2.1) || (!(bt684.2.2.1 == bt688.2.2.1) || (!(bt684.2.2.2 == bt688.2.2.2))))) = true then (laws_FnHashBlockApart.j0 k l0 true) else ((impl_HashBlock.f k bt661.1 bt661.2.1 bt661.2.2.1 bt661.2.2.2.1 bt661.2.2.2.2.1 bt661.2.2.2.2.2.1 bt661.2.2.2.2.2.2.1 bt661.2.2.2.2.2.2.2).bind fun bt692 => ((impl_HashBlock.f k bt661.1 bt661.2.1 bt661.2.2.1 bt661.2.2.2.1 bt674.1 bt674.2.1 bt674.2.2.1 bt674.2.2.2.1).bind fun bt696 => (if ((bt692.1 == bt696.1 && (bt692.2.1 == bt696.2.1 && (bt692.2.2.1 == bt696.2.2.1 && (bt692.2.2.2 == bt696.2.2.2)))) != (bt661.2.2.2.2.1 == bt674.1 && (bt661.2.2.2.2.2.1 == bt674.2.1 && (bt661.2.2.2.2.2.2.1 == bt674.2.2.1 && (bt661.2.2.2.2.2.2.2 == bt674.2.2.2.1))))) = true then (laws_FnHashBlockApart.j0 k l0 true) else ((impl_HashBlock.f k bt661.1 bt661.2.1 bt661.2.2.1 bt661.2.2.2.1 bt661.2.2.2.2.1 bt661.2.2.2.2.2.1 bt661.2.2.2.2.2.2.1 bt661.2.2.2.2.2.2.2).bind fun bt700 => ((impl_HashBlock.f k bt661.1 bt661.2.1 bt661.2.2.1 bt661.2.2.2.1 bt674.2.2.2.2.1 bt674.2.2.2.2.2.1 bt674.2.2.2.2.2.2.1 bt674.2.2.2.2.2.2.2).bind fun bt704 => (laws_FnHashBlockApart.j0 k l0 ((bt700.1 == bt704.1 && (bt700.2.1 == bt704.2.1 && (bt700.2.2.1 == bt704.2.2.1 && (bt700.2.2.2 == bt704.2.2.2)))) != (bt661.2.2.2.2.1 == bt674.2.2.2.2.1 && (bt661.2.2.2.2.2.1 == bt674.2.2.2.2.2.1 && (bt661.2.2.2.2.2.2.1 == bt674.2.2.2.2.2.2.1 && (bt661.2.2.2.2.2.2.2 == bt674.2.2.2.2.2.2.2)))))))))))))))))
theorem laws_FnHashBlockApart.mono_l : ∀ k, (∀ y0 y1, LeO (laws_FnHashBlockApart.j0 k y0 y1) (laws_FnHashBlockApart.j0 (k + 1) y0 y1)) ∧ (∀ y0 y1 y2, LeO (laws_FnHashBlockApart.j1 k y0 y1 y2) (laws_FnHashBlockApart.j1 (k + 1) y0 y1 y2)) ∧ (∀ y0 y1 y2, LeO (laws_FnHashBlockApart.j2 k y0 y1 y2) (laws_FnHashBlockApart.j2 (k + 1) y0 y1 y2))
  | 0 => ⟨fun _ _ r h => by simp [laws_FnHashBlockApart.j0] at h, fun _ _ _ r h => by simp [laws_FnHashBlockApart.j1] at h, fun _ _ _ r h => by simp [laws_FnHashBlockApart.j2] at h⟩
  | k + 1 => by
    obtain ⟨ih0, ih1, ih2⟩ := laws_FnHashBlockApart.mono_l k
    refine ⟨?_, ?_, ?_⟩
    · intro y0 y1
      unfold laws_FnHashBlockApart.j0
      repeat' first
      | (with_reducible exact ih0 _ _)
      | (with_reducible exact ih1 _ _ _)
      | (with_reducible exact ih2 _ _ _)
      | (with_reducible exact impl_HashBlock.mono _ _ _ _ _ _ _ _ _)
      | (with_reducible exact impl_HashOf.mono _ _)
      | (with_reducible exact laws_bare.mono _ _)
      | (with_reducible exact laws_more.mono _ _ _)
      | (with_reducible exact spec_DrawHashBlock.mono _ _)
      | (with_reducible exact spec_DrawHashOf.mono _ _)
      | (with_reducible exact spec_HashBlock.mono _ _ _ _ _ _ _ _ _)
      | (with_reducible exact LeO.refl _)
      | (with_reducible exact LeO.none _)
      | (with_reducible refine LeO.ite ?_ ?_)
      | (with_reducible refine LeO.bind ?_ (fun _ => ?_))
      | exact ih0 _ _
      | exact ih1 _ _ _
      | exact ih2 _ _ _
      | exact impl_HashBlock.mono _ _ _ _ _ _ _ _ _
      | exact impl_HashOf.mono _ _
      | exact laws_bare.mono _ _
      | exact laws_more.mono _ _ _
      | exact spec_DrawHashBlock.mono _ _
      | exact spec_DrawHashOf.mono _ _
      | exact spec_HashBlock.mono _ _ _ _ _ _ _ _ _
      | exact LeO.none _
      | refine LeO.ite ?_ ?_
      | refine LeO.bind ?_ (fun _ => ?_)
    · intro y0 y1 y2
      unfold laws_FnHashBlockApart.j1
      repeat' first
      | (with_reducible exact ih0 _ _)
      | (with_reducible exact ih1 _ _ _)
      | (with_reducible exact ih2 _ _ _)
      | (with_reducible exact impl_HashBlock.mono _ _ _ _ _ _ _ _ _)
      | (with_reducible exact impl_HashOf.mono _ _)
      | (with_reducible exact laws_bare.mono _ _)
      | (with_reducible exact laws_more.mono _ _ _)
      | (with_reducible exact spec_DrawHashBlock.mono _ _)
      | (with_reducible exact spec_DrawHashOf.mono _ _)
      | (with_reducible exact spec_HashBlock.mono _ _ _ _ _ _ _ _ _)
      | (with_reducible exact LeO.refl _)
      | (with_reducible exact LeO.none _)
      | (with_reducible refine LeO.ite ?_ ?_)
      | (with_reducible refine LeO.bind ?_ (fun _ => ?_))
      | exact ih0 _ _
      | exact ih1 _ _ _
      | exact ih2 _ _ _
      | exact impl_HashBlock.mono _ _ _ _ _ _ _ _ _
      | exact impl_HashOf.mono _ _
      | exact laws_bare.mono _ _
      | exact laws_more.mono _ _ _
      | exact spec_DrawHashBlock.mono _ _
      | exact spec_DrawHashOf.mono _ _
      | exact spec_HashBlock.mono _ _ _ _ _ _ _ _ _
      | exact LeO.none _
      | refine LeO.ite ?_ ?_
      | refine LeO.bind ?_ (fun _ => ?_)
    · intro y0 y1 y2
      unfold laws_FnHashBlockApart.j2
      repeat' first
      | (with_reducible exact ih0 _ _)
      | (with_reducible exact ih1 _ _ _)
      | (with_reducible exact ih2 _ _ _)
      | (with_reducible exact impl_HashBlock.mono _ _ _ _ _ _ _ _ _)
      | (with_reducible exact impl_HashOf.mono _ _)
      | (with_reducible exact laws_bare.mono _ _)
      | (with_reducible exact laws_more.mono _ _ _)
      | (with_reducible exact spec_DrawHashBlock.mono _ _)
      | (with_reducible exact spec_DrawHashOf.mono _ _)
      | (with_reducible exact spec_HashBlock.mono _ _ _ _ _ _ _ _ _)
      | (with_reducible exact LeO.refl _)
      | (with_reducible exact LeO.none _)
      | (with_reducible refine LeO.ite ?_ ?_)
      | (with_reducible refine LeO.bind ?_ (fun _ => ?_))
      | exact ih0 _ _
      | exact ih1 _ _ _
      | exact ih2 _ _ _
      | exact impl_HashBlock.mono _ _ _ _ _ _ _ _ _
      | exact impl_HashOf.mono _ _
      | exact laws_bare.mono _ _
      | exact laws_more.mono _ _ _
      | exact spec_DrawHashBlock.mono _ _
      | exact spec_DrawHashOf.mono _ _
      | exact spec_HashBlock.mono _ _ _ _ _ _ _ _ _
      | exact LeO.none _
      | refine LeO.ite ?_ ?_
      | refine LeO.bind ?_ (fun _ => ?_)
theorem laws_FnHashBlockApart.mono : ∀ a0 k, LeO (laws_FnHashBlockApart.f k a0) (laws_FnHashBlockApart.f (k + 1) a0) := by
  intro a0 k
  obtain ⟨ih0, ih1, ih2⟩ := laws_FnHashBlockApart.mono_l k
  unfold laws_FnHashBlockApart.f
  repeat' first
      | (with_reducible exact ih0 _ _)
      | (with_reducible exact ih1 _ _ _)
      | (with_reducible exact ih2 _ _ _)
      | (with_reducible exact impl_HashBlock.mono _ _ _ _ _ _ _ _ _)
      | (with_reducible exact impl_HashOf.mono _ _)
      | (with_reducible exact laws_bare.mono _ _)
      | (with_reducible exact laws_more.mono _ _ _)
      | (with_reducible exact spec_DrawHashBlock.mono _ _)
      | (with_reducible exact spec_DrawHashOf.mono _ _)
      | (with_reducible exact spec_HashBlock.mono _ _ _ _ _ _ _ _ _)
      | (with_reducible exact LeO.refl _)
      | (with_reducible exact LeO.none _)
      | (with_reducible refine LeO.ite ?_ ?_)
      | (with_reducible refine LeO.bind ?_ (fun _ => ?_))
      | exact ih0 _ _
      | exact ih1 _ _ _
      | exact ih2 _ _ _
      | exact impl_HashBlock.mono _ _ _ _ _ _ _ _ _
      | exact impl_HashOf.mono _ _
      | exact laws_bare.mono _ _
      | exact laws_more.mono _ _ _
      | exact spec_DrawHashBlock.mono _ _
      | exact spec_DrawHashOf.mono _ _
      | exact spec_HashBlock.mono _ _ _ _ _ _ _ _ _
      | exact LeO.none _
      | refine LeO.ite ?_ ?_
      | refine LeO.bind ?_ (fun _ => ?_)
def laws_FnHashBlockApart.T5 : Bool × List (List Nat × List Nat) := (true, [([], []), ([], []), ([0, 1], [0, 1]), ([], []), ([], []), ([3, 4, 2], [3, 4]), ([2, 5], [2, 5]), ([6, 5], [6]), ([7], [7]), ([7], [7]), ([8, 9, 7, 7], [7, 8, 9]), ([7], [7]), ([7], [7]), ([11, 12, 10, 7], [7, 11, 12]), ([10, 13, 7], [7, 10, 13]), ([7], [7]), ([7], [7]), ([15, 16, 7], [7, 15, 16]), ([14, 17, 7], [7, 14, 17]), ([7, 18], [7, 18]), ([19, 13], [19]), ([20], [20]), ([20], [20]), ([21, 22, 20, 20], [20, 21, 22]), ([20], [20]), ([20], [20]), ([24, 25, 23, 20], [20, 24, 25]), ([23, 26, 20], [20, 23, 26]), ([20], [20]), ([20], [20]), ([28, 29, 20], [20, 28, 29]), ([27, 30, 20], [20, 27, 30]), ([20, 31], [20, 31])])
def laws_FnHashBlockApart.B5 : List Nat := [0, 0, 3, 0, 0, 31, 63, 127, 255, 255, 1023, 255, 255, 8191, 16383, 255, 255, 98559, 262143, 524287, 1048575, 2097151, 2097151, 8388607, 2097151, 2097151, 67108863, 134217727, 2097151, 2097151, 807403519, 2147483647, 4294967295]
theorem laws_FnHashBlockApart.tab5 : rtab .any (opsOf Try.f19 5) = laws_FnHashBlockApart.T5 := by kernel_rfl
theorem laws_FnHashBlockApart.bits5 : waitsOk laws_FnHashBlockApart.T5.2 laws_FnHashBlockApart.B5 = true := by kernel_rfl
def laws_FnHashBlockApart.T14 : Bool × List (List Nat × List Nat) := (true, [([], []), ([0], [0]), ([], []), ([2, 1], [2]), ([1, 3], [1, 3]), ([], []), ([], []), ([5, 6], [5, 6]), ([4, 7], [4, 7]), ([8, 3], [8]), ([9], [9]), ([9], [9]), ([10, 11, 9], [9, 10, 11]), ([12, 9], [9, 12]), ([9], [9]), ([9], [9]), ([14, 15, 9], [9, 14, 15]), ([13, 16, 9], [9, 13, 16]), ([17, 9, 9], [9, 17]), ([9], [9]), ([19, 18, 9], [9, 19]), ([18, 20, 9], [9, 18, 20]), ([9, 21], [9, 21]), ([22, 20, 0, 1, 2, 3, 4, 5, 6, 7, 8, 9, 10, 11, 12, 13, 14, 15, 16, 17, 18, 19, 20, 21, 22], [22])])
def laws_FnHashBlockApart.B14 : List Nat := [0, 1, 0, 7, 15, 0, 0, 96, 255, 511, 1023, 1023, 4095, 8191, 1023, 1023, 50175, 131071, 262143, 1023, 1048575, 2097151, 4194303, 8388607]
theorem laws_FnHashBlockApart.tab14 : rtab .any (opsOf Try.f19 14) = laws_FnHashBlockApart.T14 := by kernel_rfl
theorem laws_FnHashBlockApart.bits14 : waitsOk laws_FnHashBlockApart.T14.2 laws_FnHashBlockApart.B14 = true := by kernel_rfl
set_option maxHeartbeats 8000000 in
set_option maxRecDepth 100000 in
theorem laws_FnHashBlockApart.calls (k : Nat) (A0 : Option Addr) (c0 : Nat) (l0 : List Int) (r : Bool) (w : World) (hr0 : Kd.C (Kd.int .u8) w A0 l0.length l0) (hc0 : l0.length ≤ c0) (h : laws_FnHashBlockApart.f k l0 = some r) :
    Calls Try.prog 19 #[.slice A0 l0.length c0] w fun e w' => e = .returned (.bool r) ∧ Below w.heap.size w w' := by
  have hu30 := Try.underlying30
  have HR0 := Aside0.mk hr0
  have HC0 := Aside0.mk hc0
  clear hr0 hc0
  have HB := Aside0.mk (Below.refl w.heap.size w)
  have H : (if (l0.length : Int) > 1048576 then (some true) else ((spec_DrawHashBlock.f k l0).bind fun bt661 => ((laws_more.f k l0 3).bind fun t671 => ((spec_DrawHashBlock.f k t671).bind fun bt674 => ((impl_HashBlock.f k bt661.1 bt661.2.1 bt661.2.2.1 bt661.2.2.2.1 bt661.2.2.2.2.1 bt661.2.2.2.2.2.1 bt661.2.2.2.2.2.2.1 bt661.2.2.2.2.2.2.2).bind fun bt684 => ((spec_HashBlock.f k bt661.1 bt661.2.1 bt661.2.2.1 bt661.2.2.2.1 bt661.2.2.2.2.1 bt661.2.2.2.2.2.1 bt661.2.2.2.2.2.2.1 bt661.2.2.2.2.2.2.2).bind fun bt688 => (if (!(bt684.1 == bt688.1) || (!(bt684.2.1 == bt688.2.1) || (!(bt684.2.2.1 == bt688.2.2.1) || (!(bt684.2.2.2 == bt688.2.2.2))))) = true then (laws_FnHashBlockApart.j0 k l0 true) else ((impl_HashBlock.f k bt661.1 bt661.2.1 bt661.2.2.1 bt661.2.2.2.1 bt661.2.2.2.2.1 bt661.2.2.2.2.2.1 bt661.2.2.2.2.2.2.1 bt661.2.2.2.2.2.2.2).bind fun bt692 => ((impl_HashBlock.f k bt661.1 bt661.2.1 bt661.2.2.1 bt661.2.2.2.1 bt674.1 bt674.2.1 bt674.2.2.1 bt674.2.2.2.1).bind fun bt696 => (if ((bt692.1 == bt696.1 && (bt692.2.1 == bt696.2.1 && (bt692.2.2.1 == bt696.2.2.1 && (bt692.2.2.2 == bt696.2.2.2)))) != (bt661.2.2.2.2.1 == bt674.1 && (bt661.2.2.2.2.2.1 == bt674.2.1 && (bt661.2.2.2.2.2.2.1 == bt674.2.2.1 && (bt661.2.2.2.2.2.2.2 == bt674.2.2.2.1))))) = true then (laws_FnHashBlockApart.j0 k l0 true) else ((impl_HashBlock.f k bt661.1 bt661.2.1 bt661.2.2.1 bt661.2.2.2.1 bt661.2.2.2.2.1 bt661.2.2.2.2.2.1 bt661.2.2.2.2.2.2.1 bt661.2.2.2.2.2.2.2).bind fun bt700 => ((impl_HashBlock.f k bt661.1 bt661.2.1 bt661.2.2.1 bt661.2.2.2.1 bt674.2.2.2.2.1 bt674.2.2.2.2.2.1 bt674.2.2.2.2.2.2.1 bt674.2.2.2.2.2.2.2).bind fun bt704 => (laws_FnHashBlockApart.j0 k l0 ((bt700.1 == bt704.1 && (bt700.2.1 == bt704.2.1 && (bt700.2.2.1 == bt704.2.2.1 && (bt700.2.2.2 == bt704.2.2.2)))) != (bt661.2.2.2.2.1 == bt674.2.2.2.2.1 && (bt661.2.2.2.2.2.1 == bt674.2.2.2.2.2.1 && (bt661.2.2.2.2.2.2.1 == bt674.2.2.2.2.2.2.1 && (bt661.2.2.2.2.2.2.2 == bt674.2.2.2.2.2.2.2)))))))))))))))))) = some r := h
  clear h
  by_cases c2 : (l0.length : Int) > 1048576
  · rw [if_pos c2] at H
    have c2b0 : decide (1048576 < (l0.length : Int)) = true := decide_eq_true c2
    have c2b1 : decide (1048576 < l0.length) = true := decide_eq_true (by omega)
    clear c2
    obtain rfl := Option.some.inj H
    go_enter Try.func19, Try.ntmps19
    go_wp2
    go_ret
    exact ⟨by first | rfl | (simp [errW_none, errW_some] <;> rfl) | (simp [*, errW_none, errW_some] <;> rfl), by repeat (first | (with_reducible first | exact HB.out | apply below_alloc | apply pw_below_drewN | apply below_drew1) | exact HB.out)⟩
  · rw [if_neg c2] at H
    have c2b0 : decide (1048576 < (l0.length : Int)) = false := decide_eq_false c2
    have c2b1 : decide (1048576 < l0.length) = false := decide_eq_false (by omega)
    clear c2
    replace H := Option.bind_eq_some_iff.mp H
    obtain ⟨⟨t661, t662, t663, t664, t665, t666, t667, t668⟩, A30, H⟩ := H
    replace H : ((laws_more.f k l0 3).bind fun t671 => ((spec_DrawHashBlock.f k t671).bind fun bt674 => ((impl_HashBlock.f k t661 t662 t663 t664 t665 t666 t667 t668).bind fun bt684 => ((spec_HashBlock.f k t661 t662 t663 t664 t665 t666 t667 t668).bind fun bt688 => (if (!(bt684.1 == bt688.1) || (!(bt684.2.1 == bt688.2.1) || (!(bt684.2.2.1 == bt688.2.2.1) || (!(bt684.2.2.2 == bt688.2.2.2))))) = true then (laws_FnHashBlockApart.j0 k l0 true) else ((impl_HashBlock.f k t661 t662 t663 t664 t665 t666 t667 t668).bind fun bt692 => ((impl_HashBlock.f k t661 t662 t663 t664 bt674.1 bt674.2.1 bt674.2.2.1 bt674.2.2.2.1).bind fun bt696 => (if ((bt692.1 == bt696.1 && (bt692.2.1 == bt696.2.1 && (bt692.2.2.1 == bt696.2.2.1 && (bt692.2.2.2 == bt696.2.2.2)))) != (t665 == bt674.1 && (t666 == bt674.2.1 && (t667 == bt674.2.2.1 && (t668 == bt674.2.2.2.1))))) = true then (laws_FnHashBlockApart.j0 k l0 true) else ((impl_HashBlock.f k t661 t662 t663 t664 t665 t666 t667 t668).bind fun bt700 => ((impl_HashBlock.f k t661 t662 t663 t664 bt674.2.2.2.2.1 bt674.2.2.2.2.2.1 bt674.2.2.2.2.2.2.1 bt674.2.2.2.2.2.2.2).bind fun bt704 => (laws_FnHashBlockApart.j0 k l0 ((bt700.1 == bt704.1 && (bt700.2.1 == bt704.2.1 && (bt700.2.2.1 == bt704.2.2.1 && (bt700.2.2.2 == bt704.2.2.2)))) != (t665 == bt674.2.2.2.2.1 && (t666 == bt674.2.2.2.2.2.1 && (t667 == bt674.2.2.2.2.2.2.1 && (t668 == bt674.2.2.2.2.2.2.2)))))))))))))))) = some r := H
    have A3 := Aside0.mk A30
    clear A30
    replace H := Option.bind_eq_some_iff.mp H
    obtain ⟨t671, A40, H⟩ := H
    replace H : ((spec_DrawHashBlock.f k t671).bind fun bt674 => ((impl_HashBlock.f k t661 t662 t663 t664 t665 t666 t667 t668).bind fun bt684 => ((spec_HashBlock.f k t661 t662 t663 t664 t665 t666 t667 t668).bind fun bt688 => (if (!(bt684.1 == bt688.1) || (!(bt684.2.1 == bt688.2.1) || (!(bt684.2.2.1 == bt688.2.2.1) || (!(bt684.2.2.2 == bt688.2.2.2))))) = true then (laws_FnHashBlockApart.j0 k l0 true) else ((impl_HashBlock.f k t661 t662 t663 t664 t665 t666 t667 t668).bind fun bt692 => ((impl_HashBlock.f k t661 t662 t663 t664 bt674.1 bt674.2.1 bt674.2.2.1 bt674.2.2.2.1).bind fun bt696 => (if ((bt692.1 == bt696.1 && (bt692.2.1 == bt696.2.1 && (bt692.2.2.1 == bt696.2.2.1 && (bt692.2.2.2 == bt696.2.2.2)))) != (t665 == bt674.1 && (t666 == bt674.2.1 && (t667 == bt674.2.2.1 && (t668 == bt674.2.2.2.1))))) = true then (laws_FnHashBlockApart.j0 k l0 true) else ((impl_HashBlock.f k t661 t662 t663 t664 t665 t666 t667 t668).bind fun bt700 => ((impl_HashBlock.f k t661 t662 t663 t664 bt674.2.2.2.2.1 bt674.2.2.2.2.2.1 bt674.2.2.2.2.2.2.1 bt674.2.2.2.2.2.2.2).bind fun bt704 => (laws_FnHashBlockApart.j0 k l0 ((bt700.1 == bt704.1 && (bt700.2.1 == bt704.2.1 && (bt700.2.2.1 == bt704.2.2.1 && (bt700.2.2.2 == bt704.2.2.2)))) != (t665 == bt674.2.2.2.2.1 && (t666 == bt674.2.2.2.2.2.1 && (t667 == bt674.2.2.2.2.2.2.1 && (t668 == bt674.2.2.2.2.2.2.2))))))))))))))) = some r := H
    have A4 := Aside0.mk A40
    clear A40
    replace H := Option.bind_eq_some_iff.mp H
    obtain ⟨⟨t674, t675, t676, t677, t678, t679, t680, t681⟩, A50, H⟩ := H
    replace H : ((impl_HashBlock.f k t661 t662 t663 t664 t665 t666 t667 t668).bind fun bt684 => ((spec_HashBlock.f k t661 t662 t663 t664 t665 t666 t667 t668).bind fun bt688 => (if (!(bt684.1 == bt688.1) || (!(bt684.2.1 == bt688.2.1) || (!(bt684.2.2.1 == bt688.2.2.1) || (!(bt684.2.2.2 == bt688.2.2.2))))) = true then (laws_FnHashBlockApart.j0 k l0 true) else ((impl_HashBlock.f k t661 t662 t663 t664 t665 t666 t667 t668).bind fun bt692 => ((impl_HashBlock.f k t661 t662 t663 t664 t674 t675 t676 t677).bind fun bt696 => (if ((bt692.1 == bt696.1 && (bt692.2.1 == bt696.2.1 && (bt692.2.2.1 == bt696.2.2.1 && (bt692.2.2.2 == bt696.2.2.2)))) != (t665 == t674 && (t666 == t675 && (t667 == t676 && (t668 == t677))))) = true then (laws_FnHashBlockApart.j0 k l0 true) else ((impl_HashBlock.f k t661 t662 t663 t664 t665 t666 t667 t668).bind fun bt700 => ((impl_HashBlock.f k t661 t662 t663 t664 t678 t679 t680 t681).bind fun bt704 => (laws_FnHashBlockApart.j0 k l0 ((bt700.1 == bt704.1 && (bt700.2.1 == bt704.2.1 && (bt700.2.2.1 == bt704.2.2.1 && (bt700.2.2.2 == bt704.2.2.2)))) != (t665 == t678 && (t666 == t679 && (t667 == t680 && (t668 == t681)))))))))))))) = some r := H
    have A5 := Aside0.mk A50
    clear A50
    have HC6 := Aside0.mk H
    clear H
    go_enter Try.func19, Try.ntmps19
    go_upto_region 5 with (first | ((with_reducible refine gate_callee (f := 62) rfl ?_); refine goesL_ (some 15) rfl rfl Try.func62 (by kernel_rfl) rfl #[.slice A0 l0.length c0] rfl (by (try simp only [List.map_toArray, List.map_cons, List.map_nil]); first | done | rfl | (simp only [List.length_drop, List.length_take]; rfl)) ?_; (with_reducible refine (spec_DrawHashBlock.calls k _ _ l0 t661 t662 t663 t664 t665 t666 t667 t668 _ ?side1 ?side2 A3.out).mono ?_); (case side1 => repeat (first | exact HR0.out | (with_reducible refine Kd.C_alloc ?_ _) | (with_reducible refine Kd.C_drewN ?_ _) | (with_reducible refine Kd.C_drew ?_))); (case side2 => exact HC0.out); rintro e w7 ⟨rfl, hb⟩; refine ⟨_, rfl, ?_⟩; have n0_ := Aside0.mk (below_step (by repeat (first | (with_reducible first | exact HB.out | apply below_alloc | apply pw_below_drewN | apply below_drew1) | exact HB.out)) hb); clear HB; have HB := n0_; clear n0_; (try clear hb); (try clear hb2); (try clear hk); (try clear hi)) | ((with_reducible refine gate_dst (N := 3) rfl ?_); refine box_event ?hg (N := 3) ?hd (cs := #[.int .u64 0, .int .u64 0, .int .u64 0, .int .u64 0]) (t := 30) ?hr ?_; (case hd => rfl); (case hg => rfl); (case hr => first | (go_simp; done) | (go_simp; rfl)); intro gb669 hg w8 hbox hb; have n0_ := Aside0.mk (below_step (by repeat (first | (with_reducible first | exact HB.out | apply below_alloc | apply pw_below_drewN | apply below_drew1) | exact HB.out)) hb); have n1_ := Aside0.mk (hbox); have n2_ := Aside0.mk ((by rw [hg]; exact (below_size (by repeat (first | (with_reducible first | exact HB.out | apply below_alloc | apply pw_below_drewN | apply below_drew1) | exact HB.out))) : w.heap.size ≤ gb669)); have n3_ := Aside0.mk ((by rw [hg]; exact (below_size (by repeat (first | (with_reducible first | exact HB.out | apply below_alloc | apply pw_below_drewN | apply below_drew1) | exact HB.out))) : w.heap.size ≤ gb669)); clear HB; have HB := n0_; have BK669 := n1_; have GW669 := n2_; have GE669 := n3_; clear n0_ n1_ n2_ n3_; clear hb hbox hg) | ((with_reducible refine gate_dst (N := 4) rfl ?_); refine box_event ?hg (N := 4) ?hd (cs := #[.int .u64 0, .int .u64 0, .int .u64 0, .int .u64 0]) (t := 30) ?hr ?_; (case hd => rfl); (case hg => rfl); (case hr => first | (go_simp; done) | (go_simp; rfl)); intro gb670 hg w9 hbox hb; have n0_ := Aside0.mk (blk_below (g := gb669) (o := .cells #[.int .u64 0, .int .u64 0, .int .u64 0, .int .u64 0] 30 (0, 0)) (by (with_reducible repeat (first | refine blk_drewN ?_ _ | refine blk_drew ?_ | refine blk_alloc ?_ _)); exact BK669.out) hb); have n1_ := Aside0.mk (below_step (by repeat (first | (with_reducible first | exact HB.out | apply below_alloc | apply pw_below_drewN | apply below_drew1 | refine below_set ?_ GE669.out) | exact HB.out)) hb); have n2_ := Aside0.mk (hbox); have n3_ := Aside0.mk ((by rw [hg]; exact (below_size (by repeat (first | (with_reducible first | exact HB.out | apply below_alloc | apply pw_below_drewN | apply below_drew1 | refine below_set ?_ GE669.out) | exact HB.out))) : w.heap.size ≤ gb670)); have n4_ := Aside0.mk ((by rw [hg]; exact (below_size (by repeat (first | (with_reducible first | exact HB.out | apply below_alloc | apply pw_below_drewN | apply below_drew1 | refine below_set ?_ GE669.out) | exact HB.out))) : w.heap.size ≤ gb670)); have n5_ := Aside0.mk ((by rw [hg]; exact Nat.ne_of_lt (blk_lt (g := gb669) (o := .cells #[.int .u64 0, .int .u64 0, .int .u64 0, .int .u64 0] 30 (0, 0)) (by (with_reducible repeat (first | refine blk_drewN ?_ _ | refine blk_drew ?_ | refine blk_alloc ?_ _)); exact BK669.out)) : gb669 ≠ gb670)); have n6_ := Aside0.mk ((by rw [hg]; exact Nat.ne_of_gt (blk_lt (g := gb669) (o := .cells #[.int .u64 0, .int .u64 0, .int .u64 0, .int .u64 0] 30 (0, 0)) (by (with_reducible repeat (first | refine blk_drewN ?_ _ | refine blk_drew ?_ | refine blk_alloc ?_ _)); exact BK669.out)) : gb670 ≠ gb669)); clear BK669; clear HB; have BK669 := n0_; have HB := n1_; have BK670 := n2_; have GW670 := n3_; have GE670 := n4_; have NB669_670 := n5_; have NB670_669 := n6_; clear n0_ n1_ n2_ n3_ n4_ n5_ n6_; clear hb hbox hg; have hnb10 := NB669_670.out; have hnc10 := NB670_669.out; have hcz11_0 : w9.cell? ⟨gb669, 0, none⟩ = some (.int .u64 0) := (blk_cell BK669.out 0).trans rfl; have hcz11_1 : w9.cell? ⟨gb669, 1, none⟩ = some (.int .u64 0) := (blk_cell BK669.out 1).trans rfl; have hcz11_2 : w9.cell? ⟨gb669, 2, none⟩ = some (.int .u64 0) := (blk_cell BK669.out 2).trans rfl; have hcz11_3 : w9.cell? ⟨gb669, 3, none⟩ = some (.int .u64 0) := (blk_cell BK669.out 3).trans rfl; have hfz11_0 := blk_frozen BK669.out 0; have hfz11_1 := blk_frozen BK669.out 1; have hfz11_2 := blk_frozen BK669.out 2; have hfz11_3 := blk_frozen BK669.out 3; have hcz12_0 : w9.cell? ⟨gb670, 0, none⟩ = some (.int .u64 0) := (blk_cell BK670.out 0).trans rfl; have hcz12_1 : w9.cell? ⟨gb670, 1, none⟩ = some (.int .u64 0) := (blk_cell BK670.out 1).trans rfl; have hcz12_2 : w9.cell? ⟨gb670, 2, none⟩ = some (.int .u64 0) := (blk_cell BK670.out 2).trans rfl; have hcz12_3 : w9.cell? ⟨gb670, 3, none⟩ = some (.int .u64 0) := (blk_cell BK670.out 3).trans rfl; have hfz12_0 := blk_frozen BK670.out 0; have hfz12_1 := blk_frozen BK670.out 1; have hfz12_2 := blk_frozen BK670.out 2; have hfz12_3 := blk_frozen BK670.out 3) | ((with_reducible refine gate_callee (f := 63) rfl ?_); refine goesL_ (some 20) rfl rfl Try.func63 (by kernel_rfl) rfl #[.slice A0 l0.length c0, .int .u8 3] rfl (by (try simp only [List.map_toArray, List.map_cons, List.map_nil]); first | done | rfl | (simp only [List.length_drop, List.length_take]; rfl)) ?_; (with_reducible refine (laws_more.calls k _ _ l0 3 t671 _ ?side1 ?side2 A4.out).mono ?_); (case side1 => exact Kd.C_below HR0.out (by repeat (first | (with_reducible first | exact HB.out | apply below_alloc | apply pw_below_drewN | apply below_drew1 | refine below_set ?_ GE669.out | refine below_set ?_ GE670.out) | exact HB.out))); (case side2 => exact HC0.out); rintro e w13 ⟨v672, rfl, ho0, hb⟩; refine ⟨_, rfl, ?_⟩; have n0_ := Aside0.mk (Kd.R_lower ho0 (below_size (by repeat (first | (with_reducible first | exact HB.out | apply below_alloc | apply pw_below_drewN | apply below_drew1 | refine below_set ?_ GE669.out | refine below_set ?_ GE670.out) | exact HB.out)))); have n1_ := Aside0.mk (blk_below (g := gb669) (o := .cells #[.int .u64 t661, .int .u64 t662, .int .u64 t663, .int .u64 t664] 30 (0, 0)) (by (with_reducible repeat (first | refine blk_drewN ?_ _ | refine blk_drew ?_ | refine blk_alloc ?_ _)); refine blk_far ?_ NB669_670.out _; (with_reducible repeat (first | refine blk_drewN ?_ _ | refine blk_drew ?_ | refine blk_alloc ?_ _)); refine blk_far ?_ NB669_670.out _; (with_reducible repeat (first | refine blk_drewN ?_ _ | refine blk_drew ?_ | refine blk_alloc ?_ _)); refine blk_far ?_ NB669_670.out _; (with_reducible repeat (first | refine blk_drewN ?_ _ | refine blk_drew ?_ | refine blk_alloc ?_ _)); refine blk_far ?_ NB669_670.out _; (with_reducible repeat (first | refine blk_drewN ?_ _ | refine blk_drew ?_ | refine blk_alloc ?_ _)); refine blk_put (cs := #[.int .u64 t661, .int .u64 t662, .int .u64 t663, .int .u64 0]) ?_ 3 _ rfl; (with_reducible repeat (first | refine blk_drewN ?_ _ | refine blk_drew ?_ | refine blk_alloc ?_ _)); refine blk_put (cs := #[.int .u64 t661, .int .u64 t662, .int .u64 0, .int .u64 0]) ?_ 2 _ rfl; (with_reducible repeat (first | refine blk_drewN ?_ _ | refine blk_drew ?_ | refine blk_alloc ?_ _)); refine blk_put (cs := #[.int .u64 t661, .int .u64 0, .int .u64 0, .int .u64 0]) ?_ 1 _ rfl; (with_reducible repeat (first | refine blk_drewN ?_ _ | refine blk_drew ?_ | refine blk_alloc ?_ _)); refine blk_put (cs := #[.int .u64 0, .int .u64 0, .int .u64 0, .int .u64 0]) ?_ 0 _ rfl; (with_reducible repeat (first | refine blk_drewN ?_ _ | refine blk_drew ?_ | refine blk_alloc ?_ _)); exact BK669.out) hb); have n2_ := Aside0.mk (blk_below (g := gb670) (o := .cells #[.int .u64 t665, .int .u64 t666, .int .u64 t667, .int .u64 t668] 30 (0, 0)) (by (with_reducible repeat (first | refine blk_drewN ?_ _ | refine blk_drew ?_ | refine blk_alloc ?_ _)); refine blk_put (cs := #[.int .u64 t665, .int .u64 t666, .int .u64 t667, .int .u64 0]) ?_ 3 _ rfl; (with_reducible repeat (first | refine blk_drewN ?_ _ | refine blk_drew ?_ | refine blk_alloc ?_ _)); refine blk_put (cs := #[.int .u64 t665, .int .u64 t666, .int .u64 0, .int .u64 0]) ?_ 2 _ rfl; (with_reducible repeat (first | refine blk_drewN ?_ _ | refine blk_drew ?_ | refine blk_alloc ?_ _)); refine blk_put (cs := #[.int .u64 t665, .int .u64 0, .int .u64 0, .int .u64 0]) ?_ 1 _ rfl; (with_reducible repeat (first | refine blk_drewN ?_ _ | refine blk_drew ?_ | refine blk_alloc ?_ _)); refine blk_put (cs := #[.int .u64 0, .int .u64 0, .int .u64 0, .int .u64 0]) ?_ 0 _ rfl; (with_reducible repeat (first | refine blk_drewN ?_ _ | refine blk_drew ?_ | refine blk_alloc ?_ _)); refine blk_far ?_ NB670_669.out _; (with_reducible repeat (first | refine blk_drewN ?_ _ | refine blk_drew ?_ | refine blk_alloc ?_ _)); refine blk_far ?_ NB670_669.out _; (with_reducible repeat (first | refine blk_drewN ?_ _ | refine blk_drew ?_ | refine blk_alloc ?_ _)); refine blk_far ?_ NB670_669.out _; (with_reducible repeat (first | refine blk_drewN ?_ _ | refine blk_drew ?_ | refine blk_alloc ?_ _)); refine blk_far ?_ NB670_669.out _; (with_reducible repeat (first | refine blk_drewN ?_ _ | refine blk_drew ?_ | refine blk_alloc ?_ _)); exact BK670.out) hb); have n3_ := Aside0.mk (below_step (by repeat (first | (with_reducible first | exact HB.out | apply below_alloc | apply pw_below_drewN | apply below_drew1 | refine below_set ?_ GE669.out | refine below_set ?_ GE670.out) | exact HB.out)) hb); clear BK669; clear BK670; clear HB; have HO673 := n0_; have BK669 := n1_; have BK670 := n2_; have HB := n3_; clear n0_ n1_ n2_ n3_; (try clear hb); (try clear hb2); (try clear hk); (try clear hi); (try clear ho0); obtain ⟨Ao14, co14, eo14⟩ := Kd.R_slice HO673.out; subst eo14) | ((with_reducible refine gate_callee (f := 62) rfl ?_); refine goesL_ (some 21) rfl rfl Try.func62 (by kernel_rfl) rfl #[.slice Ao14 t671.length co14] rfl (by (try simp only [List.map_toArray, List.map_cons, List.map_nil]); first | done | rfl | (simp only [List.length_drop, List.length_take]; rfl)) ?_; (with_reducible refine (spec_DrawHashBlock.calls k _ _ t671 t674 t675 t676 t677 t678 t679 t680 t681 _ ?side1 ?side2 A5.out).mono ?_); (case side1 => repeat (first | exact (Kd.R_reads' HO673.out).2.2 | (with_reducible refine Kd.C_alloc ?_ _) | (with_reducible refine Kd.C_drewN ?_ _) | (with_reducible refine Kd.C_drew ?_))); (case side2 => exact (Kd.R_reads' HO673.out).2.1); rintro e w15 ⟨rfl, hb⟩; refine ⟨_, rfl, ?_⟩; have n0_ := Aside0.mk (Kd.R_below (by (with_reducible repeat (first | apply Kd.R_alloc | apply Kd.R_drewN | apply Kd.R_drew)); exact HO673.out) hb); have n1_ := Aside0.mk (blk_below (g := gb669) (o := .cells #[.int .u64 t661, .int .u64 t662, .int .u64 t663, .int .u64 t664] 30 (0, 0)) (by (with_reducible repeat (first | refine blk_drewN ?_ _ | refine blk_drew ?_ | refine blk_alloc ?_ _)); exact BK669.out) hb); have n2_ := Aside0.mk (blk_below (g := gb670) (o := .cells #[.int .u64 t665, .int .u64 t666, .int .u64 t667, .int .u64 t668] 30 (0, 0)) (by (with_reducible repeat (first | refine blk_drewN ?_ _ | refine blk_drew ?_ | refine blk_alloc ?_ _)); exact BK670.out) hb); have n3_ := Aside0.mk (below_step (by repeat (first | (with_reducible first | exact HB.out | apply below_alloc | apply pw_below_drewN | apply below_drew1 | refine below_set ?_ GE669.out | refine below_set ?_ GE670.out) | exact HB.out)) hb); clear HO673; clear BK669; clear BK670; clear HB; have HO673 := n0_; have BK669 := n1_; have BK670 := n2_; have HB := n3_; clear n0_ n1_ n2_ n3_; (try clear hb); (try clear hb2); (try clear hk); (try clear hi)) | ((with_reducible refine gate_dst (N := 5) rfl ?_); refine box_event ?hg (N := 5) ?hd (cs := #[.int .u64 0, .int .u64 0, .int .u64 0, .int .u64 0]) (t := 30) ?hr ?_; (case hd => rfl); (case hg => rfl); (case hr => first | (go_simp; done) | (go_simp; rfl)); intro gb682 hg w16 hbox hb; have n0_ := Aside0.mk (Kd.R_below (by (with_reducible repeat (first | apply Kd.R_alloc | apply Kd.R_drewN | apply Kd.R_drew)); exact HO673.out) hb); have n1_ := Aside0.mk (blk_below (g := gb669) (o := .cells #[.int .u64 t661, .int .u64 t662, .int .u64 t663, .int .u64 t664] 30 (0, 0)) (by (with_reducible repeat (first | refine blk_drewN ?_ _ | refine blk_drew ?_ | refine blk_alloc ?_ _)); exact BK669.out) hb); have n2_ := Aside0.mk (blk_below (g := gb670) (o := .cells #[.int .u64 t665, .int .u64 t666, .int .u64 t667, .int .u64 t668] 30 (0, 0)) (by (with_reducible repeat (first | refine blk_drewN ?_ _ | refine blk_drew ?_ | refine blk_alloc ?_ _)); exact BK670.out) hb); have n3_ := Aside0.mk (below_step (by repeat (first | (with_reducible first | exact HB.out | apply below_alloc | apply pw_below_drewN | apply below_drew1 | refine below_set ?_ GE669.out | refine below_set ?_ GE670.out) | exact HB.out)) hb); have n4_ := Aside0.mk (hbox); have n5_ := Aside0.mk ((by rw [hg]; exact (below_size (by repeat (first | (with_reducible first | exact HB.out | apply below_alloc | apply pw_below_drewN | apply below_drew1 | refine below_set ?_ GE669.out | refine below_set ?_ GE670.out) | exact HB.out))) : w.heap.size ≤ gb682)); have n6_ := Aside0.mk ((by rw [hg]; exact (below_size (by repeat (first | (with_reducible first | exact HB.out | apply below_alloc | apply pw_below_drewN | apply below_drew1 | refine below_set ?_ GE669.out | refine below_set ?_ GE670.out) | exact HB.out))) : w.heap.size ≤ gb682)); have n7_ := Aside0.mk ((by rw [hg]; exact Nat.ne_of_lt (blk_lt (g := gb669) (o := .cells #[.int .u64 t661, .int .u64 t662, .int .u64 t663, .int .u64 t664] 30 (0, 0)) (by (with_reducible repeat (first | refine blk_drewN ?_ _ | refine blk_drew ?_ | refine blk_alloc ?_ _)); exact BK669.out)) : gb669 ≠ gb682)); have n8_ := Aside0.mk ((by rw [hg]; exact Nat.ne_of_gt (blk_lt (g := gb669) (o := .cells #[.int .u64 t661, .int .u64 t662, .int .u64 t663, .int .u64 t664] 30 (0, 0)) (by (with_reducible repeat (first | refine blk_drewN ?_ _ | refine blk_drew ?_ | refine blk_alloc ?_ _)); exact BK669.out)) : gb682 ≠ gb669)); have n9_ := Aside0.mk ((by rw [hg]; exact Nat.ne_of_lt (blk_lt (g := gb670) (o := .cells #[.int .u64 t665, .int .u64 t666, .int .u64 t667, .int .u64 t668] 30 (0, 0)) (by (with_reducible repeat (first | refine blk_drewN ?_ _ | refine blk_drew ?_ | refine blk_alloc ?_ _)); exact BK670.out)) : gb670 ≠ gb682)); have n10_ := Aside0.mk ((by rw [hg]; exact Nat.ne_of_gt (blk_lt (g := gb670) (o := .cells #[.int .u64 t665, .int .u64 t666, .int .u64 t667, .int .u64 t668] 30 (0, 0)) (by (with_reducible repeat (first | refine blk_drewN ?_ _ | refine blk_drew ?_ | refine blk_alloc ?_ _)); exact BK670.out)) : gb682 ≠ gb670)); clear HO673; clear BK669; clear BK670; clear HB; have HO673 := n0_; have BK669 := n1_; have BK670 := n2_; have HB := n3_; have BK682 := n4_; have GW682 := n5_; have GE682 := n6_; have NB669_682 := n7_; have NB682_669 := n8_; have NB670_682 := n9_; have NB682_670 := n10_; clear n0_ n1_ n2_ n3_ n4_ n5_ n6_ n7_ n8_ n9_ n10_; clear hb hbox hg) | ((with_reducible refine gate_dst (N := 6) rfl ?_); refine box_event ?hg (N := 6) ?hd (cs := #[.int .u64 0, .int .u64 0, .int .u64 0, .int .u64 0]) (t := 30) ?hr ?_; (case hd => rfl); (case hg => rfl); (case hr => first | (go_simp; done) | (go_simp; rfl)); intro gb683 hg w17 hbox hb; have n0_ := Aside0.mk (Kd.R_below (by (with_reducible repeat (first | apply Kd.R_alloc | apply Kd.R_drewN | apply Kd.R_drew)); exact HO673.out) hb); have n1_ := Aside0.mk (blk_below (g := gb669) (o := .cells #[.int .u64 t661, .int .u64 t662, .int .u64 t663, .int .u64 t664] 30 (0, 0)) (by (with_reducible repeat (first | refine blk_drewN ?_ _ | refine blk_drew ?_ | refine blk_alloc ?_ _)); exact BK669.out) hb); have n2_ := Aside0.mk (blk_below (g := gb670) (o := .cells #[.int .u64 t665, .int .u64 t666, .int .u64 t667, .int .u64 t668] 30 (0, 0)) (by (with_reducible repeat (first | refine blk_drewN ?_ _ | refine blk_drew ?_ | refine blk_alloc ?_ _)); exact BK670.out) hb); have n3_ := Aside0.mk (blk_below (g := gb682) (o := .cells #[.int .u64 0, .int .u64 0, .int .u64 0, .int .u64 0] 30 (0, 0)) (by (with_reducible repeat (first | refine blk_drewN ?_ _ | refine blk_drew ?_ | refine blk_alloc ?_ _)); exact BK682.out) hb); have n4_ := Aside0.mk (below_step (by repeat (first | (with_reducible first | exact HB.out | apply below_alloc | apply pw_below_drewN | apply below_drew1 | refine below_set ?_ GE669.out | refine below_set ?_ GE670.out | refine below_set ?_ GE682.out) | exact HB.out)) hb); have n5_ := Aside0.mk (hbox); have n6_ := Aside0.mk ((by rw [hg]; exact (below_size (by repeat (first | (with_reducible first | exact HB.out | apply below_alloc | apply pw_below_drewN | apply below_drew1 | refine below_set ?_ GE669.out | refine below_set ?_ GE670.out | refine below_set ?_ GE682.out) | exact HB.out))) : w.heap.size ≤ gb683)); have n7_ := Aside0.mk ((by rw [hg]; exact (below_size (by repeat (first | (with_reducible first | exact HB.out | apply below_alloc | apply pw_below_drewN | apply below_drew1 | refine below_set ?_ GE669.out | refine below_set ?_ GE670.out | refine below_set ?_ GE682.out) | exact HB.out))) : w.heap.size ≤ gb683)); have n8_ := Aside0.mk ((by rw [hg]; exact Nat.ne_of_lt (blk_lt (g := gb669) (o := .cells #[.int .u64 t661, .int .u64 t662, .int .u64 t663, .int .u64 t664] 30 (0, 0)) (by (with_reducible repeat (first | refine blk_drewN ?_ _ | refine blk_drew ?_ | refine blk_alloc ?_ _)); exact BK669.out)) : gb669 ≠ gb683)); have n9_ := Aside0.mk ((by rw [hg]; exact Nat.ne_of_gt (blk_lt (g := gb669) (o := .cells #[.int .u64 t661, .int .u64 t662, .int .u64 t663, .int .u64 t664] 30 (0, 0)) (by (with_reducible repeat (first | refine blk_drewN ?_ _ | refine blk_drew ?_ | refine blk_alloc ?_ _)); exact BK669.out)) : gb683 ≠ gb669)); have n10_ := Aside0.mk ((by rw [hg]; exact Nat.ne_of_lt (blk_lt (g := gb670) (o := .cells #[.int .u64 t665, .int .u64 t666, .int .u64 t667, .int .u64 t668] 30 (0, 0)) (by (with_reducible repeat (first | refine blk_drewN ?_ _ | refine blk_drew ?_ | refine blk_alloc ?_ _)); exact BK670.out)) : gb670 ≠ gb683)); have n11_ := Aside0.mk ((by rw [hg]; exact Nat.ne_of_gt (blk_lt (g := gb670) (o := .cells #[.int .u64 t665, .int .u64 t666, .int .u64 t667, .int .u64 t668] 30 (0, 0)) (by (with_reducible repeat (first | refine blk_drewN ?_ _ | refine blk_drew ?_ | refine blk_alloc ?_ _)); exact BK670.out)) : gb683 ≠ gb670)); have n12_ := Aside0.mk ((by rw [hg]; exact Nat.ne_of_lt (blk_lt (g := gb682) (o := .cells #[.int .u64 0, .int .u64 0, .int .u64 0, .int .u64 0] 30 (0, 0)) (by (with_reducible repeat (first | refine blk_drewN ?_ _ | refine blk_drew ?_ | refine blk_alloc ?_ _)); exact BK682.out)) : gb682 ≠ gb683)); have n13_ := Aside0.mk ((by rw [hg]; exact Nat.ne_of_gt (blk_lt (g := gb682) (o := .cells #[.int .u64 0, .int .u64 0, .int .u64 0, .int .u64 0] 30 (0, 0)) (by (with_reducible repeat (first | refine blk_drewN ?_ _ | refine blk_drew ?_ | refine blk_alloc ?_ _)); exact BK682.out)) : gb683 ≠ gb682)); clear HO673; clear BK669; clear BK670; clear BK682; clear HB; have HO673 := n0_; have BK669 := n1_; have BK670 := n2_; have BK682 := n3_; have HB := n4_; have BK683 := n5_; have GW683 := n6_; have GE683 := n7_; have NB669_683 := n8_; have NB683_669 := n9_; have NB670_683 := n10_; have NB683_670 := n11_; have NB682_683 := n12_; have NB683_682 := n13_; clear n0_ n1_ n2_ n3_ n4_ n5_ n6_ n7_ n8_ n9_ n10_ n11_ n12_ n13_; clear hb hbox hg; have hnb18 := NB682_669.out; have hnc18 := NB669_682.out; have hnb19 := NB682_670.out; have hnc19 := NB670_682.out; have hnb20 := NB682_683.out; have hnc20 := NB683_682.out; have hcz21_0 : w17.cell? ⟨gb682, 0, none⟩ = some (.int .u64 0) := (blk_cell BK682.out 0).trans rfl; have hcz21_1 : w17.cell? ⟨gb682, 1, none⟩ = some (.int .u64 0) := (blk_cell BK682.out 1).trans rfl; have hcz21_2 : w17.cell? ⟨gb682, 2, none⟩ = some (.int .u64 0) := (blk_cell BK682.out 2).trans rfl; have hcz21_3 : w17.cell? ⟨gb682, 3, none⟩ = some (.int .u64 0) := (blk_cell BK682.out 3).trans rfl; have hfz21_0 := blk_frozen BK682.out 0; have hfz21_1 := blk_frozen BK682.out 1; have hfz21_2 := blk_frozen BK682.out 2; have hfz21_3 := blk_frozen BK682.out 3; have hnb22 := NB683_669.out; have hnc22 := NB669_683.out; have hnb23 := NB683_670.out; have hnc23 := NB670_683.out; have hcz24_0 : w17.cell? ⟨gb683, 0, none⟩ = some (.int .u64 0) := (blk_cell BK683.out 0).trans rfl; have hcz24_1 : w17.cell? ⟨gb683, 1, none⟩ = some (.int .u64 0) := (blk_cell BK683.out 1).trans rfl; have hcz24_2 : w17.cell? ⟨gb683, 2, none⟩ = some (.int .u64 0) := (blk_cell BK683.out 2).trans rfl; have hcz24_3 : w17.cell? ⟨gb683, 3, none⟩ = some (.int .u64 0) := (blk_cell BK683.out 3).trans rfl; have hfz24_0 := blk_frozen BK683.out 0; have hfz24_1 := blk_frozen BK683.out 1; have hfz24_2 := blk_frozen BK683.out 2; have hfz24_3 := blk_frozen BK683.out 3))
    (try simp only [Act.put, List.setIfInBounds_toArray, List.set_cons_zero, List.set_cons_succ])
    go_cut [56] (fun v56 wc => ∃ (kq : Nat) (x56_5 : Bool), v56 = .bool x56_5 ∧ Aside0 (laws_FnHashBlockApart.j0 kq l0 x56_5 = some r) ∧ Aside0 (kq ≤ k) ∧ Aside0 (wc.heap[gb669]? = some (.cells #[.int .u64 t661, .int .u64 t662, .int .u64 t663, .int .u64 t664] 30 (0, 0))) ∧ Aside0 (wc.heap[gb670]? = some (.cells #[.int .u64 t665, .int .u64 t666, .int .u64 t667, .int .u64 t668] 30 (0, 0))) ∧ Aside0 (wc.heap[gb682]? = some (.cells #[.int .u64 t674, .int .u64 t675, .int .u64 t676, .int .u64 t677] 30 (0, 0))) ∧ Aside0 (wc.heap[gb683]? = some (.cells #[.int .u64 t678, .int .u64 t679, .int .u64 t680, .int .u64 t681] 30 (0, 0))) ∧ Aside0 (Below w.heap.size w wc))
    case first =>
      have H := HC6.out
      clear HC6
      replace H := Option.bind_eq_some_iff.mp H
      obtain ⟨⟨t684, t685, t686, t687⟩, A250, H⟩ := H
      replace H : ((spec_HashBlock.f k t661 t662 t663 t664 t665 t666 t667 t668).bind fun bt688 => (if (!(t684 == bt688.1) || (!(t685 == bt688.2.1) || (!(t686 == bt688.2.2.1) || (!(t687 == bt688.2.2.2))))) = true then (laws_FnHashBlockApart.j0 k l0 true) else ((impl_HashBlock.f k t661 t662 t663 t664 t665 t666 t667 t668).bind fun bt692 => ((impl_HashBlock.f k t661 t662 t663 t664 t674 t675 t676 t677).bind fun bt696 => (if ((bt692.1 == bt696.1 && (bt692.2.1 == bt696.2.1 && (bt692.2.2.1 == bt696.2.2.1 && (bt692.2.2.2 == bt696.2.2.2)))) != (t665 == t674 && (t666 == t675 && (t667 == t676 && (t668 == t677))))) = true then (laws_FnHashBlockApart.j0 k l0 true) else ((impl_HashBlock.f k t661 t662 t663 t664 t665 t666 t667 t668).bind fun bt700 => ((impl_HashBlock.f k t661 t662 t663 t664 t678 t679 t680 t681).bind fun bt704 => (laws_FnHashBlockApart.j0 k l0 ((bt700.1 == bt704.1 && (bt700.2.1 == bt704.2.1 && (bt700.2.2.1 == bt704.2.2.1 && (bt700.2.2.2 == bt704.2.2.2)))) != (t665 == t678 && (t666 == t679 && (t667 == t680 && (t668 == t681))))))))))))) = some r := H
      have A25 := Aside0.mk A250
      clear A250
      replace H := Option.bind_eq_some_iff.mp H
      obtain ⟨⟨t688, t689, t690, t691⟩, A260, H⟩ := H
      replace H : (if (!(t684 == t688) || (!(t685 == t689) || (!(t686 == t690) || (!(t687 == t691))))) = true then (laws_FnHashBlockApart.j0 k l0 true) else ((impl_HashBlock.f k t661 t662 t663 t664 t665 t666 t667 t668).bind fun bt692 => ((impl_HashBlock.f k t661 t662 t663 t664 t674 t675 t676 t677).bind fun bt696 => (if ((bt692.1 == bt696.1 && (bt692.2.1 == bt696.2.1 && (bt692.2.2.1 == bt696.2.2.1 && (bt692.2.2.2 == bt696.2.2.2)))) != (t665 == t674 && (t666 == t675 && (t667 == t676 && (t668 == t677))))) = true then (laws_FnHashBlockApart.j0 k l0 true) else ((impl_HashBlock.f k t661 t662 t663 t664 t665 t666 t667 t668).bind fun bt700 => ((impl_HashBlock.f k t661 t662 t663 t664 t678 t679 t680 t681).bind fun bt704 => (laws_FnHashBlockApart.j0 k l0 ((bt700.1 == bt704.1 && (bt700.2.1 == bt704.2.1 && (bt700.2.2.1 == bt704.2.2.1 && (bt700.2.2.2 == bt704.2.2.2)))) != (t665 == t678 && (t666 == t679 && (t667 == t680 && (t668 == t681)))))))))))) = some r := H
      have A26 := Aside0.mk A260
      clear A260
      by_cases c27 : (!(t684 == t688) || (!(t685 == t689) || (!(t686 == t690) || (!(t687 == t691))))) = true
      · rw [if_pos c27] at H
        have c27b0 : (!(t684 == t688) || (!(t685 == t689) || (!(t686 == t690) || (!(t687 == t691))))) = true := c27
        clear c27
        (first | rw [c27b0] | (simp only [i64_w, i32_w]; rw [c27b0]) | skip)
        have H' := Aside0.mk H
        clear H
        try go_wp2
        have n0_ : Aside0 (Kd.R (Kd.int .u8) 5 ((((((((w17.setCell ⟨gb682, 0, none⟩ (.int .u64 t674)).setCell ⟨gb682, 1, none⟩ (.int .u64 t675)).setCell ⟨gb682, 2, none⟩ (.int .u64 t676)).setCell ⟨gb682, 3, none⟩ (.int .u64 t677)).setCell ⟨gb683, 0, none⟩ (.int .u64 t678)).setCell ⟨gb683, 1, none⟩ (.int .u64 t679)).setCell ⟨gb683, 2, none⟩ (.int .u64 t680)).setCell ⟨gb683, 3, none⟩ (.int .u64 t681)) w.heap.size (fun _ => True) (.slice Ao14 t671.length co14) t671) := ⟨by (with_reducible repeat (first | apply Kd.R_alloc | apply Kd.R_drewN | apply Kd.R_drew)); exact Kd.R_mono (Kd.R_far (p := ⟨gb683, 3, none⟩) (Kd.R_far (p := ⟨gb683, 2, none⟩) (Kd.R_far (p := ⟨gb683, 1, none⟩) (Kd.R_far (p := ⟨gb683, 0, none⟩) (Kd.R_far (p := ⟨gb682, 3, none⟩) (Kd.R_far (p := ⟨gb682, 2, none⟩) (Kd.R_far (p := ⟨gb682, 1, none⟩) (Kd.R_far (p := ⟨gb682, 0, none⟩) (Kd.R_types (Kd.R_types HO673.out BK682.out (by decide)) BK683.out (by decide)) (fun _ hk => hk.1.2) (.int .u64 t674)) (fun _ hk => hk.1.2) (.int .u64 t675)) (fun _ hk => hk.1.2) (.int .u64 t676)) (fun _ hk => hk.1.2) (.int .u64 t677)) (fun _ hk => hk.2) (.int .u64 t678)) (fun _ hk => hk.2) (.int .u64 t679)) (fun _ hk => hk.2) (.int .u64 t680)) (fun _ hk => hk.2) (.int .u64 t681)) (fun _ hk => trivial)⟩
        have n1_ : Aside0 (((((((((w17.setCell ⟨gb682, 0, none⟩ (.int .u64 t674)).setCell ⟨gb682, 1, none⟩ (.int .u64 t675)).setCell ⟨gb682, 2, none⟩ (.int .u64 t676)).setCell ⟨gb682, 3, none⟩ (.int .u64 t677)).setCell ⟨gb683, 0, none⟩ (.int .u64 t678)).setCell ⟨gb683, 1, none⟩ (.int .u64 t679)).setCell ⟨gb683, 2, none⟩ (.int .u64 t680)).setCell ⟨gb683, 3, none⟩ (.int .u64 t681)).heap[gb669]? = some (.cells #[.int .u64 t661, .int .u64 t662, .int .u64 t663, .int .u64 t664] 30 (0, 0))) := ⟨by (with_reducible repeat (first | refine blk_drewN ?_ _ | refine blk_drew ?_ | refine blk_alloc ?_ _)); refine blk_far ?_ NB669_683.out _; (with_reducible repeat (first | refine blk_drewN ?_ _ | refine blk_drew ?_ | refine blk_alloc ?_ _)); refine blk_far ?_ NB669_683.out _; (with_reducible repeat (first | refine blk_drewN ?_ _ | refine blk_drew ?_ | refine blk_alloc ?_ _)); refine blk_far ?_ NB669_683.out _; (with_reducible repeat (first | refine blk_drewN ?_ _ | refine blk_drew ?_ | refine blk_alloc ?_ _)); refine blk_far ?_ NB669_683.out _; (with_reducible repeat (first | refine blk_drewN ?_ _ | refine blk_drew ?_ | refine blk_alloc ?_ _)); refine blk_far ?_ NB669_682.out _; (with_reducible repeat (first | refine blk_drewN ?_ _ | refine blk_drew ?_ | refine blk_alloc ?_ _)); refine blk_far ?_ NB669_682.out _; (with_reducible repeat (first | refine blk_drewN ?_ _ | refine blk_drew ?_ | refine blk_alloc ?_ _)); refine blk_far ?_ NB669_682.out _; (with_reducible repeat (first | refine blk_drewN ?_ _ | refine blk_drew ?_ | refine blk_alloc ?_ _)); refine blk_far ?_ NB669_682.out _; (with_reducible repeat (first | refine blk_drewN ?_ _ | refine blk_drew ?_ | refine blk_alloc ?_ _)); exact BK669.out⟩
        have n2_ : Aside0 (((((((((w17.setCell ⟨gb682, 0, none⟩ (.int .u64 t674)).setCell ⟨gb682, 1, none⟩ (.int .u64 t675)).setCell ⟨gb682, 2, none⟩ (.int .u64 t676)).setCell ⟨gb682, 3, none⟩ (.int .u64 t677)).setCell ⟨gb683, 0, none⟩ (.int .u64 t678)).setCell ⟨gb683, 1, none⟩ (.int .u64 t679)).setCell ⟨gb683, 2, none⟩ (.int .u64 t680)).setCell ⟨gb683, 3, none⟩ (.int .u64 t681)).heap[gb670]? = some (.cells #[.int .u64 t665, .int .u64 t666, .int .u64 t667, .int .u64 t668] 30 (0, 0))) := ⟨by (with_reducible repeat (first | refine blk_drewN ?_ _ | refine blk_drew ?_ | refine blk_alloc ?_ _)); refine blk_far ?_ NB670_683.out _; (with_reducible repeat (first | refine blk_drewN ?_ _ | refine blk_drew ?_ | refine blk_alloc ?_ _)); refine blk_far ?_ NB670_683.out _; (with_reducible repeat (first | refine blk_drewN ?_ _ | refine blk_drew ?_ | refine blk_alloc ?_ _)); refine blk_far ?_ NB670_683.out _; (with_reducible repeat (first | refine blk_drewN ?_ _ | refine blk_drew ?_ | refine blk_alloc ?_ _)); refine blk_far ?_ NB670_683.out _; (with_reducible repeat (first | refine blk_drewN ?_ _ | refine blk_drew ?_ | refine blk_alloc ?_ _)); refine blk_far ?_ NB670_682.out _; (with_reducible repeat (first | refine blk_drewN ?_ _ | refine blk_drew ?_ | refine blk_alloc ?_ _)); refine blk_far ?_ NB670_682.out _; (with_reducible repeat (first | refine blk_drewN ?_ _ | refine blk_drew ?_ | refine blk_alloc ?_ _)); refine blk_far ?_ NB670_682.out _; (with_reducible repeat (first | refine blk_drewN ?_ _ | refine blk_drew ?_ | refine blk_alloc ?_ _)); refine blk_far ?_ NB670_682.out _; (with_reducible repeat (first | refine blk_drewN ?_ _ | refine blk_drew ?_ | refine blk_alloc ?_ _)); exact BK670.out⟩
        have n3_ : Aside0 (((((((((w17.setCell ⟨gb682, 0, none⟩ (.int .u64 t674)).setCell ⟨gb682, 1, none⟩ (.int .u64 t675)).setCell ⟨gb682, 2, none⟩ (.int .u64 t676)).setCell ⟨gb682, 3, none⟩ (.int .u64 t677)).setCell ⟨gb683, 0, none⟩ (.int .u64 t678)).setCell ⟨gb683, 1, none⟩ (.int .u64 t679)).setCell ⟨gb683, 2, none⟩ (.int .u64 t680)).setCell ⟨gb683, 3, none⟩ (.int .u64 t681)).heap[gb682]? = some (.cells #[.int .u64 t674, .int .u64 t675, .int .u64 t676, .int .u64 t677] 30 (0, 0))) := ⟨by (with_reducible repeat (first | refine blk_drewN ?_ _ | refine blk_drew ?_ | refine blk_alloc ?_ _)); refine blk_far ?_ NB682_683.out _; (with_reducible repeat (first | refine blk_drewN ?_ _ | refine blk_drew ?_ | refine blk_alloc ?_ _)); refine blk_far ?_ NB682_683.out _; (with_reducible repeat (first | refine blk_drewN ?_ _ | refine blk_drew ?_ | refine blk_alloc ?_ _)); refine blk_far ?_ NB682_683.out _; (with_reducible repeat (first | refine blk_drewN ?_ _ | refine blk_drew ?_ | refine blk_alloc ?_ _)); refine blk_far ?_ NB682_683.out _; (with_reducible repeat (first | refine blk_drewN ?_ _ | refine blk_drew ?_ | refine blk_alloc ?_ _)); refine blk_put (cs := #[.int .u64 t674, .int .u64 t675, .int .u64 t676, .int .u64 0]) ?_ 3 _ rfl; (with_reducible repeat (first | refine blk_drewN ?_ _ | refine blk_drew ?_ | refine blk_alloc ?_ _)); refine blk_put (cs := #[.int .u64 t674, .int .u64 t675, .int .u64 0, .int .u64 0]) ?_ 2 _ rfl; (with_reducible repeat (first | refine blk_drewN ?_ _ | refine blk_drew ?_ | refine blk_alloc ?_ _)); refine blk_put (cs := #[.int .u64 t674, .int .u64 0, .int .u64 0, .int .u64 0]) ?_ 1 _ rfl; (with_reducible repeat (first | refine blk_drewN ?_ _ | refine blk_drew ?_ | refine blk_alloc ?_ _)); refine blk_put (cs := #[.int .u64 0, .int .u64 0, .int .u64 0, .int .u64 0]) ?_ 0 _ rfl; (with_reducible repeat (first | refine blk_drewN ?_ _ | refine blk_drew ?_ | refine blk_alloc ?_ _)); exact BK682.out⟩
        have n4_ : Aside0 (((((((((w17.setCell ⟨gb682, 0, none⟩ (.int .u64 t674)).setCell ⟨gb682, 1, none⟩ (.int .u64 t675)).setCell ⟨gb682, 2, none⟩ (.int .u64 t676)).setCell ⟨gb682, 3, none⟩ (.int .u64 t677)).setCell ⟨gb683, 0, none⟩ (.int .u64 t678)).setCell ⟨gb683, 1, none⟩ (.int .u64 t679)).setCell ⟨gb683, 2, none⟩ (.int .u64 t680)).setCell ⟨gb683, 3, none⟩ (.int .u64 t681)).heap[gb683]? = some (.cells #[.int .u64 t678, .int .u64 t679, .int .u64 t680, .int .u64 t681] 30 (0, 0))) := ⟨by (with_reducible repeat (first | refine blk_drewN ?_ _ | refine blk_drew ?_ | refine blk_alloc ?_ _)); refine blk_put (cs := #[.int .u64 t678, .int .u64 t679, .int .u64 t680, .int .u64 0]) ?_ 3 _ rfl; (with_reducible repeat (first | refine blk_drewN ?_ _ | refine blk_drew ?_ | refine blk_alloc ?_ _)); refine blk_put (cs := #[.int .u64 t678, .int .u64 t679, .int .u64 0, .int .u64 0]) ?_ 2 _ rfl; (with_reducible repeat (first | refine blk_drewN ?_ _ | refine blk_drew ?_ | refine blk_alloc ?_ _)); refine blk_put (cs := #[.int .u64 t678, .int .u64 0, .int .u64 0, .int .u64 0]) ?_ 1 _ rfl; (with_reducible repeat (first | refine blk_drewN ?_ _ | refine blk_drew ?_ | refine blk_alloc ?_ _)); refine blk_put (cs := #[.int .u64 0, .int .u64 0, .int .u64 0, .int .u64 0]) ?_ 0 _ rfl; (with_reducible repeat (first | refine blk_drewN ?_ _ | refine blk_drew ?_ | refine blk_alloc ?_ _)); refine blk_far ?_ NB683_682.out _; (with_reducible repeat (first | refine blk_drewN ?_ _ | refine blk_drew ?_ | refine blk_alloc ?_ _)); refine blk_far ?_ NB683_682.out _; (with_reducible repeat (first | refine blk_drewN ?_ _ | refine blk_drew ?_ | refine blk_alloc ?_ _)); refine blk_far ?_ NB683_682.out _; (with_reducible repeat (first | refine blk_drewN ?_ _ | refine blk_drew ?_ | refine blk_alloc ?_ _)); refine blk_far ?_ NB683_682.out _; (with_reducible repeat (first | refine blk_drewN ?_ _ | refine blk_drew ?_ | refine blk_alloc ?_ _)); exact BK683.out⟩
        have n5_ : Aside0 (Below w.heap.size w ((((((((w17.setCell ⟨gb682, 0, none⟩ (.int .u64 t674)).setCell ⟨gb682, 1, none⟩ (.int .u64 t675)).setCell ⟨gb682, 2, none⟩ (.int .u64 t676)).setCell ⟨gb682, 3, none⟩ (.int .u64 t677)).setCell ⟨gb683, 0, none⟩ (.int .u64 t678)).setCell ⟨gb683, 1, none⟩ (.int .u64 t679)).setCell ⟨gb683, 2, none⟩ (.int .u64 t680)).setCell ⟨gb683, 3, none⟩ (.int .u64 t681))) := ⟨by repeat (first | (with_reducible first | exact HB.out | apply below_alloc | apply pw_below_drewN | apply below_drew1 | refine below_set ?_ GE669.out | refine below_set ?_ GE670.out | refine below_set ?_ GE682.out | refine below_set ?_ GE683.out) | exact HB.out)⟩
        (try clear HO673)
        (try clear BK669)
        (try clear BK670)
        (try clear BK682)
        (try clear BK683)
        (try clear HB)
        generalize ((((((((w17.setCell ⟨gb682, 0, none⟩ (.int .u64 t674)).setCell ⟨gb682, 1, none⟩ (.int .u64 t675)).setCell ⟨gb682, 2, none⟩ (.int .u64 t676)).setCell ⟨gb682, 3, none⟩ (.int .u64 t677)).setCell ⟨gb683, 0, none⟩ (.int .u64 t678)).setCell ⟨gb683, 1, none⟩ (.int .u64 t679)).setCell ⟨gb683, 2, none⟩ (.int .u64 t680)).setCell ⟨gb683, 3, none⟩ (.int .u64 t681)) = w28 at n0_ n1_ n2_ n3_ n4_ n5_ ⊢
        have HO673 := n0_
        have BK669 := n1_
        have BK670 := n2_
        have BK682 := n3_
        have BK683 := n4_
        have HB := n5_
        clear n0_ n1_ n2_ n3_ n4_ n5_
        have n0_ := Aside0.mk (Kd.R_drew HO673.out)
        have n1_ := Aside0.mk (blk_drew BK669.out)
        have n2_ := Aside0.mk (blk_drew BK670.out)
        have n3_ := Aside0.mk (blk_drew BK682.out)
        have n4_ := Aside0.mk (blk_drew BK683.out)
        have n5_ := Aside0.mk (below_drew1 HB.out)
        clear HO673
        clear BK669
        clear BK670
        clear BK682
        clear BK683
        clear HB
        have HO673 := n0_
        have BK669 := n1_
        have BK670 := n2_
        have BK682 := n3_
        have BK683 := n4_
        have HB := n5_
        clear n0_ n1_ n2_ n3_ n4_ n5_
        refine start_ (n := 33) (S := fun w' => w'.cell? ⟨gb669, 0, none⟩ = some (.int .u64 t661) ∧ w'.cell? ⟨gb669, 1, none⟩ = some (.int .u64 t662) ∧ w'.cell? ⟨gb669, 2, none⟩ = some (.int .u64 t663) ∧ w'.cell? ⟨gb669, 3, none⟩ = some (.int .u64 t664) ∧ w'.cell? ⟨gb670, 0, none⟩ = some (.int .u64 t665) ∧ w'.cell? ⟨gb670, 1, none⟩ = some (.int .u64 t666) ∧ w'.cell? ⟨gb670, 2, none⟩ = some (.int .u64 t667) ∧ w'.cell? ⟨gb670, 3, none⟩ = some (.int .u64 t668)) (ds := []) #[false, false, false, false, false, false, false, false, false, false, false, false, false, false, false, false, false, false, false, false, false, false, false, false, false, false, false, false, false, false, false, false, false] (by kernel_rfl) rfl rfl ⟨(blk_cell BK669.out 0).trans rfl, (blk_cell BK669.out 1).trans rfl, (blk_cell BK669.out 2).trans rfl, (blk_cell BK669.out 3).trans rfl, (blk_cell BK670.out 0).trans rfl, (blk_cell BK670.out 1).trans rfl, (blk_cell BK670.out 2).trans rfl, (blk_cell BK670.out 3).trans rfl⟩ (fun hHeld => ?_); refine with_tabW laws_FnHashBlockApart.tab5 laws_FnHashBlockApart.bits5 (fun HT_ HW_ => ?_)
        generalize w28.drew = w29 at HO673 BK669 BK670 BK682 BK683 HB hHeld ⊢
        refine take_ (i := 0) (N := some 24) (v := ?_) (a' := ?_) #[true, false, false, false, false, false, false, false, false, false, false, false, false, false, false, false, false, false, false, false, false, false, false, false, false, false, false, false, false, false, false, false, false] rfl rfl (take_ofW HT_.out HW_.out (by kernel_rfl)) (fun _ _ _ h => h) (Or.inl ⟨by rfl, ?_⟩) hHeld ?_ ?_
        rotate_left
        · rintro w' ⟨s0, s1, s2, s3, s4, s5, s6, s7⟩
          go_simp
          first | with_reducible rfl | (rw [if_neg (by intro h_; (try simp only [ByteArray.size_append, ByteArray.size_extract, eq_iff_iff, iff_true, show (⟨#[255]⟩ : ByteArray).size = 1 from rfl] at *); omega)]; first | done | rfl)
        rotate_left
        · simp only [Act.put, List.setIfInBounds_toArray, List.set_cons_zero, List.set_cons_succ, i64_w, i32_w]
          rfl
        refine take_ (i := 1) (N := some 25) (v := ?_) (a' := ?_) #[true, true, false, false, false, false, false, false, false, false, false, false, false, false, false, false, false, false, false, false, false, false, false, false, false, false, false, false, false, false, false, false, false] rfl rfl (take_ofW HT_.out HW_.out (by kernel_rfl)) (fun _ _ _ h => h) (Or.inl ⟨by rfl, ?_⟩) hHeld ?_ ?_
        rotate_left
        · rintro w' ⟨s0, s1, s2, s3, s4, s5, s6, s7⟩
          go_simp
          first | with_reducible rfl | (rw [if_neg (by intro h_; (try simp only [ByteArray.size_append, ByteArray.size_extract, eq_iff_iff, iff_true, show (⟨#[255]⟩ : ByteArray).size = 1 from rfl] at *); omega)]; first | done | rfl)
        rotate_left
        · simp only [Act.put, List.setIfInBounds_toArray, List.set_cons_zero, List.set_cons_succ, i64_w, i32_w]
          rfl
        refine take_ (i := 3) (N := some 27) (v := ?_) (a' := ?_) #[true, true, false, true, false, false, false, false, false, false, false, false, false, false, false, false, false, false, false, false, false, false, false, false, false, false, false, false, false, false, false, false, false] rfl rfl (take_ofW HT_.out HW_.out (by kernel_rfl)) (fun _ _ _ h => h) (Or.inl ⟨by rfl, ?_⟩) hHeld ?_ ?_
        rotate_left
        · rintro w' ⟨s0, s1, s2, s3, s4, s5, s6, s7⟩
          go_simp
          first | with_reducible rfl | (rw [if_neg (by intro h_; (try simp only [ByteArray.size_append, ByteArray.size_extract, eq_iff_iff, iff_true, show (⟨#[255]⟩ : ByteArray).size = 1 from rfl] at *); omega)]; first | done | rfl)
        rotate_left
        · simp only [Act.put, List.setIfInBounds_toArray, List.set_cons_zero, List.set_cons_succ, i64_w, i32_w]
          rfl
        refine take_ (i := 4) (N := some 28) (v := ?_) (a' := ?_) #[true, true, false, true, true, false, false, false, false, false, false, false, false, false, false, false, false, false, false, false, false, false, false, false, false, false, false, false, false, false, false, false, false] rfl rfl (take_ofW HT_.out HW_.out (by kernel_rfl)) (fun _ _ _ h => h) (Or.inl ⟨by rfl, ?_⟩) hHeld ?_ ?_
        rotate_left
        · rintro w' ⟨s0, s1, s2, s3, s4, s5, s6, s7⟩
          go_simp
          first | with_reducible rfl | (rw [if_neg (by intro h_; (try simp only [ByteArray.size_append, ByteArray.size_extract, eq_iff_iff, iff_true, show (⟨#[255]⟩ : ByteArray).size = 1 from rfl] at *); omega)]; first | done | rfl)
        rotate_left
        · simp only [Act.put, List.setIfInBounds_toArray, List.set_cons_zero, List.set_cons_succ, i64_w, i32_w]
          rfl
        refine one_ (i := 2) (N := some 26) #[true, true, true, true, true, false, false, false, false, false, false, false, false, false, false, false, false, false, false, false, false, false, false, false, false, false, false, false, false, false, false, false, false] rfl rfl (one_of HT_.out (by kernel_rfl)) (by decide) (fun K hK => ?_)
        refine goes_ Try.func45 (by kernel_rfl) rfl #[.agg #[.int .u64 t661, .int .u64 t662, .int .u64 t663, .int .u64 t664], .agg #[.int .u64 t665, .int .u64 t666, .int .u64 t667, .int .u64 t668]] (by rfl) rfl rfl (by (try simp only [List.map_toArray, List.map_cons, List.map_nil]); first | done | rfl | (simp only [List.length_drop, List.length_take]; rfl)) ?_
        with_reducible refine (impl_HashBlock.calls k t661 t662 t663 t664 t665 t666 t667 t668 t684 t685 t686 t687 _ A25.out).mono ?_
        rintro e w30 ⟨rfl, hb⟩
        refine ⟨_, rfl, ?_⟩
        have n0_ := Aside0.mk (Kd.R_below (by (with_reducible repeat (first | apply Kd.R_alloc | apply Kd.R_drewN | apply Kd.R_drew)); exact HO673.out) hb)
        have n1_ := Aside0.mk (blk_below (g := gb669) (o := .cells #[.int .u64 t661, .int .u64 t662, .int .u64 t663, .int .u64 t664] 30 (0, 0)) (by (with_reducible repeat (first | refine blk_drewN ?_ _ | refine blk_drew ?_ | refine blk_alloc ?_ _)); exact BK669.out) hb)
        have n2_ := Aside0.mk (blk_below (g := gb670) (o := .cells #[.int .u64 t665, .int .u64 t666, .int .u64 t667, .int .u64 t668] 30 (0, 0)) (by (with_reducible repeat (first | refine blk_drewN ?_ _ | refine blk_drew ?_ | refine blk_alloc ?_ _)); exact BK670.out) hb)
        have n3_ := Aside0.mk (blk_below (g := gb682) (o := .cells #[.int .u64 t674, .int .u64 t675, .int .u64 t676, .int .u64 t677] 30 (0, 0)) (by (with_reducible repeat (first | refine blk_drewN ?_ _ | refine blk_drew ?_ | refine blk_alloc ?_ _)); exact BK682.out) hb)
        have n4_ := Aside0.mk (blk_below (g := gb683) (o := .cells #[.int .u64 t678, .int .u64 t679, .int .u64 t680, .int .u64 t681] 30 (0, 0)) (by (with_reducible repeat (first | refine blk_drewN ?_ _ | refine blk_drew ?_ | refine blk_alloc ?_ _)); exact BK683.out) hb)
        have n5_ := Aside0.mk (below_step (by repeat (first | (with_reducible first | exact HB.out | apply below_alloc | apply pw_below_drewN | apply below_drew1 | refine below_set ?_ GE669.out | refine below_set ?_ GE670.out | refine below_set ?_ GE682.out | refine below_set ?_ GE683.out) | exact HB.out)) hb)
        clear HO673
        clear BK669
        clear BK670
        clear BK682
        clear BK683
        clear HB
        have HO673 := n0_
        have BK669 := n1_
        have BK670 := n2_
        have BK682 := n3_
        have BK683 := n4_
        have HB := n5_
        clear n0_ n1_ n2_ n3_ n4_ n5_
        (try clear hb)
        (try clear hb2)
        (try clear hk)
        (try clear hi)
        refine hK.out _ _ ⟨(blk_cell BK669.out 0).trans rfl, (blk_cell BK669.out 1).trans rfl, (blk_cell BK669.out 2).trans rfl, (blk_cell BK669.out 3).trans rfl, (blk_cell BK670.out 0).trans rfl, (blk_cell BK670.out 1).trans rfl, (blk_cell BK670.out 2).trans rfl, (blk_cell BK670.out 3).trans rfl⟩ (fun hHeld => ?_)
        clear hK K
        refine norm_ (a' := ?_) ?_ ?_
        rotate_left
        · show Act.put _ (some 26) _ = _
          simp only [Act.put, List.setIfInBounds_toArray, List.set_cons_zero, List.set_cons_succ, i64_w, i32_w]
          rfl
        refine one_ (i := 5) (N := some 29) #[true, true, true, true, true, true, false, false, false, false, false, false, false, false, false, false, false, false, false, false, false, false, false, false, false, false, false, false, false, false, false, false, false] rfl rfl (one_of HT_.out (by kernel_rfl)) (by decide) (fun K hK => ?_)
        refine goes_ Try.func44 (by kernel_rfl) rfl #[.agg #[.int .u64 t661, .int .u64 t662, .int .u64 t663, .int .u64 t664], .agg #[.int .u64 t665, .int .u64 t666, .int .u64 t667, .int .u64 t668]] (by rfl) rfl rfl (by (try simp only [List.map_toArray, List.map_cons, List.map_nil]); first | done | rfl | (simp only [List.length_drop, List.length_take]; rfl)) ?_
        with_reducible refine (spec_HashBlock.calls k t661 t662 t663 t664 t665 t666 t667 t668 t688 t689 t690 t691 _ A26.out).mono ?_
        rintro e w31 ⟨rfl, hb⟩
        refine ⟨_, rfl, ?_⟩
        have n0_ := Aside0.mk (Kd.R_below (by (with_reducible repeat (first | apply Kd.R_alloc | apply Kd.R_drewN | apply Kd.R_drew)); exact HO673.out) hb)
        have n1_ := Aside0.mk (blk_below (g := gb669) (o := .cells #[.int .u64 t661, .int .u64 t662, .int .u64 t663, .int .u64 t664] 30 (0, 0)) (by (with_reducible repeat (first | refine blk_drewN ?_ _ | refine blk_drew ?_ | refine blk_alloc ?_ _)); exact BK669.out) hb)
        have n2_ := Aside0.mk (blk_below (g := gb670) (o := .cells #[.int .u64 t665, .int .u64 t666, .int .u64 t667, .int .u64 t668] 30 (0, 0)) (by (with_reducible repeat (first | refine blk_drewN ?_ _ | refine blk_drew ?_ | refine blk_alloc ?_ _)); exact BK670.out) hb)
        have n3_ := Aside0.mk (blk_below (g := gb682) (o := .cells #[.int .u64 t674, .int .u64 t675, .int .u64 t676, .int .u64 t677] 30 (0, 0)) (by (with_reducible repeat (first | refine blk_drewN ?_ _ | refine blk_drew ?_ | refine blk_alloc ?_ _)); exact BK682.out) hb)
        have n4_ := Aside0.mk (blk_below (g := gb683) (o := .cells #[.int .u64 t678, .int .u64 t679, .int .u64 t680, .int .u64 t681] 30 (0, 0)) (by (with_reducible repeat (first | refine blk_drewN ?_ _ | refine blk_drew ?_ | refine blk_alloc ?_ _)); exact BK683.out) hb)
        have n5_ := Aside0.mk (below_step (by repeat (first | (with_reducible first | exact HB.out | apply below_alloc | apply pw_below_drewN | apply below_drew1 | refine below_set ?_ GE669.out | refine below_set ?_ GE670.out | refine below_set ?_ GE682.out | refine below_set ?_ GE683.out) | exact HB.out)) hb)
        clear HO673
        clear BK669
        clear BK670
        clear BK682
        clear BK683
        clear HB
        have HO673 := n0_
        have BK669 := n1_
        have BK670 := n2_
        have BK682 := n3_
        have BK683 := n4_
        have HB := n5_
        clear n0_ n1_ n2_ n3_ n4_ n5_
        (try clear hb)
        (try clear hb2)
        (try clear hk)
        (try clear hi)
        refine hK.out _ _ ⟨(blk_cell BK669.out 0).trans rfl, (blk_cell BK669.out 1).trans rfl, (blk_cell BK669.out 2).trans rfl, (blk_cell BK669.out 3).trans rfl, (blk_cell BK670.out 0).trans rfl, (blk_cell BK670.out 1).trans rfl, (blk_cell BK670.out 2).trans rfl, (blk_cell BK670.out 3).trans rfl⟩ (fun hHeld => ?_)
        clear hK K
        refine norm_ (a' := ?_) ?_ ?_
        rotate_left
        · show Act.put _ (some 29) _ = _
          simp only [Act.put, List.setIfInBounds_toArray, List.set_cons_zero, List.set_cons_succ, i64_w, i32_w]
          rfl
        refine pure_ (i := 6) (N := some 30) (v := ?_) (a' := ?_) #[true, true, true, true, true, true, true, false, false, false, false, false, false, false, false, false, false, false, false, false, false, false, false, false, false, false, false, false, false, false, false, false, false] rfl rfl (any_of HT_.out (by kernel_rfl)) (fun _ _ _ h => h) (Or.inl ⟨by rfl, ?_⟩) ?_ ?_
        rotate_left
        · intro w'
          go_simp
          first | with_reducible rfl | (rw [if_neg (by intro h_; (try simp only [ByteArray.size_append, ByteArray.size_extract, eq_iff_iff, iff_true, show (⟨#[255]⟩ : ByteArray).size = 1 from rfl] at *); omega)]; first | done | rfl)
        rotate_left
        · simp only [Act.put, List.setIfInBounds_toArray, List.set_cons_zero, List.set_cons_succ, i64_w, i32_w]
          rfl
        refine pure_ (i := 7) (N := some 31) (v := ?_) (a' := ?_) #[true, true, true, true, true, true, true, true, false, false, false, false, false, false, false, false, false, false, false, false, false, false, false, false, false, false, false, false, false, false, false, false, false] rfl rfl (any_of HT_.out (by kernel_rfl)) (fun _ _ _ h => h) (Or.inl ⟨by rfl, ?_⟩) ?_ ?_
        rotate_left
        · intro w'
          go_simp
          first | with_reducible rfl | (rw [if_neg (by intro h_; (try simp only [ByteArray.size_append, ByteArray.size_extract, eq_iff_iff, iff_true, show (⟨#[255]⟩ : ByteArray).size = 1 from rfl] at *); omega)]; first | done | rfl)
        rotate_left
        · simp only [Act.put, List.setIfInBounds_toArray, List.set_cons_zero, List.set_cons_succ, i64_w, i32_w]
          rfl
        refine pure_ (i := 8) (N := some 32) (v := undef) (a' := ?_) #[true, true, true, true, true, true, true, true, true, false, false, false, false, false, false, false, false, false, false, false, false, false, false, false, false, false, false, false, false, false, false, false, false] rfl rfl (any_of HT_.out (by kernel_rfl)) (fun _ _ _ h => h) (Or.inr ⟨by rfl, rfl⟩) ?_ ?_
        rotate_left
        · simp only [Act.put, List.setIfInBounds_toArray, List.set_cons_zero, List.set_cons_succ, i64_w, i32_w]
          rfl
        refine pure_ (i := 9) (N := some 33) (v := undef) (a' := ?_) #[true, true, true, true, true, true, true, true, true, true, false, false, false, false, false, false, false, false, false, false, false, false, false, false, false, false, false, false, false, false, false, false, false] rfl rfl (any_of HT_.out (by kernel_rfl)) (fun _ _ _ h => h) (Or.inr ⟨by rfl, rfl⟩) ?_ ?_
        rotate_left
        · simp only [Act.put, List.setIfInBounds_toArray, List.set_cons_zero, List.set_cons_succ, i64_w, i32_w]
          rfl
        refine pure_ (i := 10) (N := some 34) (v := undef) (a' := ?_) #[true, true, true, true, true, true, true, true, true, true, true, false, false, false, false, false, false, false, false, false, false, false, false, false, false, false, false, false, false, false, false, false, false] rfl rfl (any_of HT_.out (by kernel_rfl)) (fun _ _ _ h => h) (Or.inr ⟨by rfl, rfl⟩) ?_ ?_
        rotate_left
        · simp only [Act.put, List.setIfInBounds_toArray, List.set_cons_zero, List.set_cons_succ, i64_w, i32_w]
          rfl
        refine pure_ (i := 11) (N := some 35) (v := undef) (a' := ?_) #[true, true, true, true, true, true, true, true, true, true, true, true, false, false, false, false, false, false, false, false, false, false, false, false, false, false, false, false, false, false, false, false, false] rfl rfl (any_of HT_.out (by kernel_rfl)) (fun _ _ _ h => h) (Or.inr ⟨by rfl, rfl⟩) ?_ ?_
        rotate_left
        · simp only [Act.put, List.setIfInBounds_toArray, List.set_cons_zero, List.set_cons_succ, i64_w, i32_w]
          rfl
        refine pure_ (i := 12) (N := some 36) (v := undef) (a' := ?_) #[true, true, true, true, true, true, true, true, true, true, true, true, true, false, false, false, false, false, false, false, false, false, false, false, false, false, false, false, false, false, false, false, false] rfl rfl (any_of HT_.out (by kernel_rfl)) (fun _ _ _ h => h) (Or.inr ⟨by rfl, rfl⟩) ?_ ?_
        rotate_left
        · simp only [Act.put, List.setIfInBounds_toArray, List.set_cons_zero, List.set_cons_succ, i64_w, i32_w]
          rfl
        refine pure_ (i := 13) (N := some 37) (v := undef) (a' := ?_) #[true, true, true, true, true, true, true, true, true, true, true, true, true, true, false, false, false, false, false, false, false, false, false, false, false, false, false, false, false, false, false, false, false] rfl rfl (any_of HT_.out (by kernel_rfl)) (fun _ _ _ h => h) (Or.inr ⟨by rfl, rfl⟩) ?_ ?_
        rotate_left
        · simp only [Act.put, List.setIfInBounds_toArray, List.set_cons_zero, List.set_cons_succ, i64_w, i32_w]
          rfl
        refine pure_ (i := 14) (N := some 38) (v := undef) (a' := ?_) #[true, true, true, true, true, true, true, true, true, true, true, true, true, true, true, false, false, false, false, false, false, false, false, false, false, false, false, false, false, false, false, false, false] rfl rfl (any_of HT_.out (by kernel_rfl)) (fun _ _ _ h => h) (Or.inr ⟨by rfl, rfl⟩) ?_ ?_
        rotate_left
        · simp only [Act.put, List.setIfInBounds_toArray, List.set_cons_zero, List.set_cons_succ, i64_w, i32_w]
          rfl
        refine pure_ (i := 15) (N := some 39) (v := undef) (a' := ?_) #[true, true, true, true, true, true, true, true, true, true, true, true, true, true, true, true, false, false, false, false, false, false, false, false, false, false, false, false, false, false, false, false, false] rfl rfl (any_of HT_.out (by kernel_rfl)) (fun _ _ _ h => h) (Or.inr ⟨by rfl, rfl⟩) ?_ ?_
        rotate_left
        · simp only [Act.put, List.setIfInBounds_toArray, List.set_cons_zero, List.set_cons_succ, i64_w, i32_w]
          rfl
        refine pure_ (i := 16) (N := some 40) (v := undef) (a' := ?_) #[true, true, true, true, true, true, true, true, true, true, true, true, true, true, true, true, true, false, false, false, false, false, false, false, false, false, false, false, false, false, false, false, false] rfl rfl (any_of HT_.out (by kernel_rfl)) (fun _ _ _ h => h) (Or.inr ⟨by rfl, rfl⟩) ?_ ?_
        rotate_left
        · simp only [Act.put, List.setIfInBounds_toArray, List.set_cons_zero, List.set_cons_succ, i64_w, i32_w]
          rfl
        refine pure_ (i := 17) (N := some 41) (v := undef) (a' := ?_) #[true, true, true, true, true, true, true, true, true, true, true, true, true, true, true, true, true, true, false, false, false, false, false, false, false, false, false, false, false, false, false, false, false] rfl rfl (any_of HT_.out (by kernel_rfl)) (fun _ _ _ h => h) (Or.inr ⟨by rfl, rfl⟩) ?_ ?_
        rotate_left
        · simp only [Act.put, List.setIfInBounds_toArray, List.set_cons_zero, List.set_cons_succ, i64_w, i32_w]
          rfl
        refine pure_ (i := 18) (N := some 42) (v := undef) (a' := ?_) #[true, true, true, true, true, true, true, true, true, true, true, true, true, true, true, true, true, true, true, false, false, false, false, false, false, false, false, false, false, false, false, false, false] rfl rfl (any_of HT_.out (by kernel_rfl)) (fun _ _ _ h => h) (Or.inr ⟨by rfl, rfl⟩) ?_ ?_
        rotate_left
        · simp only [Act.put, List.setIfInBounds_toArray, List.set_cons_zero, List.set_cons_succ, i64_w, i32_w]
          rfl
        refine pure_ (i := 19) (N := some 43) (v := ?_) (a' := ?_) #[true, true, true, true, true, true, true, true, true, true, true, true, true, true, true, true, true, true, true, true, false, false, false, false, false, false, false, false, false, false, false, false, false] rfl rfl (any_of HT_.out (by kernel_rfl)) (fun _ _ _ h => h) (Or.inl ⟨by rfl, ?_⟩) ?_ ?_
        rotate_left
        · intro w'
          go_simp
          first | with_reducible rfl | (rw [if_neg (by intro h_; (try simp only [ByteArray.size_append, ByteArray.size_extract, eq_iff_iff, iff_true, show (⟨#[255]⟩ : ByteArray).size = 1 from rfl] at *); omega)]; first | done | rfl)
        rotate_left
        · simp only [Act.put, List.setIfInBounds_toArray, List.set_cons_zero, List.set_cons_succ, i64_w, i32_w]
          rfl
        refine pure_ (i := 20) (N := some 44) (v := ?_) (a' := ?_) #[true, true, true, true, true, true, true, true, true, true, true, true, true, true, true, true, true, true, true, true, true, false, false, false, false, false, false, false, false, false, false, false, false] rfl rfl (any_of HT_.out (by kernel_rfl)) (fun _ _ _ h => h) (Or.inl ⟨by rfl, ?_⟩) ?_ ?_
        rotate_left
        · intro w'
          go_simp
          first | with_reducible rfl | (rw [if_neg (by intro h_; (try simp only [ByteArray.size_append, ByteArray.size_extract, eq_iff_iff, iff_true, show (⟨#[255]⟩ : ByteArray).size = 1 from rfl] at *); omega)]; first | done | rfl)
        rotate_left
        · simp only [Act.put, List.setIfInBounds_toArray, List.set_cons_zero, List.set_cons_succ, i64_w, i32_w]
          rfl
        refine pure_ (i := 21) (N := some 45) (v := undef) (a' := ?_) #[true, true, true, true, true, true, true, true, true, true, true, true, true, true, true, true, true, true, true, true, true, true, false, false, false, false, false, false, false, false, false, false, false] rfl rfl (any_of HT_.out (by kernel_rfl)) (fun _ _ _ h => h) (Or.inr ⟨by rfl, rfl⟩) ?_ ?_
        rotate_left
        · simp only [Act.put, List.setIfInBounds_toArray, List.set_cons_zero, List.set_cons_succ, i64_w, i32_w]
          rfl
        refine pure_ (i := 22) (N := some 46) (v := undef) (a' := ?_) #[true, true, true, true, true, true, true, true, true, true, true, true, true, true, true, true, true, true, true, true, true, true, true, false, false, false, false, false, false, false, false, false, false] rfl rfl (any_of HT_.out (by kernel_rfl)) (fun _ _ _ h => h) (Or.inr ⟨by rfl, rfl⟩) ?_ ?_
        rotate_left
        · simp only [Act.put, List.setIfInBounds_toArray, List.set_cons_zero, List.set_cons_succ, i64_w, i32_w]
          rfl
        refine pure_ (i := 23) (N := some 47) (v := undef) (a' := ?_) #[true, true, true, true, true, true, true, true, true, true, true, true, true, true, true, true, true, true, true, true, true, true, true, true, false, false, false, false, false, false, false, false, false] rfl rfl (any_of HT_.out (by kernel_rfl)) (fun _ _ _ h => h) (Or.inr ⟨by rfl, rfl⟩) ?_ ?_
        rotate_left
        · simp only [Act.put, List.setIfInBounds_toArray, List.set_cons_zero, List.set_cons_succ, i64_w, i32_w]
          rfl
        refine pure_ (i := 24) (N := some 48) (v := undef) (a' := ?_) #[true, true, true, true, true, true, true, true, true, true, true, true, true, true, true, true, true, true, true, true, true, true, true, true, true, false, false, false, false, false, false, false, false] rfl rfl (any_of HT_.out (by kernel_rfl)) (fun _ _ _ h => h) (Or.inr ⟨by rfl, rfl⟩) ?_ ?_
        rotate_left
        · simp only [Act.put, List.setIfInBounds_toArray, List.set_cons_zero, List.set_cons_succ, i64_w, i32_w]
          rfl
        refine pure_ (i := 25) (N := some 49) (v := undef) (a' := ?_) #[true, true, true, true, true, true, true, true, true, true, true, true, true, true, true, true, true, true, true, true, true, true, true, true, true, true, false, false, false, false, false, false, false] rfl rfl (any_of HT_.out (by kernel_rfl)) (fun _ _ _ h => h) (Or.inr ⟨by rfl, rfl⟩) ?_ ?_
        rotate_left
        · simp only [Act.put, List.setIfInBounds_toArray, List.set_cons_zero, List.set_cons_succ, i64_w, i32_w]
          rfl
        refine pure_ (i := 26) (N := some 50) (v := undef) (a' := ?_) #[true, true, true, true, true, true, true, true, true, true, true, true, true, true, true, true, true, true, true, true, true, true, true, true, true, true, true, false, false, false, false, false, false] rfl rfl (any_of HT_.out (by kernel_rfl)) (fun _ _ _ h => h) (Or.inr ⟨by rfl, rfl⟩) ?_ ?_
        rotate_left
        · simp only [Act.put, List.setIfInBounds_toArray, List.set_cons_zero, List.set_cons_succ, i64_w, i32_w]
          rfl
        refine pure_ (i := 27) (N := some 51) (v := undef) (a' := ?_) #[true, true, true, true, true, true, true, true, true, true, true, true, true, true, true, true, true, true, true, true, true, true, true, true, true, true, true, true, false, false, false, false, false] rfl rfl (any_of HT_.out (by kernel_rfl)) (fun _ _ _ h => h) (Or.inr ⟨by rfl, rfl⟩) ?_ ?_
        rotate_left
        · simp only [Act.put, List.setIfInBounds_toArray, List.set_cons_zero, List.set_cons_succ, i64_w, i32_w]
          rfl
        refine pure_ (i := 28) (N := some 52) (v := undef) (a' := ?_) #[true, true, true, true, true, true, true, true, true, true, true, true, true, true, true, true, true, true, true, true, true, true, true, true, true, true, true, true, true, false, false, false, false] rfl rfl (any_of HT_.out (by kernel_rfl)) (fun _ _ _ h => h) (Or.inr ⟨by rfl, rfl⟩) ?_ ?_
        rotate_left
        · simp only [Act.put, List.setIfInBounds_toArray, List.set_cons_zero, List.set_cons_succ, i64_w, i32_w]
          rfl
        refine pure_ (i := 29) (N := some 53) (v := undef) (a' := ?_) #[true, true, true, true, true, true, true, true, true, true, true, true, true, true, true, true, true, true, true, true, true, true, true, true, true, true, true, true, true, true, false, false, false] rfl rfl (any_of HT_.out (by kernel_rfl)) (fun _ _ _ h => h) (Or.inr ⟨by rfl, rfl⟩) ?_ ?_
        rotate_left
        · simp only [Act.put, List.setIfInBounds_toArray, List.set_cons_zero, List.set_cons_succ, i64_w, i32_w]
          rfl
        refine pure_ (i := 30) (N := some 54) (v := undef) (a' := ?_) #[true, true, true, true, true, true, true, true, true, true, true, true, true, true, true, true, true, true, true, true, true, true, true, true, true, true, true, true, true, true, true, false, false] rfl rfl (any_of HT_.out (by kernel_rfl)) (fun _ _ _ h => h) (Or.inr ⟨by rfl, rfl⟩) ?_ ?_
        rotate_left
        · simp only [Act.put, List.setIfInBounds_toArray, List.set_cons_zero, List.set_cons_succ, i64_w, i32_w]
          rfl
        refine pure_ (i := 31) (N := some 55) (v := undef) (a' := ?_) #[true, true, true, true, true, true, true, true, true, true, true, true, true, true, true, true, true, true, true, true, true, true, true, true, true, true, true, true, true, true, true, true, false] rfl rfl (any_of HT_.out (by kernel_rfl)) (fun _ _ _ h => h) (Or.inr ⟨by rfl, rfl⟩) ?_ ?_
        rotate_left
        · simp only [Act.put, List.setIfInBounds_toArray, List.set_cons_zero, List.set_cons_succ, i64_w, i32_w]
          rfl
        refine pure_ (i := 32) (N := some 56) (v := ?_) (a' := ?_) #[true, true, true, true, true, true, true, true, true, true, true, true, true, true, true, true, true, true, true, true, true, true, true, true, true, true, true, true, true, true, true, true, true] rfl rfl (any_of HT_.out (by kernel_rfl)) (fun _ _ _ h => h) (Or.inl ⟨by rfl, ?_⟩) ?_ ?_
        rotate_left
        · intro w'
          go_simp
          first | with_reducible rfl | (rw [if_neg (by intro h_; (try simp only [ByteArray.size_append, ByteArray.size_extract, eq_iff_iff, iff_true, show (⟨#[255]⟩ : ByteArray).size = 1 from rfl] at *); omega)]; first | done | rfl)
        rotate_left
        · simp only [Act.put, List.setIfInBounds_toArray, List.set_cons_zero, List.set_cons_succ, i64_w, i32_w]
          rfl
        refine done_ (done_of HT_.out (by kernel_rfl)) ?_
        try go_wp2
        go_meet
        case rel => exact ⟨_, (true), (by first | rfl | (simp; done) | (simp [*]; done)), H', ⟨by first | omega | exact Nat.le_refl _⟩, ⟨by (with_reducible repeat (first | refine blk_drewN ?_ _ | refine blk_drew ?_ | refine blk_alloc ?_ _)); exact BK669.out⟩, ⟨by (with_reducible repeat (first | refine blk_drewN ?_ _ | refine blk_drew ?_ | refine blk_alloc ?_ _)); exact BK670.out⟩, ⟨by (with_reducible repeat (first | refine blk_drewN ?_ _ | refine blk_drew ?_ | refine blk_alloc ?_ _)); exact BK682.out⟩, ⟨by (with_reducible repeat (first | refine blk_drewN ?_ _ | refine blk_drew ?_ | refine blk_alloc ?_ _)); exact BK683.out⟩, ⟨by repeat (first | (with_reducible first | exact HB.out | apply below_alloc | apply pw_below_drewN | apply below_drew1 | refine below_set ?_ GE669.out | refine below_set ?_ GE670.out | refine below_set ?_ GE682.out | refine below_set ?_ GE683.out) | exact HB.out)⟩⟩
      · rw [if_neg c27] at H
        have c27b0 : (!(t684 == t688) || (!(t685 == t689) || (!(t686 == t690) || (!(t687 == t691))))) = false := by simpa using c27
        clear c27
        (first | rw [c27b0] | (simp only [i64_w, i32_w]; rw [c27b0]) | skip)
        replace H := Option.bind_eq_some_iff.mp H
        obtain ⟨⟨t692, t693, t694, t695⟩, A320, H⟩ := H
        replace H : ((impl_HashBlock.f k t661 t662 t663 t664 t674 t675 t676 t677).bind fun bt696 => (if ((t692 == bt696.1 && (t693 == bt696.2.1 && (t694 == bt696.2.2.1 && (t695 == bt696.2.2.2)))) != (t665 == t674 && (t666 == t675 && (t667 == t676 && (t668 == t677))))) = true then (laws_FnHashBlockApart.j0 k l0 true) else ((impl_HashBlock.f k t661 t662 t663 t664 t665 t666 t667 t668).bind fun bt700 => ((impl_HashBlock.f k t661 t662 t663 t664 t678 t679 t680 t681).bind fun bt704 => (laws_FnHashBlockApart.j0 k l0 ((bt700.1 == bt704.1 && (bt700.2.1 == bt704.2.1 && (bt700.2.2.1 == bt704.2.2.1 && (bt700.2.2.2 == bt704.2.2.2)))) != (t665 == t678 && (t666 == t679 && (t667 == t680 && (t668 == t681)))))))))) = some r := H
        have A32 := Aside0.mk A320
        clear A320
        replace H := Option.bind_eq_some_iff.mp H
        obtain ⟨⟨t696, t697, t698, t699⟩, A330, H⟩ := H
        replace H : (if ((t692 == t696 && (t693 == t697 && (t694 == t698 && (t695 == t699)))) != (t665 == t674 && (t666 == t675 && (t667 == t676 && (t668 == t677))))) = true then (laws_FnHashBlockApart.j0 k l0 true) else ((impl_HashBlock.f k t661 t662 t663 t664 t665 t666 t667 t668).bind fun bt700 => ((impl_HashBlock.f k t661 t662 t663 t664 t678 t679 t680 t681).bind fun bt704 => (laws_FnHashBlockApart.j0 k l0 ((bt700.1 == bt704.1 && (bt700.2.1 == bt704.2.1 && (bt700.2.2.1 == bt704.2.2.1 && (bt700.2.2.2 == bt704.2.2.2)))) != (t665 == t678 && (t666 == t679 && (t667 == t680 && (t668 == t681))))))))) = some r := H
        have A33 := Aside0.mk A330
        clear A330
        by_cases c34 : ((t692 == t696 && (t693 == t697 && (t694 == t698 && (t695 == t699)))) != (t665 == t674 && (t666 == t675 && (t667 == t676 && (t668 == t677))))) = true
        · rw [if_pos c34] at H
          have c34b0 : ((t692 == t696 && (t693 == t697 && (t694 == t698 && (t695 == t699)))) != (t665 == t674 && (t666 == t675 && (t667 == t676 && (t668 == t677))))) = true := c34
          (try (have c34b1 : decide ((t692 == t696 && (t693 == t697 && (t694 == t698 && (t695 == t699)))) = (t665 == t674 && (t666 == t675 && (t667 == t676 && (t668 == t677))))) = false := by simpa using c34))
          (try (have c34b2 : ((t692 == t696 && (t693 == t697 && (t694 == t698 && (t695 == t699)))) == (t665 == t674 && (t666 == t675 && (t667 == t676 && (t668 == t677))))) = false := by simpa using c34))
          (try (have c34b3 : ¬ ((t692 == t696 && (t693 == t697 && (t694 == t698 && (t695 == t699)))) = (t665 == t674 && (t666 == t675 && (t667 == t676 && (t668 == t677))))) := by simpa using c34))
          clear c34
          have H' := Aside0.mk H
          clear H
          try go_wp2
          have n0_ : Aside0 (Kd.R (Kd.int .u8) 5 ((((((((w17.setCell ⟨gb682, 0, none⟩ (.int .u64 t674)).setCell ⟨gb682, 1, none⟩ (.int .u64 t675)).setCell ⟨gb682, 2, none⟩ (.int .u64 t676)).setCell ⟨gb682, 3, none⟩ (.int .u64 t677)).setCell ⟨gb683, 0, none⟩ (.int .u64 t678)).setCell ⟨gb683, 1, none⟩ (.int .u64 t679)).setCell ⟨gb683, 2, none⟩ (.int .u64 t680)).setCell ⟨gb683, 3, none⟩ (.int .u64 t681)) w.heap.size (fun _ => True) (.slice Ao14 t671.length co14) t671) := ⟨by (with_reducible repeat (first | apply Kd.R_alloc | apply Kd.R_drewN | apply Kd.R_drew)); exact Kd.R_mono (Kd.R_far (p := ⟨gb683, 3, none⟩) (Kd.R_far (p := ⟨gb683, 2, none⟩) (Kd.R_far (p := ⟨gb683, 1, none⟩) (Kd.R_far (p := ⟨gb683, 0, none⟩) (Kd.R_far (p := ⟨gb682, 3, none⟩) (Kd.R_far (p := ⟨gb682, 2, none⟩) (Kd.R_far (p := ⟨gb682, 1, none⟩) (Kd.R_far (p := ⟨gb682, 0, none⟩) (Kd.R_types (Kd.R_types HO673.out BK682.out (by decide)) BK683.out (by decide)) (fun _ hk => hk.1.2) (.int .u64 t674)) (fun _ hk => hk.1.2) (.int .u64 t675)) (fun _ hk => hk.1.2) (.int .u64 t676)) (fun _ hk => hk.1.2) (.int .u64 t677)) (fun _ hk => hk.2) (.int .u64 t678)) (fun _ hk => hk.2) (.int .u64 t679)) (fun _ hk => hk.2) (.int .u64 t680)) (fun _ hk => hk.2) (.int .u64 t681)) (fun _ hk => trivial)⟩
          have n1_ : Aside0 (((((((((w17.setCell ⟨gb682, 0, none⟩ (.int .u64 t674)).setCell ⟨gb682, 1, none⟩ (.int .u64 t675)).setCell ⟨gb682, 2, none⟩ (.int .u64 t676)).setCell ⟨gb682, 3, none⟩ (.int .u64 t677)).setCell ⟨gb683, 0, none⟩ (.int .u64 t678)).setCell ⟨gb683, 1, none⟩ (.int .u64 t679)).setCell ⟨gb683, 2, none⟩ (.int .u64 t680)).setCell ⟨gb683, 3, none⟩ (.int .u64 t681)).heap[gb669]? = some (.cells #[.int .u64 t661, .int .u64 t662, .int .u64 t663, .int .u64 t664] 30 (0, 0))) := ⟨by (with_reducible repeat (first | refine blk_drewN ?_ _ | refine blk_drew ?_ | refine blk_alloc ?_ _)); refine blk_far ?_ NB669_683.out _; (with_reducible repeat (first | refine blk_drewN ?_ _ | refine blk_drew ?_ | refine blk_alloc ?_ _)); refine blk_far ?_ NB669_683.out _; (with_reducible repeat (first | refine blk_drewN ?_ _ | refine blk_drew ?_ | refine blk_alloc ?_ _)); refine blk_far ?_ NB669_683.out _; (with_reducible repeat (first | refine blk_drewN ?_ _ | refine blk_drew ?_ | refine blk_alloc ?_ _)); refine blk_far ?_ NB669_683.out _; (with_reducible repeat (first | refine blk_drewN ?_ _ | refine blk_drew ?_ | refine blk_alloc ?_ _)); refine blk_far ?_ NB669_682.out _; (with_reducible repeat (first | refine blk_drewN ?_ _ | refine blk_drew ?_ | refine blk_alloc ?_ _)); refine blk_far ?_ NB669_682.out _; (with_reducible repeat (first | refine blk_drewN ?_ _ | refine blk_drew ?_ | refine blk_alloc ?_ _)); refine blk_far ?_ NB669_682.out _; (with_reducible repeat (first | refine blk_drewN ?_ _ | refine blk_drew ?_ | refine blk_alloc ?_ _)); refine blk_far ?_ NB669_682.out _; (with_reducible repeat (first | refine blk_drewN ?_ _ | refine blk_drew ?_ | refine blk_alloc ?_ _)); exact BK669.out⟩
          have n2_ : Aside0 (((((((((w17.setCell ⟨gb682, 0, none⟩ (.int .u64 t674)).setCell ⟨gb682, 1, none⟩ (.int .u64 t675)).setCell ⟨gb682, 2, none⟩ (.int .u64 t676)).setCell ⟨gb682, 3, none⟩ (.int .u64 t677)).setCell ⟨gb683, 0, none⟩ (.int .u64 t678)).setCell ⟨gb683, 1, none⟩ (.int .u64 t679)).setCell ⟨gb683, 2, none⟩ (.int .u64 t680)).setCell ⟨gb683, 3, none⟩ (.int .u64 t681)).heap[gb670]? = some (.cells #[.int .u64 t665, .int .u64 t666, .int .u64 t667, .int .u64 t668] 30 (0, 0))) := ⟨by (with_reducible repeat (first | refine blk_drewN ?_ _ | refine blk_drew ?_ | refine blk_alloc ?_ _)); refine blk_far ?_ NB670_683.out _; (with_reducible repeat (first | refine blk_drewN ?_ _ | refine blk_drew ?_ | refine blk_alloc ?_ _)); refine blk_far ?_ NB670_683.out _; (with_reducible repeat (first | refine blk_drewN ?_ _ | refine blk_drew ?_ | refine blk_alloc ?_ _)); refine blk_far ?_ NB670_683.out _; (with_reducible repeat (first | refine blk_drewN ?_ _ | refine blk_drew ?_ | refine blk_alloc ?_ _)); refine blk_far ?_ NB670_683.out _; (with_reducible repeat (first | refine blk_drewN ?_ _ | refine blk_drew ?_ | refine blk_alloc ?_ _)); refine blk_far ?_ NB670_682.out _; (with_reducible repeat (first | refine blk_drewN ?_ _ | refine blk_drew ?_ | refine blk_alloc ?_ _)); refine blk_far ?_ NB670_682.out _; (with_reducible repeat (first | refine blk_drewN ?_ _ | refine blk_drew ?_ | refine blk_alloc ?_ _)); refine blk_far ?_ NB670_682.out _; (with_reducible repeat (first | refine blk_drewN ?_ _ | refine blk_drew ?_ | refine blk_alloc ?_ _)); refine blk_far ?_ NB670_682.out _; (with_reducible repeat (first | refine blk_drewN ?_ _ | refine blk_drew ?_ | refine blk_alloc ?_ _)); exact BK670.out⟩
          have n3_ : Aside0 (((((((((w17.setCell ⟨gb682, 0, none⟩ (.int .u64 t674)).setCell ⟨gb682, 1, none⟩ (.int .u64 t675)).setCell ⟨gb682, 2, none⟩ (.int .u64 t676)).setCell ⟨gb682, 3, none⟩ (.int .u64 t677)).setCell ⟨gb683, 0, none⟩ (.int .u64 t678)).setCell ⟨gb683, 1, none⟩ (.int .u64 t679)).setCell ⟨gb683, 2, none⟩ (.int .u64 t680)).setCell ⟨gb683, 3, none⟩ (.int .u64 t681)).heap[gb682]? = some (.cells #[.int .u64 t674, .int .u64 t675, .int .u64 t676, .int .u64 t677] 30 (0, 0))) := ⟨by (with_reducible repeat (first | refine blk_drewN ?_ _ | refine blk_drew ?_ | refine blk_alloc ?_ _)); refine blk_far ?_ NB682_683.out _; (with_reducible repeat (first | refine blk_drewN ?_ _ | refine blk_drew ?_ | refine blk_alloc ?_ _)); refine blk_far ?_ NB682_683.out _; (with_reducible repeat (first | refine blk_drewN ?_ _ | refine blk_drew ?_ | refine blk_alloc ?_ _)); refine blk_far ?_ NB682_683.out _; (with_reducible repeat (first | refine blk_drewN ?_ _ | refine blk_drew ?_ | refine blk_alloc ?_ _)); refine blk_far ?_ NB682_683.out _; (with_reducible repeat (first | refine blk_drewN ?_ _ | refine blk_drew ?_ | refine blk_alloc ?_ _)); refine blk_put (cs := #[.int .u64 t674, .int .u64 t675, .int .u64 t676, .int .u64 0]) ?_ 3 _ rfl; (with_reducible repeat (first | refine blk_drewN ?_ _ | refine blk_drew ?_ | refine blk_alloc ?_ _)); refine blk_put (cs := #[.int .u64 t674, .int .u64 t675, .int .u64 0, .int .u64 0]) ?_ 2 _ rfl; (with_reducible repeat (first | refine blk_drewN ?_ _ | refine blk_drew ?_ | refine blk_alloc ?_ _)); refine blk_put (cs := #[.int .u64 t674, .int .u64 0, .int .u64 0, .int .u64 0]) ?_ 1 _ rfl; (with_reducible repeat (first | refine blk_drewN ?_ _ | refine blk_drew ?_ | refine blk_alloc ?_ _)); refine blk_put (cs := #[.int .u64 0, .int .u64 0, .int .u64 0, .int .u64 0]) ?_ 0 _ rfl; (with_reducible repeat (first | refine blk_drewN ?_ _ | refine blk_drew ?_ | refine blk_alloc ?_ _)); exact BK682.out⟩
          have n4_ : Aside0 (((((((((w17.setCell ⟨gb682, 0, none⟩ (.int .u64 t674)).setCell ⟨gb682, 1, none⟩ (.int .u64 t675)).setCell ⟨gb682, 2, none⟩ (.int .u64 t676)).setCell ⟨gb682, 3, none⟩ (.int .u64 t677)).setCell ⟨gb683, 0, none⟩ (.int .u64 t678)).setCell ⟨gb683, 1, none⟩ (.int .u64 t679)).setCell ⟨gb683, 2, none⟩ (.int .u64 t680)).setCell ⟨gb683, 3, none⟩ (.int .u64 t681)).heap[gb683]? = some (.cells #[.int .u64 t678, .int .u64 t679, .int .u64 t680, .int .u64 t681] 30 (0, 0))) := ⟨by (with_reducible repeat (first | refine blk_drewN ?_ _ | refine blk_drew ?_ | refine blk_alloc ?_ _)); refine blk_put (cs := #[.int .u64 t678, .int .u64 t679, .int .u64 t680, .int .u64 0]) ?_ 3 _ rfl; (with_reducible repeat (first | refine blk_drewN ?_ _ | refine blk_drew ?_ | refine blk_alloc ?_ _)); refine blk_put (cs := #[.int .u64 t678, .int .u64 t679, .int .u64 0, .int .u64 0]) ?_ 2 _ rfl; (with_reducible repeat (first | refine blk_drewN ?_ _ | refine blk_drew ?_ | refine blk_alloc ?_ _)); refine blk_put (cs := #[.int .u64 t678, .int .u64 0, .int .u64 0, .int .u64 0]) ?_ 1 _ rfl; (with_reducible repeat (first | refine blk_drewN ?_ _ | refine blk_drew ?_ | refine blk_alloc ?_ _)); refine blk_put (cs := #[.int .u64 0, .int .u64 0, .int .u64 0, .int .u64 0]) ?_ 0 _ rfl; (with_reducible repeat (first | refine blk_drewN ?_ _ | refine blk_drew ?_ | refine blk_alloc ?_ _)); refine blk_far ?_ NB683_682.out _; (with_reducible repeat (first | refine blk_drewN ?_ _ | refine blk_drew ?_ | refine blk_alloc ?_ _)); refine blk_far ?_ NB683_682.out _; (with_reducible repeat (first | refine blk_drewN ?_ _ | refine blk_drew ?_ | refine blk_alloc ?_ _)); refine blk_far ?_ NB683_682.out _; (with_reducible repeat (first | refine blk_drewN ?_ _ | refine blk_drew ?_ | refine blk_alloc ?_ _)); refine blk_far ?_ NB683_682.out _; (with_reducible repeat (first | refine blk_drewN ?_ _ | refine blk_drew ?_ | refine blk_alloc ?_ _)); exact BK683.out⟩
          have n5_ : Aside0 (Below w.heap.size w ((((((((w17.setCell ⟨gb682, 0, none⟩ (.int .u64 t674)).setCell ⟨gb682, 1, none⟩ (.int .u64 t675)).setCell ⟨gb682, 2, none⟩ (.int .u64 t676)).setCell ⟨gb682, 3, none⟩ (.int .u64 t677)).setCell ⟨gb683, 0, none⟩ (.int .u64 t678)).setCell ⟨gb683, 1, none⟩ (.int .u64 t679)).setCell ⟨gb683, 2, none⟩ (.int .u64 t680)).setCell ⟨gb683, 3, none⟩ (.int .u64 t681))) := ⟨by repeat (first | (with_reducible first | exact HB.out | apply below_alloc | apply pw_below_drewN | apply below_drew1 | refine below_set ?_ GE669.out | refine below_set ?_ GE670.out | refine below_set ?_ GE682.out | refine below_set ?_ GE683.out) | exact HB.out)⟩
          (try clear HO673)
          (try clear BK669)
          (try clear BK670)
          (try clear BK682)
          (try clear BK683)
          (try clear HB)
          generalize ((((((((w17.setCell ⟨gb682, 0, none⟩ (.int .u64 t674)).setCell ⟨gb682, 1, none⟩ (.int .u64 t675)).setCell ⟨gb682, 2, none⟩ (.int .u64 t676)).setCell ⟨gb682, 3, none⟩ (.int .u64 t677)).setCell ⟨gb683, 0, none⟩ (.int .u64 t678)).setCell ⟨gb683, 1, none⟩ (.int .u64 t679)).setCell ⟨gb683, 2, none⟩ (.int .u64 t680)).setCell ⟨gb683, 3, none⟩ (.int .u64 t681)) = w35 at n0_ n1_ n2_ n3_ n4_ n5_ ⊢
          have HO673 := n0_
          have BK669 := n1_
          have BK670 := n2_
          have BK682 := n3_
          have BK683 := n4_
          have HB := n5_
          clear n0_ n1_ n2_ n3_ n4_ n5_
          have n0_ := Aside0.mk (Kd.R_drew HO673.out)
          have n1_ := Aside0.mk (blk_drew BK669.out)
          have n2_ := Aside0.mk (blk_drew BK670.out)
          have n3_ := Aside0.mk (blk_drew BK682.out)
          have n4_ := Aside0.mk (blk_drew BK683.out)
          have n5_ := Aside0.mk (below_drew1 HB.out)
          clear HO673
          clear BK669
          clear BK670
          clear BK682
          clear BK683
          clear HB
          have HO673 := n0_
          have BK669 := n1_
          have BK670 := n2_
          have BK682 := n3_
          have BK683 := n4_
          have HB := n5_
          clear n0_ n1_ n2_ n3_ n4_ n5_
          refine start_ (n := 33) (S := fun w' => w'.cell? ⟨gb669, 0, none⟩ = some (.int .u64 t661) ∧ w'.cell? ⟨gb669, 1, none⟩ = some (.int .u64 t662) ∧ w'.cell? ⟨gb669, 2, none⟩ = some (.int .u64 t663) ∧ w'.cell? ⟨gb669, 3, none⟩ = some (.int .u64 t664) ∧ w'.cell? ⟨gb670, 0, none⟩ = some (.int .u64 t665) ∧ w'.cell? ⟨gb670, 1, none⟩ = some (.int .u64 t666) ∧ w'.cell? ⟨gb670, 2, none⟩ = some (.int .u64 t667) ∧ w'.cell? ⟨gb670, 3, none⟩ = some (.int .u64 t668) ∧ w'.cell? ⟨gb682, 0, none⟩ = some (.int .u64 t674) ∧ w'.cell? ⟨gb682, 1, none⟩ = some (.int .u64 t675) ∧ w'.cell? ⟨gb682, 2, none⟩ = some (.int .u64 t676) ∧ w'.cell? ⟨gb682, 3, none⟩ = some (.int .u64 t677)) (ds := []) #[false, false, false, false, false, false, false, false, false, false, false, false, false, false, false, false, false, false, false, false, false, false, false, false, false, false, false, false, false, false, false, false, false] (by kernel_rfl) rfl rfl ⟨(blk_cell BK669.out 0).trans rfl, (blk_cell BK669.out 1).trans rfl, (blk_cell BK669.out 2).trans rfl, (blk_cell BK669.out 3).trans rfl, (blk_cell BK670.out 0).trans rfl, (blk_cell BK670.out 1).trans rfl, (blk_cell BK670.out 2).trans rfl, (blk_cell BK670.out 3).trans rfl, (blk_cell BK682.out 0).trans rfl, (blk_cell BK682.out 1).trans rfl, (blk_cell BK682.out 2).trans rfl, (blk_cell BK682.out 3).trans rfl⟩ (fun hHeld => ?_); refine with_tabW laws_FnHashBlockApart.tab5 laws_FnHashBlockApart.bits5 (fun HT_ HW_ => ?_)
          generalize w35.drew = w36 at HO673 BK669 BK670 BK682 BK683 HB hHeld ⊢
          refine take_ (i := 0) (N := some 24) (v := ?_) (a' := ?_) #[true, false, false, false, false, false, false, false, false, false, false, false, false, false, false, false, false, false, false, false, false, false, false, false, false, false, false, false, false, false, false, false, false] rfl rfl (take_ofW HT_.out HW_.out (by kernel_rfl)) (fun _ _ _ h => h) (Or.inl ⟨by rfl, ?_⟩) hHeld ?_ ?_
          rotate_left
          · rintro w' ⟨s0, s1, s2, s3, s4, s5, s6, s7, s8, s9, s10, s11⟩
            go_simp
            first | with_reducible rfl | (rw [if_neg (by intro h_; (try simp only [ByteArray.size_append, ByteArray.size_extract, eq_iff_iff, iff_true, show (⟨#[255]⟩ : ByteArray).size = 1 from rfl] at *); omega)]; first | done | rfl)
          rotate_left
          · simp only [Act.put, List.setIfInBounds_toArray, List.set_cons_zero, List.set_cons_succ, i64_w, i32_w]
            rfl
          refine take_ (i := 1) (N := some 25) (v := ?_) (a' := ?_) #[true, true, false, false, false, false, false, false, false, false, false, false, false, false, false, false, false, false, false, false, false, false, false, false, false, false, false, false, false, false, false, false, false] rfl rfl (take_ofW HT_.out HW_.out (by kernel_rfl)) (fun _ _ _ h => h) (Or.inl ⟨by rfl, ?_⟩) hHeld ?_ ?_
          rotate_left
          · rintro w' ⟨s0, s1, s2, s3, s4, s5, s6, s7, s8, s9, s10, s11⟩
            go_simp
            first | with_reducible rfl | (rw [if_neg (by intro h_; (try simp only [ByteArray.size_append, ByteArray.size_extract, eq_iff_iff, iff_true, show (⟨#[255]⟩ : ByteArray).size = 1 from rfl] at *); omega)]; first | done | rfl)
          rotate_left
          · simp only [Act.put, List.setIfInBounds_toArray, List.set_cons_zero, List.set_cons_succ, i64_w, i32_w]
            rfl
          refine take_ (i := 3) (N := some 27) (v := ?_) (a' := ?_) #[true, true, false, true, false, false, false, false, false, false, false, false, false, false, false, false, false, false, false, false, false, false, false, false, false, false, false, false, false, false, false, false, false] rfl rfl (take_ofW HT_.out HW_.out (by kernel_rfl)) (fun _ _ _ h => h) (Or.inl ⟨by rfl, ?_⟩) hHeld ?_ ?_
          rotate_left
          · rintro w' ⟨s0, s1, s2, s3, s4, s5, s6, s7, s8, s9, s10, s11⟩
            go_simp
            first | with_reducible rfl | (rw [if_neg (by intro h_; (try simp only [ByteArray.size_append, ByteArray.size_extract, eq_iff_iff, iff_true, show (⟨#[255]⟩ : ByteArray).size = 1 from rfl] at *); omega)]; first | done | rfl)
          rotate_left
          · simp only [Act.put, List.setIfInBounds_toArray, List.set_cons_zero, List.set_cons_succ, i64_w, i32_w]
            rfl
          refine take_ (i := 4) (N := some 28) (v := ?_) (a' := ?_) #[true, true, false, true, true, false, false, false, false, false, false, false, false, false, false, false, false, false, false, false, false, false, false, false, false, false, false, false, false, false, false, false, false] rfl rfl (take_ofW HT_.out HW_.out (by kernel_rfl)) (fun _ _ _ h => h) (Or.inl ⟨by rfl, ?_⟩) hHeld ?_ ?_
          rotate_left
          · rintro w' ⟨s0, s1, s2, s3, s4, s5, s6, s7, s8, s9, s10, s11⟩
            go_simp
            first | with_reducible rfl | (rw [if_neg (by intro h_; (try simp only [ByteArray.size_append, ByteArray.size_extract, eq_iff_iff, iff_true, show (⟨#[255]⟩ : ByteArray).size = 1 from rfl] at *); omega)]; first | done | rfl)
          rotate_left
          · simp only [Act.put, List.setIfInBounds_toArray, List.set_cons_zero, List.set_cons_succ, i64_w, i32_w]
            rfl
          refine one_ (i := 2) (N := some 26) #[true, true, true, true, true, false, false, false, false, false, false, false, false, false, false, false, false, false, false, false, false, false, false, false, false, false, false, false, false, false, false, false, false] rfl rfl (one_of HT_.out (by kernel_rfl)) (by decide) (fun K hK => ?_)
          refine goes_ Try.func45 (by kernel_rfl) rfl #[.agg #[.int .u64 t661, .int .u64 t662, .int .u64 t663, .int .u64 t664], .agg #[.int .u64 t665, .int .u64 t666, .int .u64 t667, .int .u64 t668]] (by rfl) rfl rfl (by (try simp only [List.map_toArray, List.map_cons, List.map_nil]); first | done | rfl | (simp only [List.length_drop, List.length_take]; rfl)) ?_
          with_reducible refine (impl_HashBlock.calls k t661 t662 t663 t664 t665 t666 t667 t668 t684 t685 t686 t687 _ A25.out).mono ?_
          rintro e w37 ⟨rfl, hb⟩
          refine ⟨_, rfl, ?_⟩
          have n0_ := Aside0.mk (Kd.R_below (by (with_reducible repeat (first | apply Kd.R_alloc | apply Kd.R_drewN | apply Kd.R_drew)); exact HO673.out) hb)
          have n1_ := Aside0.mk (blk_below (g := gb669) (o := .cells #[.int .u64 t661, .int .u64 t662, .int .u64 t663, .int .u64 t664] 30 (0, 0)) (by (with_reducible repeat (first | refine blk_drewN ?_ _ | refine blk_drew ?_ | refine blk_alloc ?_ _)); exact BK669.out) hb)
          have n2_ := Aside0.mk (blk_below (g := gb670) (o := .cells #[.int .u64 t665, .int .u64 t666, .int .u64 t667, .int .u64 t668] 30 (0, 0)) (by (with_reducible repeat (first | refine blk_drewN ?_ _ | refine blk_drew ?_ | refine blk_alloc ?_ _)); exact BK670.out) hb)
          have n3_ := Aside0.mk (blk_below (g := gb682) (o := .cells #[.int .u64 t674, .int .u64 t675, .int .u64 t676, .int .u64 t677] 30 (0, 0)) (by (with_reducible repeat (first | refine blk_drewN ?_ _ | refine blk_drew ?_ | refine blk_alloc ?_ _)); exact BK682.out) hb)
          have n4_ := Aside0.mk (blk_below (g := gb683) (o := .cells #[.int .u64 t678, .int .u64 t679, .int .u64 t680, .int .u64 t681] 30 (0, 0)) (by (with_reducible repeat (first | refine blk_drewN ?_ _ | refine blk_drew ?_ | refine blk_alloc ?_ _)); exact BK683.out) hb)
          have n5_ := Aside0.mk (below_step (by repeat (first | (with_reducible first | exact HB.out | apply below_alloc | apply pw_below_drewN | apply below_drew1 | refine below_set ?_ GE669.out | refine below_set ?_ GE670.out | refine below_set ?_ GE682.out | refine below_set ?_ GE683.out) | exact HB.out)) hb)
          clear HO673
          clear BK669
          clear BK670
          clear BK682
          clear BK683
          clear HB
          have HO673 := n0_
          have BK669 := n1_
          have BK670 := n2_
          have BK682 := n3_
          have BK683 := n4_
          have HB := n5_
          clear n0_ n1_ n2_ n3_ n4_ n5_
          (try clear hb)
          (try clear hb2)
          (try clear hk)
          (try clear hi)
          refine hK.out _ _ ⟨(blk_cell BK669.out 0).trans rfl, (blk_cell BK669.out 1).trans rfl, (blk_cell BK669.out 2).trans rfl, (blk_cell BK669.out 3).trans rfl, (blk_cell BK670.out 0).trans rfl, (blk_cell BK670.out 1).trans rfl, (blk_cell BK670.out 2).trans rfl, (blk_cell BK670.out 3).trans rfl, (blk_cell BK682.out 0).trans rfl, (blk_cell BK682.out 1).trans rfl, (blk_cell BK682.out 2).trans rfl, (blk_cell BK682.out 3).trans rfl⟩ (fun hHeld => ?_)
          clear hK K
          refine norm_ (a' := ?_) ?_ ?_
          rotate_left
          · show Act.put _ (some 26) _ = _
            simp only [Act.put, List.setIfInBounds_toArray, List.set_cons_zero, List.set_cons_succ, i64_w, i32_w]
            rfl
          refine one_ (i := 5) (N := some 29) #[true, true, true, true, true, true, false, false, false, false, false, false, false, false, false, false, false, false, false, false, false, false, false, false, false, false, false, false, false, false, false, false, false] rfl rfl (one_of HT_.out (by kernel_rfl)) (by decide) (fun K hK => ?_)
          refine goes_ Try.func44 (by kernel_rfl) rfl #[.agg #[.int .u64 t661, .int .u64 t662, .int .u64 t663, .int .u64 t664], .agg #[.int .u64 t665, .int .u64 t666, .int .u64 t667, .int .u64 t668]] (by rfl) rfl rfl (by (try simp only [List.map_toArray, List.map_cons, List.map_nil]); first | done | rfl | (simp only [List.length_drop, List.length_take]; rfl)) ?_
          with_reducible refine (spec_HashBlock.calls k t661 t662 t663 t664 t665 t666 t667 t668 t688 t689 t690 t691 _ A26.out).mono ?_
          rintro e w38 ⟨rfl, hb⟩
          refine ⟨_, rfl, ?_⟩
          have n0_ := Aside0.mk (Kd.R_below (by (with_reducible repeat (first | apply Kd.R_alloc | apply Kd.R_drewN | apply Kd.R_drew)); exact HO673.out) hb)
          have n1_ := Aside0.mk (blk_below (g := gb669) (o := .cells #[.int .u64 t661, .int .u64 t662, .int .u64 t663, .int .u64 t664] 30 (0, 0)) (by (with_reducible repeat (first | refine blk_drewN ?_ _ | refine blk_drew ?_ | refine blk_alloc ?_ _)); exact BK669.out) hb)
          have n2_ := Aside0.mk (blk_below (g := gb670) (o := .cells #[.int .u64 t665, .int .u64 t666, .int .u64 t667, .int .u64 t668] 30 (0, 0)) (by (with_reducible repeat (first | refine blk_drewN ?_ _ | refine blk_drew ?_ | refine blk_alloc ?_ _)); exact BK670.out) hb)
          have n3_ := Aside0.mk (blk_below (g := gb682) (o := .cells #[.int .u64 t674, .int .u64 t675, .int .u64 t676, .int .u64 t677] 30 (0, 0)) (by (with_reducible repeat (first | refine blk_drewN ?_ _ | refine blk_drew ?_ | refine blk_alloc ?_ _)); exact BK682.out) hb)
          have n4_ := Aside0.mk (blk_below (g := gb683) (o := .cells #[.int .u64 t678, .int .u64 t679, .int .u64 t680, .int .u64 t681] 30 (0, 0)) (by (with_reducible repeat (first | refine blk_drewN ?_ _ | refine blk_drew ?_ | refine blk_alloc ?_ _)); exact BK683.out) hb)
          have n5_ := Aside0.mk (below_step (by repeat (first | (with_reducible first | exact HB.out | apply below_alloc | apply pw_below_drewN | apply below_drew1 | refine below_set ?_ GE669.out | refine below_set ?_ GE670.out | refine below_set ?_ GE682.out | refine below_set ?_ GE683.out) | exact HB.out)) hb)
          clear HO673
          clear BK669
          clear BK670
          clear BK682
          clear BK683
          clear HB
          have HO673 := n0_
          have BK669 := n1_
          have BK670 := n2_
          have BK682 := n3_
          have BK683 := n4_
          have HB := n5_
          clear n0_ n1_ n2_ n3_ n4_ n5_
          (try clear hb)
          (try clear hb2)
          (try clear hk)
          (try clear hi)
          refine hK.out _ _ ⟨(blk_cell BK669.out 0).trans rfl, (blk_cell BK669.out 1).trans rfl, (blk_cell BK669.out 2).trans rfl, (blk_cell BK669.out 3).trans rfl, (blk_cell BK670.out 0).trans rfl, (blk_cell BK670.out 1).trans rfl, (blk_cell BK670.out 2).trans rfl, (blk_cell BK670.out 3).trans rfl, (blk_cell BK682.out 0).trans rfl, (blk_cell BK682.out 1).trans rfl, (blk_cell BK682.out 2).trans rfl, (blk_cell BK682.out 3).trans rfl⟩ (fun hHeld => ?_)
          clear hK K
          refine norm_ (a' := ?_) ?_ ?_
          rotate_left
          · show Act.put _ (some 29) _ = _
            simp only [Act.put, List.setIfInBounds_toArray, List.set_cons_zero, List.set_cons_succ, i64_w, i32_w]
            rfl
          refine pure_ (i := 6) (N := some 30) (v := ?_) (a' := ?_) #[true, true, true, true, true, true, true, false, false, false, false, false, false, false, false, false, false, false, false, false, false, false, false, false, false, false, false, false, false, false, false, false, false] rfl rfl (any_of HT_.out (by kernel_rfl)) (fun _ _ _ h => h) (Or.inl ⟨by rfl, ?_⟩) ?_ ?_
          rotate_left
          · intro w'
            go_simp
            first | with_reducible rfl | (rw [if_neg (by intro h_; (try simp only [ByteArray.size_append, ByteArray.size_extract, eq_iff_iff, iff_true, show (⟨#[255]⟩ : ByteArray).size = 1 from rfl] at *); omega)]; first | done | rfl)
          rotate_left
          · simp only [Act.put, List.setIfInBounds_toArray, List.set_cons_zero, List.set_cons_succ, i64_w, i32_w]
            rfl
          refine pure_ (i := 7) (N := some 31) (v := ?_) (a' := ?_) #[true, true, true, true, true, true, true, true, false, false, false, false, false, false, false, false, false, false, false, false, false, false, false, false, false, false, false, false, false, false, false, false, false] rfl rfl (any_of HT_.out (by kernel_rfl)) (fun _ _ _ h => h) (Or.inl ⟨by rfl, ?_⟩) ?_ ?_
          rotate_left
          · intro w'
            go_simp
            first | with_reducible rfl | (rw [if_neg (by intro h_; (try simp only [ByteArray.size_append, ByteArray.size_extract, eq_iff_iff, iff_true, show (⟨#[255]⟩ : ByteArray).size = 1 from rfl] at *); omega)]; first | done | rfl)
          rotate_left
          · simp only [Act.put, List.setIfInBounds_toArray, List.set_cons_zero, List.set_cons_succ, i64_w, i32_w]
            rfl
          refine take_ (i := 8) (N := some 32) (v := ?_) (a' := ?_) #[true, true, true, true, true, true, true, true, true, false, false, false, false, false, false, false, false, false, false, false, false, false, false, false, false, false, false, false, false, false, false, false, false] rfl rfl (take_ofW HT_.out HW_.out (by kernel_rfl)) (fun _ _ _ h => h) (Or.inl ⟨by rfl, ?_⟩) hHeld ?_ ?_
          rotate_left
          · rintro w' ⟨s0, s1, s2, s3, s4, s5, s6, s7, s8, s9, s10, s11⟩
            go_simp
            first | with_reducible rfl | (rw [if_neg (by intro h_; (try simp only [ByteArray.size_append, ByteArray.size_extract, eq_iff_iff, iff_true, show (⟨#[255]⟩ : ByteArray).size = 1 from rfl] at *); omega)]; first | done | rfl)
          rotate_left
          · simp only [Act.put, List.setIfInBounds_toArray, List.set_cons_zero, List.set_cons_succ, i64_w, i32_w]
            rfl
          refine take_ (i := 9) (N := some 33) (v := ?_) (a' := ?_) #[true, true, true, true, true, true, true, true, true, true, false, false, false, false, false, false, false, false, false, false, false, false, false, false, false, false, false, false, false, false, false, false, false] rfl rfl (take_ofW HT_.out HW_.out (by kernel_rfl)) (fun _ _ _ h => h) (Or.inl ⟨by rfl, ?_⟩) hHeld ?_ ?_
          rotate_left
          · rintro w' ⟨s0, s1, s2, s3, s4, s5, s6, s7, s8, s9, s10, s11⟩
            go_simp
            first | with_reducible rfl | (rw [if_neg (by intro h_; (try simp only [ByteArray.size_append, ByteArray.size_extract, eq_iff_iff, iff_true, show (⟨#[255]⟩ : ByteArray).size = 1 from rfl] at *); omega)]; first | done | rfl)
          rotate_left
          · simp only [Act.put, List.setIfInBounds_toArray, List.set_cons_zero, List.set_cons_succ, i64_w, i32_w]
            rfl
          refine take_ (i := 11) (N := some 35) (v := ?_) (a' := ?_) #[true, true, true, true, true, true, true, true, true, true, false, true, false, false, false, false, false, false, false, false, false, false, false, false, false, false, false, false, false, false, false, false, false] rfl rfl (take_ofW HT_.out HW_.out (by kernel_rfl)) (fun _ _ _ h => h) (Or.inl ⟨by rfl, ?_⟩) hHeld ?_ ?_
          rotate_left
          · rintro w' ⟨s0, s1, s2, s3, s4, s5, s6, s7, s8, s9, s10, s11⟩
            go_simp
            first | with_reducible rfl | (rw [if_neg (by intro h_; (try simp only [ByteArray.size_append, ByteArray.size_extract, eq_iff_iff, iff_true, show (⟨#[255]⟩ : ByteArray).size = 1 from rfl] at *); omega)]; first | done | rfl)
          rotate_left
          · simp only [Act.put, List.setIfInBounds_toArray, List.set_cons_zero, List.set_cons_succ, i64_w, i32_w]
            rfl
          refine take_ (i := 12) (N := some 36) (v := ?_) (a' := ?_) #[true, true, true, true, true, true, true, true, true, true, false, true, true, false, false, false, false, false, false, false, false, false, false, false, false, false, false, false, false, false, false, false, false] rfl rfl (take_ofW HT_.out HW_.out (by kernel_rfl)) (fun _ _ _ h => h) (Or.inl ⟨by rfl, ?_⟩) hHeld ?_ ?_
          rotate_left
          · rintro w' ⟨s0, s1, s2, s3, s4, s5, s6, s7, s8, s9, s10, s11⟩
            go_simp
            first | with_reducible rfl | (rw [if_neg (by intro h_; (try simp only [ByteArray.size_append, ByteArray.size_extract, eq_iff_iff, iff_true, show (⟨#[255]⟩ : ByteArray).size = 1 from rfl] at *); omega)]; first | done | rfl)
          rotate_left
          · simp only [Act.put, List.setIfInBounds_toArray, List.set_cons_zero, List.set_cons_succ, i64_w, i32_w]
            rfl
          refine take_ (i := 15) (N := some 39) (v := ?_) (a' := ?_) #[true, true, true, true, true, true, true, true, true, true, false, true, true, false, false, true, false, false, false, false, false, false, false, false, false, false, false, false, false, false, false, false, false] rfl rfl (take_ofW HT_.out HW_.out (by kernel_rfl)) (fun _ _ _ h => h) (Or.inl ⟨by rfl, ?_⟩) hHeld ?_ ?_
          rotate_left
          · rintro w' ⟨s0, s1, s2, s3, s4, s5, s6, s7, s8, s9, s10, s11⟩
            go_simp
            first | with_reducible rfl | (rw [if_neg (by intro h_; (try simp only [ByteArray.size_append, ByteArray.size_extract, eq_iff_iff, iff_true, show (⟨#[255]⟩ : ByteArray).size = 1 from rfl] at *); omega)]; first | done | rfl)
          rotate_left
          · simp only [Act.put, List.setIfInBounds_toArray, List.set_cons_zero, List.set_cons_succ, i64_w, i32_w]
            rfl
          refine take_ (i := 16) (N := some 40) (v := ?_) (a' := ?_) #[true, true, true, true, true, true, true, true, true, true, false, true, true, false, false, true, true, false, false, false, false, false, false, false, false, false, false, false, false, false, false, false, false] rfl rfl (take_ofW HT_.out HW_.out (by kernel_rfl)) (fun _ _ _ h => h) (Or.inl ⟨by rfl, ?_⟩) hHeld ?_ ?_
          rotate_left
          · rintro w' ⟨s0, s1, s2, s3, s4, s5, s6, s7, s8, s9, s10, s11⟩
            go_simp
            first | with_reducible rfl | (rw [if_neg (by intro h_; (try simp only [ByteArray.size_append, ByteArray.size_extract, eq_iff_iff, iff_true, show (⟨#[255]⟩ : ByteArray).size = 1 from rfl] at *); omega)]; first | done | rfl)
          rotate_left
          · simp only [Act.put, List.setIfInBounds_toArray, List.set_cons_zero, List.set_cons_succ, i64_w, i32_w]
            rfl
          refine pure_ (i := 17) (N := some 41) (v := ?_) (a' := ?_) #[true, true, true, true, true, true, true, true, true, true, false, true, true, false, false, true, true, true, false, false, false, false, false, false, false, false, false, false, false, false, false, false, false] rfl rfl (any_of HT_.out (by kernel_rfl)) (fun _ _ _ h => h) (Or.inl ⟨by rfl, ?_⟩) ?_ ?_
          rotate_left
          · intro w'
            go_simp
            first | with_reducible rfl | (rw [if_neg (by intro h_; (try simp only [ByteArray.size_append, ByteArray.size_extract, eq_iff_iff, iff_true, show (⟨#[255]⟩ : ByteArray).size = 1 from rfl] at *); omega)]; first | done | rfl)
          rotate_left
          · simp only [Act.put, List.setIfInBounds_toArray, List.set_cons_zero, List.set_cons_succ, i64_w, i32_w]
            rfl
          refine one_ (i := 10) (N := some 34) #[true, true, true, true, true, true, true, true, true, true, true, true, true, false, false, true, true, true, false, false, false, false, false, false, false, false, false, false, false, false, false, false, false] rfl rfl (one_of HT_.out (by kernel_rfl)) (by decide) (fun K hK => ?_)
          refine goes_ Try.func45 (by kernel_rfl) rfl #[.agg #[.int .u64 t661, .int .u64 t662, .int .u64 t663, .int .u64 t664], .agg #[.int .u64 t665, .int .u64 t666, .int .u64 t667, .int .u64 t668]] (by rfl) rfl rfl (by (try simp only [List.map_toArray, List.map_cons, List.map_nil]); first | done | rfl | (simp only [List.length_drop, List.length_take]; rfl)) ?_
          with_reducible refine (impl_HashBlock.calls k t661 t662 t663 t664 t665 t666 t667 t668 t692 t693 t694 t695 _ A32.out).mono ?_
          rintro e w39 ⟨rfl, hb⟩
          refine ⟨_, rfl, ?_⟩
          have n0_ := Aside0.mk (Kd.R_below (by (with_reducible repeat (first | apply Kd.R_alloc | apply Kd.R_drewN | apply Kd.R_drew)); exact HO673.out) hb)
          have n1_ := Aside0.mk (blk_below (g := gb669) (o := .cells #[.int .u64 t661, .int .u64 t662, .int .u64 t663, .int .u64 t664] 30 (0, 0)) (by (with_reducible repeat (first | refine blk_drewN ?_ _ | refine blk_drew ?_ | refine blk_alloc ?_ _)); exact BK669.out) hb)
          have n2_ := Aside0.mk (blk_below (g := gb670) (o := .cells #[.int .u64 t665, .int .u64 t666, .int .u64 t667, .int .u64 t668] 30 (0, 0)) (by (with_reducible repeat (first | refine blk_drewN ?_ _ | refine blk_drew ?_ | refine blk_alloc ?_ _)); exact BK670.out) hb)
          have n3_ := Aside0.mk (blk_below (g := gb682) (o := .cells #[.int .u64 t674, .int .u64 t675, .int .u64 t676, .int .u64 t677] 30 (0, 0)) (by (with_reducible repeat (first | refine blk_drewN ?_ _ | refine blk_drew ?_ | refine blk_alloc ?_ _)); exact BK682.out) hb)
          have n4_ := Aside0.mk (blk_below (g := gb683) (o := .cells #[.int .u64 t678, .int .u64 t679, .int .u64 t680, .int .u64 t681] 30 (0, 0)) (by (with_reducible repeat (first | refine blk_drewN ?_ _ | refine blk_drew ?_ | refine blk_alloc ?_ _)); exact BK683.out) hb)
          have n5_ := Aside0.mk (below_step (by repeat (first | (with_reducible first | exact HB.out | apply below_alloc | apply pw_below_drewN | apply below_drew1 | refine below_set ?_ GE669.out | refine below_set ?_ GE670.out | refine below_set ?_ GE682.out | refine below_set ?_ GE683.out) | exact HB.out)) hb)
          clear HO673
          clear BK669
          clear BK670
          clear BK682
          clear BK683
          clear HB
          have HO673 := n0_
          have BK669 := n1_
          have BK670 := n2_
          have BK682 := n3_
          have BK683 := n4_
          have HB := n5_
          clear n0_ n1_ n2_ n3_ n4_ n5_
          (try clear hb)
          (try clear hb2)
          (try clear hk)
          (try clear hi)
          refine hK.out _ _ ⟨(blk_cell BK669.out 0).trans rfl, (blk_cell BK669.out 1).trans rfl, (blk_cell BK669.out 2).trans rfl, (blk_cell BK669.out 3).trans rfl, (blk_cell BK670.out 0).trans rfl, (blk_cell BK670.out 1).trans rfl, (blk_cell BK670.out 2).trans rfl, (blk_cell BK670.out 3).trans rfl, (blk_cell BK682.out 0).trans rfl, (blk_cell BK682.out 1).trans rfl, (blk_cell BK682.out 2).trans rfl, (blk_cell BK682.out 3).trans rfl⟩ (fun hHeld => ?_)
          clear hK K
          refine norm_ (a' := ?_) ?_ ?_
          rotate_left
          · show Act.put _ (some 34) _ = _
            simp only [Act.put, List.setIfInBounds_toArray, List.set_cons_zero, List.set_cons_succ, i64_w, i32_w]
            rfl
          refine one_ (i := 13) (N := some 37) #[true, true, true, true, true, true, true, true, true, true, true, true, true, true, false, true, true, true, false, false, false, false, false, false, false, false, false, false, false, false, false, false, false] rfl rfl (one_of HT_.out (by kernel_rfl)) (by decide) (fun K hK => ?_)
          refine goes_ Try.func45 (by kernel_rfl) rfl #[.agg #[.int .u64 t661, .int .u64 t662, .int .u64 t663, .int .u64 t664], .agg #[.int .u64 t674, .int .u64 t675, .int .u64 t676, .int .u64 t677]] (by rfl) rfl rfl (by (try simp only [List.map_toArray, List.map_cons, List.map_nil]); first | done | rfl | (simp only [List.length_drop, List.length_take]; rfl)) ?_
          with_reducible refine (impl_HashBlock.calls k t661 t662 t663 t664 t674 t675 t676 t677 t696 t697 t698 t699 _ A33.out).mono ?_
          rintro e w40 ⟨rfl, hb⟩
          refine ⟨_, rfl, ?_⟩
          have n0_ := Aside0.mk (Kd.R_below (by (with_reducible repeat (first | apply Kd.R_alloc | apply Kd.R_drewN | apply Kd.R_drew)); exact HO673.out) hb)
          have n1_ := Aside0.mk (blk_below (g := gb669) (o := .cells #[.int .u64 t661, .int .u64 t662, .int .u64 t663, .int .u64 t664] 30 (0, 0)) (by (with_reducible repeat (first | refine blk_drewN ?_ _ | refine blk_drew ?_ | refine blk_alloc ?_ _)); exact BK669.out) hb)
          have n2_ := Aside0.mk (blk_below (g := gb670) (o := .cells #[.int .u64 t665, .int .u64 t666, .int .u64 t667, .int .u64 t668] 30 (0, 0)) (by (with_reducible repeat (first | refine blk_drewN ?_ _ | refine blk_drew ?_ | refine blk_alloc ?_ _)); exact BK670.out) hb)
          have n3_ := Aside0.mk (blk_below (g := gb682) (o := .cells #[.int .u64 t674, .int .u64 t675, .int .u64 t676, .int .u64 t677] 30 (0, 0)) (by (with_reducible repeat (first | refine blk_drewN ?_ _ | refine blk_drew ?_ | refine blk_alloc ?_ _)); exact BK682.out) hb)
          have n4_ := Aside0.mk (blk_below (g := gb683) (o := .cells #[.int .u64 t678, .int .u64 t679, .int .u64 t680, .int .u64 t681] 30 (0, 0)) (by (with_reducible repeat (first | refine blk_drewN ?_ _ | refine blk_drew ?_ | refine blk_alloc ?_ _)); exact BK683.out) hb)
          have n5_ := Aside0.mk (below_step (by repeat (first | (with_reducible first | exact HB.out | apply below_alloc | apply pw_below_drewN | apply below_drew1 | refine below_set ?_ GE669.out | refine below_set ?_ GE670.out | refine below_set ?_ GE682.out | refine below_set ?_ GE683.out) | exact HB.out)) hb)
          clear HO673
          clear BK669
          clear BK670
          clear BK682
          clear BK683
          clear HB
          have HO673 := n0_
          have BK669 := n1_
          have BK670 := n2_
          have BK682 := n3_
          have BK683 := n4_
          have HB := n5_
          clear n0_ n1_ n2_ n3_ n4_ n5_
          (try clear hb)
          (try clear hb2)
          (try clear hk)
          (try clear hi)
          refine hK.out _ _ ⟨(blk_cell BK669.out 0).trans rfl, (blk_cell BK669.out 1).trans rfl, (blk_cell BK669.out 2).trans rfl, (blk_cell BK669.out 3).trans rfl, (blk_cell BK670.out 0).trans rfl, (blk_cell BK670.out 1).trans rfl, (blk_cell BK670.out 2).trans rfl, (blk_cell BK670.out 3).trans rfl, (blk_cell BK682.out 0).trans rfl, (blk_cell BK682.out 1).trans rfl, (blk_cell BK682.out 2).trans rfl, (blk_cell BK682.out 3).trans rfl⟩ (fun hHeld => ?_)
          clear hK K
          refine norm_ (a' := ?_) ?_ ?_
          rotate_left
          · show Act.put _ (some 37) _ = _
            simp only [Act.put, List.setIfInBounds_toArray, List.set_cons_zero, List.set_cons_succ, i64_w, i32_w]
            rfl
          refine pure_ (i := 14) (N := some 38) (v := ?_) (a' := ?_) #[true, true, true, true, true, true, true, true, true, true, true, true, true, true, true, true, true, true, false, false, false, false, false, false, false, false, false, false, false, false, false, false, false] rfl rfl (any_of HT_.out (by kernel_rfl)) (fun _ _ _ h => h) (Or.inl ⟨by rfl, ?_⟩) ?_ ?_
          rotate_left
          · intro w'
            go_simp
            first | with_reducible rfl | (rw [if_neg (by intro h_; (try simp only [ByteArray.size_append, ByteArray.size_extract, eq_iff_iff, iff_true, show (⟨#[255]⟩ : ByteArray).size = 1 from rfl] at *); omega)]; first | done | rfl)
          rotate_left
          · simp only [Act.put, List.setIfInBounds_toArray, List.set_cons_zero, List.set_cons_succ, i64_w, i32_w]
            rfl
          refine pure_ (i := 18) (N := some 42) (v := ?_) (a' := ?_) #[true, true, true, true, true, true, true, true, true, true, true, true, true, true, true, true, true, true, true, false, false, false, false, false, false, false, false, false, false, false, false, false, false] rfl rfl (any_of HT_.out (by kernel_rfl)) (fun _ _ _ h => h) (Or.inl ⟨by rfl, ?_⟩) ?_ ?_
          rotate_left
          · intro w'
            go_simp
            first | with_reducible rfl | (rw [if_neg (by intro h_; (try simp only [ByteArray.size_append, ByteArray.size_extract, eq_iff_iff, iff_true, show (⟨#[255]⟩ : ByteArray).size = 1 from rfl] at *); omega)]; first | done | rfl)
          rotate_left
          · simp only [Act.put, List.setIfInBounds_toArray, List.set_cons_zero, List.set_cons_succ, i64_w, i32_w]
            rfl
          refine pure_ (i := 19) (N := some 43) (v := ?_) (a' := ?_) #[true, true, true, true, true, true, true, true, true, true, true, true, true, true, true, true, true, true, true, true, false, false, false, false, false, false, false, false, false, false, false, false, false] rfl rfl (any_of HT_.out (by kernel_rfl)) (fun _ _ _ h => h) (Or.inl ⟨by rfl, ?_⟩) ?_ ?_
          rotate_left
          · intro w'
            go_simp
            first | with_reducible rfl | (rw [if_neg (by intro h_; (try simp only [ByteArray.size_append, ByteArray.size_extract, eq_iff_iff, iff_true, show (⟨#[255]⟩ : ByteArray).size = 1 from rfl] at *); omega)]; first | done | rfl)
          rotate_left
          · simp only [Act.put, List.setIfInBounds_toArray, List.set_cons_zero, List.set_cons_succ, i64_w, i32_w]
            rfl
          refine pure_ (i := 20) (N := some 44) (v := ?_) (a' := ?_) #[true, true, true, true, true, true, true, true, true, true, true, true, true, true, true, true, true, true, true, true, true, false, false, false, false, false, false, false, false, false, false, false, false] rfl rfl (any_of HT_.out (by kernel_rfl)) (fun _ _ _ h => h) (Or.inl ⟨by rfl, ?_⟩) ?_ ?_
          rotate_left
          · intro w'
            go_simp
            first | with_reducible rfl | (rw [if_neg (by intro h_; (try simp only [ByteArray.size_append, ByteArray.size_extract, eq_iff_iff, iff_true, show (⟨#[255]⟩ : ByteArray).size = 1 from rfl] at *); omega)]; first | done | rfl)
          rotate_left
          · simp only [Act.put, List.setIfInBounds_toArray, List.set_cons_zero, List.set_cons_succ, i64_w, i32_w]
            rfl
          refine pure_ (i := 21) (N := some 45) (v := undef) (a' := ?_) #[true, true, true, true, true, true, true, true, true, true, true, true, true, true, true, true, true, true, true, true, true, true, false, false, false, false, false, false, false, false, false, false, false] rfl rfl (any_of HT_.out (by kernel_rfl)) (fun _ _ _ h => h) (Or.inr ⟨by rfl, rfl⟩) ?_ ?_
          rotate_left
          · simp only [Act.put, List.setIfInBounds_toArray, List.set_cons_zero, List.set_cons_succ, i64_w, i32_w]
            rfl
          refine pure_ (i := 22) (N := some 46) (v := undef) (a' := ?_) #[true, true, true, true, true, true, true, true, true, true, true, true, true, true, true, true, true, true, true, true, true, true, true, false, false, false, false, false, false, false, false, false, false] rfl rfl (any_of HT_.out (by kernel_rfl)) (fun _ _ _ h => h) (Or.inr ⟨by rfl, rfl⟩) ?_ ?_
          rotate_left
          · simp only [Act.put, List.setIfInBounds_toArray, List.set_cons_zero, List.set_cons_succ, i64_w, i32_w]
            rfl
          refine pure_ (i := 23) (N := some 47) (v := undef) (a' := ?_) #[true, true, true, true, true, true, true, true, true, true, true, true, true, true, true, true, true, true, true, true, true, true, true, true, false, false, false, false, false, false, false, false, false] rfl rfl (any_of HT_.out (by kernel_rfl)) (fun _ _ _ h => h) (Or.inr ⟨by rfl, rfl⟩) ?_ ?_
          rotate_left
          · simp only [Act.put, List.setIfInBounds_toArray, List.set_cons_zero, List.set_cons_succ, i64_w, i32_w]
            rfl
          refine pure_ (i := 24) (N := some 48) (v := undef) (a' := ?_) #[true, true, true, true, true, true, true, true, true, true, true, true, true, true, true, true, true, true, true, true, true, true, true, true, true, false, false, false, false, false, false, false, false] rfl rfl (any_of HT_.out (by kernel_rfl)) (fun _ _ _ h => h) (Or.inr ⟨by rfl, rfl⟩) ?_ ?_
          rotate_left
          · simp only [Act.put, List.setIfInBounds_toArray, List.set_cons_zero, List.set_cons_succ, i64_w, i32_w]
            rfl
          refine pure_ (i := 25) (N := some 49) (v := undef) (a' := ?_) #[true, true, true, true, true, true, true, true, true, true, true, true, true, true, true, true, true, true, true, true, true, true, true, true, true, true, false, false, false, false, false, false, false] rfl rfl (any_of HT_.out (by kernel_rfl)) (fun _ _ _ h => h) (Or.inr ⟨by rfl, rfl⟩) ?_ ?_
          rotate_left
          · simp only [Act.put, List.setIfInBounds_toArray, List.set_cons_zero, List.set_cons_succ, i64_w, i32_w]
            rfl
          refine pure_ (i := 26) (N := some 50) (v := undef) (a' := ?_) #[true, true, true, true, true, true, true, true, true, true, true, true, true, true, true, true, true, true, true, true, true, true, true, true, true, true, true, false, false, false, false, false, false] rfl rfl (any_of HT_.out (by kernel_rfl)) (fun _ _ _ h => h) (Or.inr ⟨by rfl, rfl⟩) ?_ ?_
          rotate_left
          · simp only [Act.put, List.setIfInBounds_toArray, List.set_cons_zero, List.set_cons_succ, i64_w, i32_w]
            rfl
          refine pure_ (i := 27) (N := some 51) (v := undef) (a' := ?_) #[true, true, true, true, true, true, true, true, true, true, true, true, true, true, true, true, true, true, true, true, true, true, true, true, true, true, true, true, false, false, false, false, false] rfl rfl (any_of HT_.out (by kernel_rfl)) (fun _ _ _ h => h) (Or.inr ⟨by rfl, rfl⟩) ?_ ?_
          rotate_left
          · simp only [Act.put, List.setIfInBounds_toArray, List.set_cons_zero, List.set_cons_succ, i64_w, i32_w]
            rfl
          refine pure_ (i := 28) (N := some 52) (v := undef) (a' := ?_) #[true, true, true, true, true, true, true, true, true, true, true, true, true, true, true, true, true, true, true, true, true, true, true, true, true, true, true, true, true, false, false, false, false] rfl rfl (any_of HT_.out (by kernel_rfl)) (fun _ _ _ h => h) (Or.inr ⟨by rfl, rfl⟩) ?_ ?_
          rotate_left
          · simp only [Act.put, List.setIfInBounds_toArray, List.set_cons_zero, List.set_cons_succ, i64_w, i32_w]
            rfl
          refine pure_ (i := 29) (N := some 53) (v := undef) (a' := ?_) #[true, true, true, true, true, true, true, true, true, true, true, true, true, true, true, true, true, true, true, true, true, true, true, true, true, true, true, true, true, true, false, false, false] rfl rfl (any_of HT_.out (by kernel_rfl)) (fun _ _ _ h => h) (Or.inr ⟨by rfl, rfl⟩) ?_ ?_
          rotate_left
          · simp only [Act.put, List.setIfInBounds_toArray, List.set_cons_zero, List.set_cons_succ, i64_w, i32_w]
            rfl
          refine pure_ (i := 30) (N := some 54) (v := undef) (a' := ?_) #[true, true, true, true, true, true, true, true, true, true, true, true, true, true, true, true, true, true, true, true, true, true, true, true, true, true, true, true, true, true, true, false, false] rfl rfl (any_of HT_.out (by kernel_rfl)) (fun _ _ _ h => h) (Or.inr ⟨by rfl, rfl⟩) ?_ ?_
          rotate_left
          · simp only [Act.put, List.setIfInBounds_toArray, List.set_cons_zero, List.set_cons_succ, i64_w, i32_w]
            rfl
          refine pure_ (i := 31) (N := some 55) (v := undef) (a' := ?_) #[true, true, true, true, true, true, true, true, true, true, true, true, true, true, true, true, true, true, true, true, true, true, true, true, true, true, true, true, true, true, true, true, false] rfl rfl (any_of HT_.out (by kernel_rfl)) (fun _ _ _ h => h) (Or.inr ⟨by rfl, rfl⟩) ?_ ?_
          rotate_left
          · simp only [Act.put, List.setIfInBounds_toArray, List.set_cons_zero, List.set_cons_succ, i64_w, i32_w]
            rfl
          refine pure_ (i := 32) (N := some 56) (v := ?_) (a' := ?_) #[true, true, true, true, true, true, true, true, true, true, true, true, true, true, true, true, true, true, true, true, true, true, true, true, true, true, true, true, true, true, true, true, true] rfl rfl (any_of HT_.out (by kernel_rfl)) (fun _ _ _ h => h) (Or.inl ⟨by rfl, ?_⟩) ?_ ?_
          rotate_left
          · intro w'
            go_simp
            first | with_reducible rfl | (rw [if_neg (by intro h_; (try simp only [ByteArray.size_append, ByteArray.size_extract, eq_iff_iff, iff_true, show (⟨#[255]⟩ : ByteArray).size = 1 from rfl] at *); omega)]; first | done | rfl)
          rotate_left
          · simp only [Act.put, List.setIfInBounds_toArray, List.set_cons_zero, List.set_cons_succ, i64_w, i32_w]
            rfl
          refine done_ (done_of HT_.out (by kernel_rfl)) ?_
          try go_wp2
          go_meet
          case rel => exact ⟨_, (true), (by first | rfl | (simp; done) | (simp [*]; done)), H', ⟨by first | omega | exact Nat.le_refl _⟩, ⟨by (with_reducible repeat (first | refine blk_drewN ?_ _ | refine blk_drew ?_ | refine blk_alloc ?_ _)); exact BK669.out⟩, ⟨by (with_reducible repeat (first | refine blk_drewN ?_ _ | refine blk_drew ?_ | refine blk_alloc ?_ _)); exact BK670.out⟩, ⟨by (with_reducible repeat (first | refine blk_drewN ?_ _ | refine blk_drew ?_ | refine blk_alloc ?_ _)); exact BK682.out⟩, ⟨by (with_reducible repeat (first | refine blk_drewN ?_ _ | refine blk_drew ?_ | refine blk_alloc ?_ _)); exact BK683.out⟩, ⟨by repeat (first | (with_reducible first | exact HB.out | apply below_alloc | apply pw_below_drewN | apply below_drew1 | refine below_set ?_ GE669.out | refine below_set ?_ GE670.out | refine below_set ?_ GE682.out | refine below_set ?_ GE683.out) | exact HB.out)⟩⟩
        · rw [if_neg c34] at H
          have c34b0 : ((t692 == t696 && (t693 == t697 && (t694 == t698 && (t695 == t699)))) != (t665 == t674 && (t666 == t675 && (t667 == t676 && (t668 == t677))))) = false := by simpa using c34
          (try (have c34b1 : decide ((t692 == t696 && (t693 == t697 && (t694 == t698 && (t695 == t699)))) = (t665 == t674 && (t666 == t675 && (t667 == t676 && (t668 == t677))))) = true := by simpa using c34))
          (try (have c34b2 : ((t692 == t696 && (t693 == t697 && (t694 == t698 && (t695 == t699)))) == (t665 == t674 && (t666 == t675 && (t667 == t676 && (t668 == t677))))) = true := by simpa using c34))
          clear c34
          replace H := Option.bind_eq_some_iff.mp H
          obtain ⟨⟨t700, t701, t702, t703⟩, A410, H⟩ := H
          replace H : ((impl_HashBlock.f k t661 t662 t663 t664 t678 t679 t680 t681).bind fun bt704 => (laws_FnHashBlockApart.j0 k l0 ((t700 == bt704.1 && (t701 == bt704.2.1 && (t702 == bt704.2.2.1 && (t703 == bt704.2.2.2)))) != (t665 == t678 && (t666 == t679 && (t667 == t680 && (t668 == t681))))))) = some r := H
          have A41 := Aside0.mk A410
          clear A410
          replace H := Option.bind_eq_some_iff.mp H
          obtain ⟨⟨t704, t705, t706, t707⟩, A420, H⟩ := H
          replace H : (laws_FnHashBlockApart.j0 k l0 ((t700 == t704 && (t701 == t705 && (t702 == t706 && (t703 == t707)))) != (t665 == t678 && (t666 == t679 && (t667 == t680 && (t668 == t681)))))) = some r := H
          have A42 := Aside0.mk A420
          clear A420
          have H' := Aside0.mk H
          clear H
          try go_wp2
          have n0_ : Aside0 (Kd.R (Kd.int .u8) 5 ((((((((w17.setCell ⟨gb682, 0, none⟩ (.int .u64 t674)).setCell ⟨gb682, 1, none⟩ (.int .u64 t675)).setCell ⟨gb682, 2, none⟩ (.int .u64 t676)).setCell ⟨gb682, 3, none⟩ (.int .u64 t677)).setCell ⟨gb683, 0, none⟩ (.int .u64 t678)).setCell ⟨gb683, 1, none⟩ (.int .u64 t679)).setCell ⟨gb683, 2, none⟩ (.int .u64 t680)).setCell ⟨gb683, 3, none⟩ (.int .u64 t681)) w.heap.size (fun _ => True) (.slice Ao14 t671.length co14) t671) := ⟨by (with_reducible repeat (first | apply Kd.R_alloc | apply Kd.R_drewN | apply Kd.R_drew)); exact Kd.R_mono (Kd.R_far (p := ⟨gb683, 3, none⟩) (Kd.R_far (p := ⟨gb683, 2, none⟩) (Kd.R_far (p := ⟨gb683, 1, none⟩) (Kd.R_far (p := ⟨gb683, 0, none⟩) (Kd.R_far (p := ⟨gb682, 3, none⟩) (Kd.R_far (p := ⟨gb682, 2, none⟩) (Kd.R_far (p := ⟨gb682, 1, none⟩) (Kd.R_far (p := ⟨gb682, 0, none⟩) (Kd.R_types (Kd.R_types HO673.out BK682.out (by decide)) BK683.out (by decide)) (fun _ hk => hk.1.2) (.int .u64 t674)) (fun _ hk => hk.1.2) (.int .u64 t675)) (fun _ hk => hk.1.2) (.int .u64 t676)) (fun _ hk => hk.1.2) (.int .u64 t677)) (fun _ hk => hk.2) (.int .u64 t678)) (fun _ hk => hk.2) (.int .u64 t679)) (fun _ hk => hk.2) (.int .u64 t680)) (fun _ hk => hk.2) (.int .u64 t681)) (fun _ hk => trivial)⟩
          have n1_ : Aside0 (((((((((w17.setCell ⟨gb682, 0, none⟩ (.int .u64 t674)).setCell ⟨gb682, 1, none⟩ (.int .u64 t675)).setCell ⟨gb682, 2, none⟩ (.int .u64 t676)).setCell ⟨gb682, 3, none⟩ (.int .u64 t677)).setCell ⟨gb683, 0, none⟩ (.int .u64 t678)).setCell ⟨gb683, 1, none⟩ (.int .u64 t679)).setCell ⟨gb683, 2, none⟩ (.int .u64 t680)).setCell ⟨gb683, 3, none⟩ (.int .u64 t681)).heap[gb669]? = some (.cells #[.int .u64 t661, .int .u64 t662, .int .u64 t663, .int .u64 t664] 30 (0, 0))) := ⟨by (with_reducible repeat (first | refine blk_drewN ?_ _ | refine blk_drew ?_ | refine blk_alloc ?_ _)); refine blk_far ?_ NB669_683.out _; (with_reducible repeat (first | refine blk_drewN ?_ _ | refine blk_drew ?_ | refine blk_alloc ?_ _)); refine blk_far ?_ NB669_683.out _; (with_reducible repeat (first | refine blk_drewN ?_ _ | refine blk_drew ?_ | refine blk_alloc ?_ _)); refine blk_far ?_ NB669_683.out _; (with_reducible repeat (first | refine blk_drewN ?_ _ | refine blk_drew ?_ | refine blk_alloc ?_ _)); refine blk_far ?_ NB669_683.out _; (with_reducible repeat (first | refine blk_drewN ?_ _ | refine blk_drew ?_ | refine blk_alloc ?_ _)); refine blk_far ?_ NB669_682.out _; (with_reducible repeat (first | refine blk_drewN ?_ _ | refine blk_drew ?_ | refine blk_alloc ?_ _)); refine blk_far ?_ NB669_682.out _; (with_reducible repeat (first | refine blk_drewN ?_ _ | refine blk_drew ?_ | refine blk_alloc ?_ _)); refine blk_far ?_ NB669_682.out _; (with_reducible repeat (first | refine blk_drewN ?_ _ | refine blk_drew ?_ | refine blk_alloc ?_ _)); refine blk_far ?_ NB669_682.out _; (with_reducible repeat (first | refine blk_drewN ?_ _ | refine blk_drew ?_ | refine blk_alloc ?_ _)); exact BK669.out⟩
          have n2_ : Aside0 (((((((((w17.setCell ⟨gb682, 0, none⟩ (.int .u64 t674)).setCell ⟨gb682, 1, none⟩ (.int .u64 t675)).setCell ⟨gb682, 2, none⟩ (.int .u64 t676)).setCell ⟨gb682, 3, none⟩ (.int .u64 t677)).setCell ⟨gb683, 0, none⟩ (.int .u64 t678)).setCell ⟨gb683, 1, none⟩ (.int .u64 t679)).setCell ⟨gb683, 2, none⟩ (.int .u64 t680)).setCell ⟨gb683, 3, none⟩ (.int .u64 t681)).heap[gb670]? = some (.cells #[.int .u64 t665, .int .u64 t666, .int .u64 t667, .int .u64 t668] 30 (0, 0))) := ⟨by (with_reducible repeat (first | refine blk_drewN ?_ _ | refine blk_drew ?_ | refine blk_alloc ?_ _)); refine blk_far ?_ NB670_683.out _; (with_reducible repeat (first | refine blk_drewN ?_ _ | refine blk_drew ?_ | refine blk_alloc ?_ _)); refine blk_far ?_ NB670_683.out _; (with_reducible repeat (first | refine blk_drewN ?_ _ | refine blk_drew ?_ | refine blk_alloc ?_ _)); refine blk_far ?_ NB670_683.out _; (with_reducible repeat (first | refine blk_drewN ?_ _ | refine blk_drew ?_ | refine blk_alloc ?_ _)); refine blk_far ?_ NB670_683.out _; (with_reducible repeat (first | refine blk_drewN ?_ _ | refine blk_drew ?_ | refine blk_alloc ?_ _)); refine blk_far ?_ NB670_682.out _; (with_reducible repeat (first | refine blk_drewN ?_ _ | refine blk_drew ?_ | refine blk_alloc ?_ _)); refine blk_far ?_ NB670_682.out _; (with_reducible repeat (first | refine blk_drewN ?_ _ | refine blk_drew ?_ | refine blk_alloc ?_ _)); refine blk_far ?_ NB670_682.out _; (with_reducible repeat (first | refine blk_drewN ?_ _ | refine blk_drew ?_ | refine blk_alloc ?_ _)); refine blk_far ?_ NB670_682.out _; (with_reducible repeat (first | refine blk_drewN ?_ _ | refine blk_drew ?_ | refine blk_alloc ?_ _)); exact BK670.out⟩
          have n3_ : Aside0 (((((((((w17.setCell ⟨gb682, 0, none⟩ (.int .u64 t674)).setCell ⟨gb682, 1, none⟩ (.int .u64 t675)).setCell ⟨gb682, 2, none⟩ (.int .u64 t676)).setCell ⟨gb682, 3, none⟩ (.int .u64 t677)).setCell ⟨gb683, 0, none⟩ (.int .u64 t678)).setCell ⟨gb683, 1, none⟩ (.int .u64 t679)).setCell ⟨gb683, 2, none⟩ (.int .u64 t680)).setCell ⟨gb683, 3, none⟩ (.int .u64 t681)).heap[gb682]? = some (.cells #[.int .u64 t674, .int .u64 t675, .int .u64 t676, .int .u64 t677] 30 (0, 0))) := ⟨by (with_reducible repeat (first | refine blk_drewN ?_ _ | refine blk_drew ?_ | refine blk_alloc ?_ _)); refine blk_far ?_ NB682_683.out _; (with_reducible repeat (first | refine blk_drewN ?_ _ | refine blk_drew ?_ | refine blk_alloc ?_ _)); refine blk_far ?_ NB682_683.out _; (with_reducible repeat (first | refine blk_drewN ?_ _ | refine blk_drew ?_ | refine blk_alloc ?_ _)); refine blk_far ?_ NB682_683.out _; (with_reducible repeat (first | refine blk_drewN ?_ _ | refine blk_drew ?_ | refine blk_alloc ?_ _)); refine blk_far ?_ NB682_683.out _; (with_reducible repeat (first | refine blk_drewN ?_ _ | refine blk_drew ?_ | refine blk_alloc ?_ _)); refine blk_put (cs := #[.int .u64 t674, .int .u64 t675, .int .u64 t676, .int .u64 0]) ?_ 3 _ rfl; (with_reducible repeat (first | refine blk_drewN ?_ _ | refine blk_drew ?_ | refine blk_alloc ?_ _)); refine blk_put (cs := #[.int .u64 t674, .int .u64 t675, .int .u64 0, .int .u64 0]) ?_ 2 _ rfl; (with_reducible repeat (first | refine blk_drewN ?_ _ | refine blk_drew ?_ | refine blk_alloc ?_ _)); refine blk_put (cs := #[.int .u64 t674, .int .u64 0, .int .u64 0, .int .u64 0]) ?_ 1 _ rfl; (with_reducible repeat (first | refine blk_drewN ?_ _ | refine blk_drew ?_ | refine blk_alloc ?_ _)); refine blk_put (cs := #[.int .u64 0, .int .u64 0, .int .u64 0, .int .u64 0]) ?_ 0 _ rfl; (with_reducible repeat (first | refine blk_drewN ?_ _ | refine blk_drew ?_ | refine blk_alloc ?_ _)); exact BK682.out⟩
          have n4_ : Aside0 (((((((((w17.setCell ⟨gb682, 0, none⟩ (.int .u64 t674)).setCell ⟨gb682, 1, none⟩ (.int .u64 t675)).setCell ⟨gb682, 2, none⟩ (.int .u64 t676)).setCell ⟨gb682, 3, none⟩ (.int .u64 t677)).setCell ⟨gb683, 0, none⟩ (.int .u64 t678)).setCell ⟨gb683, 1, none⟩ (.int .u64 t679)).setCell ⟨gb683, 2, none⟩ (.int .u64 t680)).setCell ⟨gb683, 3, none⟩ (.int .u64 t681)).heap[gb683]? = some (.cells #[.int .u64 t678, .int .u64 t679, .int .u64 t680, .int .u64 t681] 30 (0, 0))) := ⟨by (with_reducible repeat (first | refine blk_drewN ?_ _ | refine blk_drew ?_ | refine blk_alloc ?_ _)); refine blk_put (cs := #[.int .u64 t678, .int .u64 t679, .int .u64 t680, .int .u64 0]) ?_ 3 _ rfl; (with_reducible repeat (first | refine blk_drewN ?_ _ | refine blk_drew ?_ | refine blk_alloc ?_ _)); refine blk_put (cs := #[.int .u64 t678, .int .u64 t679, .int .u64 0, .int .u64 0]) ?_ 2 _ rfl; (with_reducible repeat (first | refine blk_drewN ?_ _ | refine blk_drew ?_ | refine blk_alloc ?_ _)); refine blk_put (cs := #[.int .u64 t678, .int .u64 0, .int .u64 0, .int .u64 0]) ?_ 1 _ rfl; (with_reducible repeat (first | refine blk_drewN ?_ _ | refine blk_drew ?_ | refine blk_alloc ?_ _)); refine blk_put (cs := #[.int .u64 0, .int .u64 0, .int .u64 0, .int .u64 0]) ?_ 0 _ rfl; (with_reducible repeat (first | refine blk_drewN ?_ _ | refine blk_drew ?_ | refine blk_alloc ?_ _)); refine blk_far ?_ NB683_682.out _; (with_reducible repeat (first | refine blk_drewN ?_ _ | refine blk_drew ?_ | refine blk_alloc ?_ _)); refine blk_far ?_ NB683_682.out _; (with_reducible repeat (first | refine blk_drewN ?_ _ | refine blk_drew ?_ | refine blk_alloc ?_ _)); refine blk_far ?_ NB683_682.out _; (with_reducible repeat (first | refine blk_drewN ?_ _ | refine blk_drew ?_ | refine blk_alloc ?_ _)); refine blk_far ?_ NB683_682.out _; (with_reducible repeat (first | refine blk_drewN ?_ _ | refine blk_drew ?_ | refine blk_alloc ?_ _)); exact BK683.out⟩
          have n5_ : Aside0 (Below w.heap.size w ((((((((w17.setCell ⟨gb682, 0, none⟩ (.int .u64 t674)).setCell ⟨gb682, 1, none⟩ (.int .u64 t675)).setCell ⟨gb682, 2, none⟩ (.int .u64 t676)).setCell ⟨gb682, 3, none⟩ (.int .u64 t677)).setCell ⟨gb683, 0, none⟩ (.int .u64 t678)).setCell ⟨gb683, 1, none⟩ (.int .u64 t679)).setCell ⟨gb683, 2, none⟩ (.int .u64 t680)).setCell ⟨gb683, 3, none⟩ (.int .u64 t681))) := ⟨by repeat (first | (with_reducible first | exact HB.out | apply below_alloc | apply pw_below_drewN | apply below_drew1 | refine below_set ?_ GE669.out | refine below_set ?_ GE670.out | refine below_set ?_ GE682.out | refine below_set ?_ GE683.out) | exact HB.out)⟩
          (try clear HO673)
          (try clear BK669)
          (try clear BK670)
          (try clear BK682)
          (try clear BK683)
          (try clear HB)
          generalize ((((((((w17.setCell ⟨gb682, 0, none⟩ (.int .u64 t674)).setCell ⟨gb682, 1, none⟩ (.int .u64 t675)).setCell ⟨gb682, 2, none⟩ (.int .u64 t676)).setCell ⟨gb682, 3, none⟩ (.int .u64 t677)).setCell ⟨gb683, 0, none⟩ (.int .u64 t678)).setCell ⟨gb683, 1, none⟩ (.int .u64 t679)).setCell ⟨gb683, 2, none⟩ (.int .u64 t680)).setCell ⟨gb683, 3, none⟩ (.int .u64 t681)) = w43 at n0_ n1_ n2_ n3_ n4_ n5_ ⊢
          have HO673 := n0_
          have BK669 := n1_
          have BK670 := n2_
          have BK682 := n3_
          have BK683 := n4_
          have HB := n5_
          clear n0_ n1_ n2_ n3_ n4_ n5_
          have n0_ := Aside0.mk (Kd.R_drew HO673.out)
          have n1_ := Aside0.mk (blk_drew BK669.out)
          have n2_ := Aside0.mk (blk_drew BK670.out)
          have n3_ := Aside0.mk (blk_drew BK682.out)
          have n4_ := Aside0.mk (blk_drew BK683.out)
          have n5_ := Aside0.mk (below_drew1 HB.out)
          clear HO673
          clear BK669
          clear BK670
          clear BK682
          clear BK683
          clear HB
          have HO673 := n0_
          have BK669 := n1_
          have BK670 := n2_
          have BK682 := n3_
          have BK683 := n4_
          have HB := n5_
          clear n0_ n1_ n2_ n3_ n4_ n5_
          refine start_ (n := 33) (S := fun w' => w'.cell? ⟨gb669, 0, none⟩ = some (.int .u64 t661) ∧ w'.cell? ⟨gb669, 1, none⟩ = some (.int .u64 t662) ∧ w'.cell? ⟨gb669, 2, none⟩ = some (.int .u64 t663) ∧ w'.cell? ⟨gb669, 3, none⟩ = some (.int .u64 t664) ∧ w'.cell? ⟨gb670, 0, none⟩ = some (.int .u64 t665) ∧ w'.cell? ⟨gb670, 1, none⟩ = some (.int .u64 t666) ∧ w'.cell? ⟨gb670, 2, none⟩ = some (.int .u64 t667) ∧ w'.cell? ⟨gb670, 3, none⟩ = some (.int .u64 t668) ∧ w'.cell? ⟨gb682, 0, none⟩ = some (.int .u64 t674) ∧ w'.cell? ⟨gb682, 1, none⟩ = some (.int .u64 t675) ∧ w'.cell? ⟨gb682, 2, none⟩ = some (.int .u64 t676) ∧ w'.cell? ⟨gb682, 3, none⟩ = some (.int .u64 t677) ∧ w'.cell? ⟨gb683, 0, none⟩ = some (.int .u64 t678) ∧ w'.cell? ⟨gb683, 1, none⟩ = some (.int .u64 t679) ∧ w'.cell? ⟨gb683, 2, none⟩ = some (.int .u64 t680) ∧ w'.cell? ⟨gb683, 3, none⟩ = some (.int .u64 t681)) (ds := []) #[false, false, false, false, false, false, false, false, false, false, false, false, false, false, false, false, false, false, false, false, false, false, false, false, false, false, false, false, false, false, false, false, false] (by kernel_rfl) rfl rfl ⟨(blk_cell BK669.out 0).trans rfl, (blk_cell BK669.out 1).trans rfl, (blk_cell BK669.out 2).trans rfl, (blk_cell BK669.out 3).trans rfl, (blk_cell BK670.out 0).trans rfl, (blk_cell BK670.out 1).trans rfl, (blk_cell BK670.out 2).trans rfl, (blk_cell BK670.out 3).trans rfl, (blk_cell BK682.out 0).trans rfl, (blk_cell BK682.out 1).trans rfl, (blk_cell BK682.out 2).trans rfl, (blk_cell BK682.out 3).trans rfl, (blk_cell BK683.out 0).trans rfl, (blk_cell BK683.out 1).trans rfl, (blk_cell BK683.out 2).trans rfl, (blk_cell BK683.out 3).trans rfl⟩ (fun hHeld => ?_); refine with_tabW laws_FnHashBlockApart.tab5 laws_FnHashBlockApart.bits5 (fun HT_ HW_ => ?_)
          generalize w43.drew = w44 at HO673 BK669 BK670 BK682 BK683 HB hHeld ⊢
          refine take_ (i := 0) (N := some 24) (v := ?_) (a' := ?_) #[true, false, false, false, false, false, false, false, false, false, false, false, false, false, false, false, false, false, false, false, false, false, false, false, false, false, false, false, false, false, false, false, false] rfl rfl (take_ofW HT_.out HW_.out (by kernel_rfl)) (fun _ _ _ h => h) (Or.inl ⟨by rfl, ?_⟩) hHeld ?_ ?_
          rotate_left
          · rintro w' ⟨s0, s1, s2, s3, s4, s5, s6, s7, s8, s9, s10, s11, s12, s13, s14, s15⟩
            go_simp
            first | with_reducible rfl | (rw [if_neg (by intro h_; (try simp only [ByteArray.size_append, ByteArray.size_extract, eq_iff_iff, iff_true, show (⟨#[255]⟩ : ByteArray).size = 1 from rfl] at *); omega)]; first | done | rfl)
          rotate_left
          · simp only [Act.put, List.setIfInBounds_toArray, List.set_cons_zero, List.set_cons_succ, i64_w, i32_w]
            rfl
          refine take_ (i := 1) (N := some 25) (v := ?_) (a' := ?_) #[true, true, false, false, false, false, false, false, false, false, false, false, false, false, false, false, false, false, false, false, false, false, false, false, false, false, false, false, false, false, false, false, false] rfl rfl (take_ofW HT_.out HW_.out (by kernel_rfl)) (fun _ _ _ h => h) (Or.inl ⟨by rfl, ?_⟩) hHeld ?_ ?_
          rotate_left
          · rintro w' ⟨s0, s1, s2, s3, s4, s5, s6, s7, s8, s9, s10, s11, s12, s13, s14, s15⟩
            go_simp
            first | with_reducible rfl | (rw [if_neg (by intro h_; (try simp only [ByteArray.size_append, ByteArray.size_extract, eq_iff_iff, iff_true, show (⟨#[255]⟩ : ByteArray).size = 1 from rfl] at *); omega)]; first | done | rfl)
          rotate_left
          · simp only [Act.put, List.setIfInBounds_toArray, List.set_cons_zero, List.set_cons_succ, i64_w, i32_w]
            rfl
          refine take_ (i := 3) (N := some 27) (v := ?_) (a' := ?_) #[true, true, false, true, false, false, false, false, false, false, false, false, false, false, false, false, false, false, false, false, false, false, false, false, false, false, false, false, false, false, false, false, false] rfl rfl (take_ofW HT_.out HW_.out (by kernel_rfl)) (fun _ _ _ h => h) (Or.inl ⟨by rfl, ?_⟩) hHeld ?_ ?_
          rotate_left
          · rintro w' ⟨s0, s1, s2, s3, s4, s5, s6, s7, s8, s9, s10, s11, s12, s13, s14, s15⟩
            go_simp
            first | with_reducible rfl | (rw [if_neg (by intro h_; (try simp only [ByteArray.size_append, ByteArray.size_extract, eq_iff_iff, iff_true, show (⟨#[255]⟩ : ByteArray).size = 1 from rfl] at *); omega)]; first | done | rfl)
          rotate_left
          · simp only [Act.put, List.setIfInBounds_toArray, List.set_cons_zero, List.set_cons_succ, i64_w, i32_w]
            rfl
          refine take_ (i := 4) (N := some 28) (v := ?_) (a' := ?_) #[true, true, false, true, true, false, false, false, false, false, false, false, false, false, false, false, false, false, false, false, false, false, false, false, false, false, false, false, false, false, false, false, false] rfl rfl (take_ofW HT_.out HW_.out (by kernel_rfl)) (fun _ _ _ h => h) (Or.inl ⟨by rfl, ?_⟩) hHeld ?_ ?_
          rotate_left
          · rintro w' ⟨s0, s1, s2, s3, s4, s5, s6, s7, s8, s9, s10, s11, s12, s13, s14, s15⟩
            go_simp
            first | with_reducible rfl | (rw [if_neg (by intro h_; (try simp only [ByteArray.size_append, ByteArray.size_extract, eq_iff_iff, iff_true, show (⟨#[255]⟩ : ByteArray).size = 1 from rfl] at *); omega)]; first | done | rfl)
          rotate_left
          · simp only [Act.put, List.setIfInBounds_toArray, List.set_cons_zero, List.set_cons_succ, i64_w, i32_w]
            rfl
          refine one_ (i := 2) (N := some 26) #[true, true, true, true, true, false, false, false, false, false, false, false, false, false, false, false, false, false, false, false, false, false, false, false, false, false, false, false, false, false, false, false, false] rfl rfl (one_of HT_.out (by kernel_rfl)) (by decide) (fun K hK => ?_)
          refine goes_ Try.func45 (by kernel_rfl) rfl #[.agg #[.int .u64 t661, .int .u64 t662, .int .u64 t663, .int .u64 t664], .agg #[.int .u64 t665, .int .u64 t666, .int .u64 t667, .int .u64 t668]] (by rfl) rfl rfl (by (try simp only [List.map_toArray, List.map_cons, List.map_nil]); first | done | rfl | (simp only [List.length_drop, List.length_take]; rfl)) ?_
          with_reducible refine (impl_HashBlock.calls k t661 t662 t663 t664 t665 t666 t667 t668 t684 t685 t686 t687 _ A25.out).mono ?_
          rintro e w45 ⟨rfl, hb⟩
          refine ⟨_, rfl, ?_⟩
          have n0_ := Aside0.mk (Kd.R_below (by (with_reducible repeat (first | apply Kd.R_alloc | apply Kd.R_drewN | apply Kd.R_drew)); exact HO673.out) hb)
          have n1_ := Aside0.mk (blk_below (g := gb669) (o := .cells #[.int .u64 t661, .int .u64 t662, .int .u64 t663, .int .u64 t664] 30 (0, 0)) (by (with_reducible repeat (first | refine blk_drewN ?_ _ | refine blk_drew ?_ | refine blk_alloc ?_ _)); exact BK669.out) hb)
          have n2_ := Aside0.mk (blk_below (g := gb670) (o := .cells #[.int .u64 t665, .int .u64 t666, .int .u64 t667, .int .u64 t668] 30 (0, 0)) (by (with_reducible repeat (first | refine blk_drewN ?_ _ | refine blk_drew ?_ | refine blk_alloc ?_ _)); exact BK670.out) hb)
          have n3_ := Aside0.mk (blk_below (g := gb682) (o := .cells #[.int .u64 t674, .int .u64 t675, .int .u64 t676, .int .u64 t677] 30 (0, 0)) (by (with_reducible repeat (first | refine blk_drewN ?_ _ | refine blk_drew ?_ | refine blk_alloc ?_ _)); exact BK682.out) hb)
          have n4_ := Aside0.mk (blk_below (g := gb683) (o := .cells #[.int .u64 t678, .int .u64 t679, .int .u64 t680, .int .u64 t681] 30 (0, 0)) (by (with_reducible repeat (first | refine blk_drewN ?_ _ | refine blk_drew ?_ | refine blk_alloc ?_ _)); exact BK683.out) hb)
          have n5_ := Aside0.mk (below_step (by repeat (first | (with_reducible first | exact HB.out | apply below_alloc | apply pw_below_drewN | apply below_drew1 | refine below_set ?_ GE669.out | refine below_set ?_ GE670.out | refine below_set ?_ GE682.out | refine below_set ?_ GE683.out) | exact HB.out)) hb)
          clear HO673
          clear BK669
          clear BK670
          clear BK682
          clear BK683
          clear HB
          have HO673 := n0_
          have BK669 := n1_
          have BK670 := n2_
          have BK682 := n3_
          have BK683 := n4_
          have HB := n5_
          clear n0_ n1_ n2_ n3_ n4_ n5_
          (try clear hb)
          (try clear hb2)
          (try clear hk)
          (try clear hi)
          refine hK.out _ _ ⟨(blk_cell BK669.out 0).trans rfl, (blk_cell BK669.out 1).trans rfl, (blk_cell BK669.out 2).trans rfl, (blk_cell BK669.out 3).trans rfl, (blk_cell BK670.out 0).trans rfl, (blk_cell BK670.out 1).trans rfl, (blk_cell BK670.out 2).trans rfl, (blk_cell BK670.out 3).trans rfl, (blk_cell BK682.out 0).trans rfl, (blk_cell BK682.out 1).trans rfl, (blk_cell BK682.out 2).trans rfl, (blk_cell BK682.out 3).trans rfl, (blk_cell BK683.out 0).trans rfl, (blk_cell BK683.out 1).trans rfl, (blk_cell BK683.out 2).trans rfl, (blk_cell BK683.out 3).trans rfl⟩ (fun hHeld => ?_)
          clear hK K
          refine norm_ (a' := ?_) ?_ ?_
          rotate_left
          · show Act.put _ (some 26) _ = _
            simp only [Act.put, List.setIfInBounds_toArray, List.set_cons_zero, List.set_cons_succ, i64_w, i32_w]
            rfl
          refine one_ (i := 5) (N := some 29) #[true, true, true, true, true, true, false, false, false, false, false, false, false, false, false, false, false, false, false, false, false, false, false, false, false, false, false, false, false, false, false, false, false] rfl rfl (one_of HT_.out (by kernel_rfl)) (by decide) (fun K hK => ?_)
          refine goes_ Try.func44 (by kernel_rfl) rfl #[.agg #[.int .u64 t661, .int .u64 t662, .int .u64 t663, .int .u64 t664], .agg #[.int .u64 t665, .int .u64 t666, .int .u64 t667, .int .u64 t668]] (by rfl) rfl rfl (by (try simp only [List.map_toArray, List.map_cons, List.map_nil]); first | done | rfl | (simp only [List.length_drop, List.length_take]; rfl)) ?_
          with_reducible refine (spec_HashBlock.calls k t661 t662 t663 t664 t665 t666 t667 t668 t688 t689 t690 t691 _ A26.out).mono ?_
          rintro e w46 ⟨rfl, hb⟩
          refine ⟨_, rfl, ?_⟩
          have n0_ := Aside0.mk (Kd.R_below (by (with_reducible repeat (first | apply Kd.R_alloc | apply Kd.R_drewN | apply Kd.R_drew)); exact HO673.out) hb)
          have n1_ := Aside0.mk (blk_below (g := gb669) (o := .cells #[.int .u64 t661, .int .u64 t662, .int .u64 t663, .int .u64 t664] 30 (0, 0)) (by (with_reducible repeat (first | refine blk_drewN ?_ _ | refine blk_drew ?_ | refine blk_alloc ?_ _)); exact BK669.out) hb)
          have n2_ := Aside0.mk (blk_below (g := gb670) (o := .cells #[.int .u64 t665, .int .u64 t666, .int .u64 t667, .int .u64 t668] 30 (0, 0)) (by (with_reducible repeat (first | refine blk_drewN ?_ _ | refine blk_drew ?_ | refine blk_alloc ?_ _)); exact BK670.out) hb)
          have n3_ := Aside0.mk (blk_below (g := gb682) (o := .cells #[.int .u64 t674, .int .u64 t675, .int .u64 t676, .int .u64 t677] 30 (0, 0)) (by (with_reducible repeat (first | refine blk_drewN ?_ _ | refine blk_drew ?_ | refine blk_alloc ?_ _)); exact BK682.out) hb)
          have n4_ := Aside0.mk (blk_below (g := gb683) (o := .cells #[.int .u64 t678, .int .u64 t679, .int .u64 t680, .int .u64 t681] 30 (0, 0)) (by (with_reducible repeat (first | refine blk_drewN ?_ _ | refine blk_drew ?_ | refine blk_alloc ?_ _)); exact BK683.out) hb)
          have n5_ := Aside0.mk (below_step (by repeat (first | (with_reducible first | exact HB.out | apply below_alloc | apply pw_below_drewN | apply below_drew1 | refine below_set ?_ GE669.out | refine below_set ?_ GE670.out | refine below_set ?_ GE682.out | refine below_set ?_ GE683.out) | exact HB.out)) hb)
          clear HO673
          clear BK669
          clear BK670
          clear BK682
          clear BK683
          clear HB
          have HO673 := n0_
          have BK669 := n1_
          have BK670 := n2_
          have BK682 := n3_
          have BK683 := n4_
          have HB := n5_
          clear n0_ n1_ n2_ n3_ n4_ n5_
          (try clear hb)
          (try clear hb2)
          (try clear hk)
          (try clear hi)
          refine hK.out _ _ ⟨(blk_cell BK669.out 0).trans rfl, (blk_cell BK669.out 1).trans rfl, (blk_cell BK669.out 2).trans rfl, (blk_cell BK669.out 3).trans rfl, (blk_cell BK670.out 0).trans rfl, (blk_cell BK670.out 1).trans rfl, (blk_cell BK670.out 2).trans rfl, (blk_cell BK670.out 3).trans rfl, (blk_cell BK682.out 0).trans rfl, (blk_cell BK682.out 1).trans rfl, (blk_cell BK682.out 2).trans rfl, (blk_cell BK682.out 3).trans rfl, (blk_cell BK683.out 0).trans rfl, (blk_cell BK683.out 1).trans rfl, (blk_cell BK683.out 2).trans rfl, (blk_cell BK683.out 3).trans rfl⟩ (fun hHeld => ?_)
          clear hK K
          refine norm_ (a' := ?_) ?_ ?_
          rotate_left
          · show Act.put _ (some 29) _ = _
            simp only [Act.put, List.setIfInBounds_toArray, List.set_cons_zero, List.set_cons_succ, i64_w, i32_w]
            rfl
          refine pure_ (i := 6) (N := some 30) (v := ?_) (a' := ?_) #[true, true, true, true, true, true, true, false, false, false, false, false, false, false, false, false, false, false, false, false, false, false, false, false, false, false, false, false, false, false, false, false, false] rfl rfl (any_of HT_.out (by kernel_rfl)) (fun _ _ _ h => h) (Or.inl ⟨by rfl, ?_⟩) ?_ ?_
          rotate_left
          · intro w'
            go_simp
            first | with_reducible rfl | (rw [if_neg (by intro h_; (try simp only [ByteArray.size_append, ByteArray.size_extract, eq_iff_iff, iff_true, show (⟨#[255]⟩ : ByteArray).size = 1 from rfl] at *); omega)]; first | done | rfl)
          rotate_left
          · simp only [Act.put, List.setIfInBounds_toArray, List.set_cons_zero, List.set_cons_succ, i64_w, i32_w]
            rfl
          refine pure_ (i := 7) (N := some 31) (v := ?_) (a' := ?_) #[true, true, true, true, true, true, true, true, false, false, false, false, false, false, false, false, false, false, false, false, false, false, false, false, false, false, false, false, false, false, false, false, false] rfl rfl (any_of HT_.out (by kernel_rfl)) (fun _ _ _ h => h) (Or.inl ⟨by rfl, ?_⟩) ?_ ?_
          rotate_left
          · intro w'
            go_simp
            first | with_reducible rfl | (rw [if_neg (by intro h_; (try simp only [ByteArray.size_append, ByteArray.size_extract, eq_iff_iff, iff_true, show (⟨#[255]⟩ : ByteArray).size = 1 from rfl] at *); omega)]; first | done | rfl)
          rotate_left
          · simp only [Act.put, List.setIfInBounds_toArray, List.set_cons_zero, List.set_cons_succ, i64_w, i32_w]
            rfl
          refine take_ (i := 8) (N := some 32) (v := ?_) (a' := ?_) #[true, true, true, true, true, true, true, true, true, false, false, false, false, false, false, false, false, false, false, false, false, false, false, false, false, false, false, false, false, false, false, false, false] rfl rfl (take_ofW HT_.out HW_.out (by kernel_rfl)) (fun _ _ _ h => h) (Or.inl ⟨by rfl, ?_⟩) hHeld ?_ ?_
          rotate_left
          · rintro w' ⟨s0, s1, s2, s3, s4, s5, s6, s7, s8, s9, s10, s11, s12, s13, s14, s15⟩
            go_simp
            first | with_reducible rfl | (rw [if_neg (by intro h_; (try simp only [ByteArray.size_append, ByteArray.size_extract, eq_iff_iff, iff_true, show (⟨#[255]⟩ : ByteArray).size = 1 from rfl] at *); omega)]; first | done | rfl)
          rotate_left
          · simp only [Act.put, List.setIfInBounds_toArray, List.set_cons_zero, List.set_cons_succ, i64_w, i32_w]
            rfl
          refine take_ (i := 9) (N := some 33) (v := ?_) (a' := ?_) #[true, true, true, true, true, true, true, true, true, true, false, false, false, false, false, false, false, false, false, false, false, false, false, false, false, false, false, false, false, false, false, false, false] rfl rfl (take_ofW HT_.out HW_.out (by kernel_rfl)) (fun _ _ _ h => h) (Or.inl ⟨by rfl, ?_⟩) hHeld ?_ ?_
          rotate_left
          · rintro w' ⟨s0, s1, s2, s3, s4, s5, s6, s7, s8, s9, s10, s11, s12, s13, s14, s15⟩
            go_simp
            first | with_reducible rfl | (rw [if_neg (by intro h_; (try simp only [ByteArray.size_append, ByteArray.size_extract, eq_iff_iff, iff_true, show (⟨#[255]⟩ : ByteArray).size = 1 from rfl] at *); omega)]; first | done | rfl)
          rotate_left
          · simp only [Act.put, List.setIfInBounds_toArray, List.set_cons_zero, List.set_cons_succ, i64_w, i32_w]
            rfl
          refine take_ (i := 11) (N := some 35) (v := ?_) (a' := ?_) #[true, true, true, true, true, true, true, true, true, true, false, true, false, false, false, false, false, false, false, false, false, false, false, false, false, false, false, false, false, false, false, false, false] rfl rfl (take_ofW HT_.out HW_.out (by kernel_rfl)) (fun _ _ _ h => h) (Or.inl ⟨by rfl, ?_⟩) hHeld ?_ ?_
          rotate_left
          · rintro w' ⟨s0, s1, s2, s3, s4, s5, s6, s7, s8, s9, s10, s11, s12, s13, s14, s15⟩
            go_simp
            first | with_reducible rfl | (rw [if_neg (by intro h_; (try simp only [ByteArray.size_append, ByteArray.size_extract, eq_iff_iff, iff_true, show (⟨#[255]⟩ : ByteArray).size = 1 from rfl] at *); omega)]; first | done | rfl)
          rotate_left
          · simp only [Act.put, List.setIfInBounds_toArray, List.set_cons_zero, List.set_cons_succ, i64_w, i32_w]
            rfl
          refine take_ (i := 12) (N := some 36) (v := ?_) (a' := ?_) #[true, true, true, true, true, true, true, true, true, true, false, true, true, false, false, false, false, false, false, false, false, false, false, false, false, false, false, false, false, false, false, false, false] rfl rfl (take_ofW HT_.out HW_.out (by kernel_rfl)) (fun _ _ _ h => h) (Or.inl ⟨by rfl, ?_⟩) hHeld ?_ ?_
          rotate_left
          · rintro w' ⟨s0, s1, s2, s3, s4, s5, s6, s7, s8, s9, s10, s11, s12, s13, s14, s15⟩
            go_simp
            first | with_reducible rfl | (rw [if_neg (by intro h_; (try simp only [ByteArray.size_append, ByteArray.size_extract, eq_iff_iff, iff_true, show (⟨#[255]⟩ : ByteArray).size = 1 from rfl] at *); omega)]; first | done | rfl)
          rotate_left
          · simp only [Act.put, List.setIfInBounds_toArray, List.set_cons_zero, List.set_cons_succ, i64_w, i32_w]
            rfl
          refine take_ (i := 15) (N := some 39) (v := ?_) (a' := ?_) #[true, true, true, true, true, true, true, true, true, true, false, true, true, false, false, true, false, false, false, false, false, false, false, false, false, false, false, false, false, false, false, false, false] rfl rfl (take_ofW HT_.out HW_.out (by kernel_rfl)) (fun _ _ _ h => h) (Or.inl ⟨by rfl, ?_⟩) hHeld ?_ ?_
          rotate_left
          · rintro w' ⟨s0, s1, s2, s3, s4, s5, s6, s7, s8, s9, s10, s11, s12, s13, s14, s15⟩
            go_simp
            first | with_reducible rfl | (rw [if_neg (by intro h_; (try simp only [ByteArray.size_append, ByteArray.size_extract, eq_iff_iff, iff_true, show (⟨#[255]⟩ : ByteArray).size = 1 from rfl] at *); omega)]; first | done | rfl)
          rotate_left
          · simp only [Act.put, List.setIfInBounds_toArray, List.set_cons_zero, List.set_cons_succ, i64_w, i32_w]
            rfl
          refine take_ (i := 16) (N := some 40) (v := ?_) (a' := ?_) #[true, true, true, true, true, true, true, true, true, true, false, true, true, false, false, true, true, false, false, false, false, false, false, false, false, false, false, false, false, false, false, false, false] rfl rfl (take_ofW HT_.out HW_.out (by kernel_rfl)) (fun _ _ _ h => h) (Or.inl ⟨by rfl, ?_⟩) hHeld ?_ ?_
          rotate_left
          · rintro w' ⟨s0, s1, s2, s3, s4, s5, s6, s7, s8, s9, s10, s11, s12, s13, s14, s15⟩
            go_simp
            first | with_reducible rfl | (rw [if_neg (by intro h_; (try simp only [ByteArray.size_append, ByteArray.size_extract, eq_iff_iff, iff_true, show (⟨#[255]⟩ : ByteArray).size = 1 from rfl] at *); omega)]; first | done | rfl)
          rotate_left
          · simp only [Act.put, List.setIfInBounds_toArray, List.set_cons_zero, List.set_cons_succ, i64_w, i32_w]
            rfl
          refine pure_ (i := 17) (N := some 41) (v := ?_) (a' := ?_) #[true, true, true, true, true, true, true, true, true, true, false, true, true, false, false, true, true, true, false, false, false, false, false, false, false, false, false, false, false, false, false, false, false] rfl rfl (any_of HT_.out (by kernel_rfl)) (fun _ _ _ h => h) (Or.inl ⟨by rfl, ?_⟩) ?_ ?_
          rotate_left
          · intro w'
            go_simp
            first | with_reducible rfl | (rw [if_neg (by intro h_; (try simp only [ByteArray.size_append, ByteArray.size_extract, eq_iff_iff, iff_true, show (⟨#[255]⟩ : ByteArray).size = 1 from rfl] at *); omega)]; first | done | rfl)
          rotate_left
          · simp only [Act.put, List.setIfInBounds_toArray, List.set_cons_zero, List.set_cons_succ, i64_w, i32_w]
            rfl
          refine one_ (i := 10) (N := some 34) #[true, true, true, true, true, true, true, true, true, true, true, true, true, false, false, true, true, true, false, false, false, false, false, false, false, false, false, false, false, false, false, false, false] rfl rfl (one_of HT_.out (by kernel_rfl)) (by decide) (fun K hK => ?_)
          refine goes_ Try.func45 (by kernel_rfl) rfl #[.agg #[.int .u64 t661, .int .u64 t662, .int .u64 t663, .int .u64 t664], .agg #[.int .u64 t665, .int .u64 t666, .int .u64 t667, .int .u64 t668]] (by rfl) rfl rfl (by (try simp only [List.map_toArray, List.map_cons, List.map_nil]); first | done | rfl | (simp only [List.length_drop, List.length_take]; rfl)) ?_
          with_reducible refine (impl_HashBlock.calls k t661 t662 t663 t664 t665 t666 t667 t668 t692 t693 t694 t695 _ A32.out).mono ?_
          rintro e w47 ⟨rfl, hb⟩
          refine ⟨_, rfl, ?_⟩
          have n0_ := Aside0.mk (Kd.R_below (by (with_reducible repeat (first | apply Kd.R_alloc | apply Kd.R_drewN | apply Kd.R_drew)); exact HO673.out) hb)
          have n1_ := Aside0.mk (blk_below (g := gb669) (o := .cells #[.int .u64 t661, .int .u64 t662, .int .u64 t663, .int .u64 t664] 30 (0, 0)) (by (with_reducible repeat (first | refine blk_drewN ?_ _ | refine blk_drew ?_ | refine blk_alloc ?_ _)); exact BK669.out) hb)
          have n2_ := Aside0.mk (blk_below (g := gb670) (o := .cells #[.int .u64 t665, .int .u64 t666, .int .u64 t667, .int .u64 t668] 30 (0, 0)) (by (with_reducible repeat (first | refine blk_drewN ?_ _ | refine blk_drew ?_ | refine blk_alloc ?_ _)); exact BK670.out) hb)
          have n3_ := Aside0.mk (blk_below (g := gb682) (o := .cells #[.int .u64 t674, .int .u64 t675, .int .u64 t676, .int .u64 t677] 30 (0, 0)) (by (with_reducible repeat (first | refine blk_drewN ?_ _ | refine blk_drew ?_ | refine blk_alloc ?_ _)); exact BK682.out) hb)
          have n4_ := Aside0.mk (blk_below (g := gb683) (o := .cells #[.int .u64 t678, .int .u64 t679, .int .u64 t680, .int .u64 t681] 30 (0, 0)) (by (with_reducible repeat (first | refine blk_drewN ?_ _ | refine blk_drew ?_ | refine blk_alloc ?_ _)); exact BK683.out) hb)
          have n5_ := Aside0.mk (below_step (by repeat (first | (with_reducible first | exact HB.out | apply below_alloc | apply pw_below_drewN | apply below_drew1 | refine below_set ?_ GE669.out | refine below_set ?_ GE670.out | refine below_set ?_ GE682.out | refine below_set ?_ GE683.out) | exact HB.out)) hb)
          clear HO673
          clear BK669
          clear BK670
          clear BK682
          clear BK683
          clear HB
          have HO673 := n0_
          have BK669 := n1_
          have BK670 := n2_
          have BK682 := n3_
          have BK683 := n4_
          have HB := n5_
          clear n0_ n1_ n2_ n3_ n4_ n5_
          (try clear hb)
          (try clear hb2)
          (try clear hk)
          (try clear hi)
          refine hK.out _ _ ⟨(blk_cell BK669.out 0).trans rfl, (blk_cell BK669.out 1).trans rfl, (blk_cell BK669.out 2).trans rfl, (blk_cell BK669.out 3).trans rfl, (blk_cell BK670.out 0).trans rfl, (blk_cell BK670.out 1).trans rfl, (blk_cell BK670.out 2).trans rfl, (blk_cell BK670.out 3).trans rfl, (blk_cell BK682.out 0).trans rfl, (blk_cell BK682.out 1).trans rfl, (blk_cell BK682.out 2).trans rfl, (blk_cell BK682.out 3).trans rfl, (blk_cell BK683.out 0).trans rfl, (blk_cell BK683.out 1).trans rfl, (blk_cell BK683.out 2).trans rfl, (blk_cell BK683.out 3).trans rfl⟩ (fun hHeld => ?_)
          clear hK K
          refine norm_ (a' := ?_) ?_ ?_
          rotate_left
          · show Act.put _ (some 34) _ = _
            simp only [Act.put, List.setIfInBounds_toArray, List.set_cons_zero, List.set_cons_succ, i64_w, i32_w]
            rfl
          refine one_ (i := 13) (N := some 37) #[true, true, true, true, true, true, true, true, true, true, true, true, true, true, false, true, true, true, false, false, false, false, false, false, false, false, false, false, false, false, false, false, false] rfl rfl (one_of HT_.out (by kernel_rfl)) (by decide) (fun K hK => ?_)
          refine goes_ Try.func45 (by kernel_rfl) rfl #[.agg #[.int .u64 t661, .int .u64 t662, .int .u64 t663, .int .u64 t664], .agg #[.int .u64 t674, .int .u64 t675, .int .u64 t676, .int .u64 t677]] (by rfl) rfl rfl (by (try simp only [List.map_toArray, List.map_cons, List.map_nil]); first | done | rfl | (simp only [List.length_drop, List.length_take]; rfl)) ?_
          with_reducible refine (impl_HashBlock.calls k t661 t662 t663 t664 t674 t675 t676 t677 t696 t697 t698 t699 _ A33.out).mono ?_
          rintro e w48 ⟨rfl, hb⟩
          refine ⟨_, rfl, ?_⟩
          have n0_ := Aside0.mk (Kd.R_below (by (with_reducible repeat (first | apply Kd.R_alloc | apply Kd.R_drewN | apply Kd.R_drew)); exact HO673.out) hb)
          have n1_ := Aside0.mk (blk_below (g := gb669) (o := .cells #[.int .u64 t661, .int .u64 t662, .int .u64 t663, .int .u64 t664] 30 (0, 0)) (by (with_reducible repeat (first | refine blk_drewN ?_ _ | refine blk_drew ?_ | refine blk_alloc ?_ _)); exact BK669.out) hb)
          have n2_ := Aside0.mk (blk_below (g := gb670) (o := .cells #[.int .u64 t665, .int .u64 t666, .int .u64 t667, .int .u64 t668] 30 (0, 0)) (by (with_reducible repeat (first | refine blk_drewN ?_ _ | refine blk_drew ?_ | refine blk_alloc ?_ _)); exact BK670.out) hb)
          have n3_ := Aside0.mk (blk_below (g := gb682) (o := .cells #[.int .u64 t674, .int .u64 t675, .int .u64 t676, .int .u64 t677] 30 (0, 0)) (by (with_reducible repeat (first | refine blk_drewN ?_ _ | refine blk_drew ?_ | refine blk_alloc ?_ _)); exact BK682.out) hb)
          have n4_ := Aside0.mk (blk_below (g := gb683) (o := .cells #[.int .u64 t678, .int .u64 t679, .int .u64 t680, .int .u64 t681] 30 (0, 0)) (by (with_reducible repeat (first | refine blk_drewN ?_ _ | refine blk_drew ?_ | refine blk_alloc ?_ _)); exact BK683.out) hb)
          have n5_ := Aside0.mk (below_step (by repeat (first | (with_reducible first | exact HB.out | apply below_alloc | apply pw_below_drewN | apply below_drew1 | refine below_set ?_ GE669.out | refine below_set ?_ GE670.out | refine below_set ?_ GE682.out | refine below_set ?_ GE683.out) | exact HB.out)) hb)
          clear HO673
          clear BK669
          clear BK670
          clear BK682
          clear BK683
          clear HB
          have HO673 := n0_
          have BK669 := n1_
          have BK670 := n2_
          have BK682 := n3_
          have BK683 := n4_
          have HB := n5_
          clear n0_ n1_ n2_ n3_ n4_ n5_
          (try clear hb)
          (try clear hb2)
          (try clear hk)
          (try clear hi)
          refine hK.out _ _ ⟨(blk_cell BK669.out 0).trans rfl, (blk_cell BK669.out 1).trans rfl, (blk_cell BK669.out 2).trans rfl, (blk_cell BK669.out 3).trans rfl, (blk_cell BK670.out 0).trans rfl, (blk_cell BK670.out 1).trans rfl, (blk_cell BK670.out 2).trans rfl, (blk_cell BK670.out 3).trans rfl, (blk_cell BK682.out 0).trans rfl, (blk_cell BK682.out 1).trans rfl, (blk_cell BK682.out 2).trans rfl, (blk_cell BK682.out 3).trans rfl, (blk_cell BK683.out 0).trans rfl, (blk_cell BK683.out 1).trans rfl, (blk_cell BK683.out 2).trans rfl, (blk_cell BK683.out 3).trans rfl⟩ (fun hHeld => ?_)
          clear hK K
          refine norm_ (a' := ?_) ?_ ?_
          rotate_left
          · show Act.put _ (some 37) _ = _
            simp only [Act.put, List.setIfInBounds_toArray, List.set_cons_zero, List.set_cons_succ, i64_w, i32_w]
            rfl
          refine pure_ (i := 14) (N := some 38) (v := ?_) (a' := ?_) #[true, true, true, true, true, true, true, true, true, true, true, true, true, true, true, true, true, true, false, false, false, false, false, false, false, false, false, false, false, false, false, false, false] rfl rfl (any_of HT_.out (by kernel_rfl)) (fun _ _ _ h => h) (Or.inl ⟨by rfl, ?_⟩) ?_ ?_
          rotate_left
          · intro w'
            go_simp
            first | with_reducible rfl | (rw [if_neg (by intro h_; (try simp only [ByteArray.size_append, ByteArray.size_extract, eq_iff_iff, iff_true, show (⟨#[255]⟩ : ByteArray).size = 1 from rfl] at *); omega)]; first | done | rfl)
          rotate_left
          · simp only [Act.put, List.setIfInBounds_toArray, List.set_cons_zero, List.set_cons_succ, i64_w, i32_w]
            rfl
          refine pure_ (i := 18) (N := some 42) (v := ?_) (a' := ?_) #[true, true, true, true, true, true, true, true, true, true, true, true, true, true, true, true, true, true, true, false, false, false, false, false, false, false, false, false, false, false, false, false, false] rfl rfl (any_of HT_.out (by kernel_rfl)) (fun _ _ _ h => h) (Or.inl ⟨by rfl, ?_⟩) ?_ ?_
          rotate_left
          · intro w'
            go_simp
            first | with_reducible rfl | (rw [if_neg (by intro h_; (try simp only [ByteArray.size_append, ByteArray.size_extract, eq_iff_iff, iff_true, show (⟨#[255]⟩ : ByteArray).size = 1 from rfl] at *); omega)]; first | done | rfl)
          rotate_left
          · simp only [Act.put, List.setIfInBounds_toArray, List.set_cons_zero, List.set_cons_succ, i64_w, i32_w]
            rfl
          refine pure_ (i := 19) (N := some 43) (v := ?_) (a' := ?_) #[true, true, true, true, true, true, true, true, true, true, true, true, true, true, true, true, true, true, true, true, false, false, false, false, false, false, false, false, false, false, false, false, false] rfl rfl (any_of HT_.out (by kernel_rfl)) (fun _ _ _ h => h) (Or.inl ⟨by rfl, ?_⟩) ?_ ?_
          rotate_left
          · intro w'
            go_simp
            first | with_reducible rfl | (rw [if_neg (by intro h_; (try simp only [ByteArray.size_append, ByteArray.size_extract, eq_iff_iff, iff_true, show (⟨#[255]⟩ : ByteArray).size = 1 from rfl] at *); omega)]; first | done | rfl)
          rotate_left
          · simp only [Act.put, List.setIfInBounds_toArray, List.set_cons_zero, List.set_cons_succ, i64_w, i32_w]
            rfl
          refine pure_ (i := 20) (N := some 44) (v := ?_) (a' := ?_) #[true, true, true, true, true, true, true, true, true, true, true, true, true, true, true, true, true, true, true, true, true, false, false, false, false, false, false, false, false, false, false, false, false] rfl rfl (any_of HT_.out (by kernel_rfl)) (fun _ _ _ h => h) (Or.inl ⟨by rfl, ?_⟩) ?_ ?_
          rotate_left
          · intro w'
            go_simp
            first | with_reducible rfl | (rw [if_neg (by intro h_; (try simp only [ByteArray.size_append, ByteArray.size_extract, eq_iff_iff, iff_true, show (⟨#[255]⟩ : ByteArray).size = 1 from rfl] at *); omega)]; first | done | rfl)
          rotate_left
          · simp only [Act.put, List.setIfInBounds_toArray, List.set_cons_zero, List.set_cons_succ, i64_w, i32_w]
            rfl
          refine take_ (i := 21) (N := some 45) (v := ?_) (a' := ?_) #[true, true, true, true, true, true, true, true, true, true, true, true, true, true, true, true, true, true, true, true, true, true, false, false, false, false, false, false, false, false, false, false, false] rfl rfl (take_ofW HT_.out HW_.out (by kernel_rfl)) (fun _ _ _ h => h) (Or.inl ⟨by rfl, ?_⟩) hHeld ?_ ?_
          rotate_left
          · rintro w' ⟨s0, s1, s2, s3, s4, s5, s6, s7, s8, s9, s10, s11, s12, s13, s14, s15⟩
            go_simp
            first | with_reducible rfl | (rw [if_neg (by intro h_; (try simp only [ByteArray.size_append, ByteArray.size_extract, eq_iff_iff, iff_true, show (⟨#[255]⟩ : ByteArray).size = 1 from rfl] at *); omega)]; first | done | rfl)
          rotate_left
          · simp only [Act.put, List.setIfInBounds_toArray, List.set_cons_zero, List.set_cons_succ, i64_w, i32_w]
            rfl
          refine take_ (i := 22) (N := some 46) (v := ?_) (a' := ?_) #[true, true, true, true, true, true, true, true, true, true, true, true, true, true, true, true, true, true, true, true, true, true, true, false, false, false, false, false, false, false, false, false, false] rfl rfl (take_ofW HT_.out HW_.out (by kernel_rfl)) (fun _ _ _ h => h) (Or.inl ⟨by rfl, ?_⟩) hHeld ?_ ?_
          rotate_left
          · rintro w' ⟨s0, s1, s2, s3, s4, s5, s6, s7, s8, s9, s10, s11, s12, s13, s14, s15⟩
            go_simp
            first | with_reducible rfl | (rw [if_neg (by intro h_; (try simp only [ByteArray.size_append, ByteArray.size_extract, eq_iff_iff, iff_true, show (⟨#[255]⟩ : ByteArray).size = 1 from rfl] at *); omega)]; first | done | rfl)
          rotate_left
          · simp only [Act.put, List.setIfInBounds_toArray, List.set_cons_zero, List.set_cons_succ, i64_w, i32_w]
            rfl
          refine take_ (i := 24) (N := some 48) (v := ?_) (a' := ?_) #[true, true, true, true, true, true, true, true, true, true, true, true, true, true, true, true, true, true, true, true, true, true, true, false, true, false, false, false, false, false, false, false, false] rfl rfl (take_ofW HT_.out HW_.out (by kernel_rfl)) (fun _ _ _ h => h) (Or.inl ⟨by rfl, ?_⟩) hHeld ?_ ?_
          rotate_left
          · rintro w' ⟨s0, s1, s2, s3, s4, s5, s6, s7, s8, s9, s10, s11, s12, s13, s14, s15⟩
            go_simp
            first | with_reducible rfl | (rw [if_neg (by intro h_; (try simp only [ByteArray.size_append, ByteArray.size_extract, eq_iff_iff, iff_true, show (⟨#[255]⟩ : ByteArray).size = 1 from rfl] at *); omega)]; first | done | rfl)
          rotate_left
          · simp only [Act.put, List.setIfInBounds_toArray, List.set_cons_zero, List.set_cons_succ, i64_w, i32_w]
            rfl
          refine take_ (i := 25) (N := some 49) (v := ?_) (a' := ?_) #[true, true, true, true, true, true, true, true, true, true, true, true, true, true, true, true, true, true, true, true, true, true, true, false, true, true, false, false, false, false, false, false, false] rfl rfl (take_ofW HT_.out HW_.out (by kernel_rfl)) (fun _ _ _ h => h) (Or.inl ⟨by rfl, ?_⟩) hHeld ?_ ?_
          rotate_left
          · rintro w' ⟨s0, s1, s2, s3, s4, s5, s6, s7, s8, s9, s10, s11, s12, s13, s14, s15⟩
            go_simp
            first | with_reducible rfl | (rw [if_neg (by intro h_; (try simp only [ByteArray.size_append, ByteArray.size_extract, eq_iff_iff, iff_true, show (⟨#[255]⟩ : ByteArray).size = 1 from rfl] at *); omega)]; first | done | rfl)
          rotate_left
          · simp only [Act.put, List.setIfInBounds_toArray, List.set_cons_zero, List.set_cons_succ, i64_w, i32_w]
            rfl
          refine take_ (i := 28) (N := some 52) (v := ?_) (a' := ?_) #[true, true, true, true, true, true, true, true, true, true, true, true, true, true, true, true, true, true, true, true, true, true, true, false, true, true, false, false, true, false, false, false, false] rfl rfl (take_ofW HT_.out HW_.out (by kernel_rfl)) (fun _ _ _ h => h) (Or.inl ⟨by rfl, ?_⟩) hHeld ?_ ?_
          rotate_left
          · rintro w' ⟨s0, s1, s2, s3, s4, s5, s6, s7, s8, s9, s10, s11, s12, s13, s14, s15⟩
            go_simp
            first | with_reducible rfl | (rw [if_neg (by intro h_; (try simp only [ByteArray.size_append, ByteArray.size_extract, eq_iff_iff, iff_true, show (⟨#[255]⟩ : ByteArray).size = 1 from rfl] at *); omega)]; first | done | rfl)
          rotate_left
          · simp only [Act.put, List.setIfInBounds_toArray, List.set_cons_zero, List.set_cons_succ, i64_w, i32_w]
            rfl
          refine take_ (i := 29) (N := some 53) (v := ?_) (a' := ?_) #[true, true, true, true, true, true, true, true, true, true, true, true, true, true, true, true, true, true, true, true, true, true, true, false, true, true, false, false, true, true, false, false, false] rfl rfl (take_ofW HT_.out HW_.out (by kernel_rfl)) (fun _ _ _ h => h) (Or.inl ⟨by rfl, ?_⟩) hHeld ?_ ?_
          rotate_left
          · rintro w' ⟨s0, s1, s2, s3, s4, s5, s6, s7, s8, s9, s10, s11, s12, s13, s14, s15⟩
            go_simp
            first | with_reducible rfl | (rw [if_neg (by intro h_; (try simp only [ByteArray.size_append, ByteArray.size_extract, eq_iff_iff, iff_true, show (⟨#[255]⟩ : ByteArray).size = 1 from rfl] at *); omega)]; first | done | rfl)
          rotate_left
          · simp only [Act.put, List.setIfInBounds_toArray, List.set_cons_zero, List.set_cons_succ, i64_w, i32_w]
            rfl
          refine pure_ (i := 30) (N := some 54) (v := ?_) (a' := ?_) #[true, true, true, true, true, true, true, true, true, true, true, true, true, true, true, true, true, true, true, true, true, true, true, false, true, true, false, false, true, true, true, false, false] rfl rfl (any_of HT_.out (by kernel_rfl)) (fun _ _ _ h => h) (Or.inl ⟨by rfl, ?_⟩) ?_ ?_
          rotate_left
          · intro w'
            go_simp
            first | with_reducible rfl | (rw [if_neg (by intro h_; (try simp only [ByteArray.size_append, ByteArray.size_extract, eq_iff_iff, iff_true, show (⟨#[255]⟩ : ByteArray).size = 1 from rfl] at *); omega)]; first | done | rfl)
          rotate_left
          · simp only [Act.put, List.setIfInBounds_toArray, List.set_cons_zero, List.set_cons_succ, i64_w, i32_w]
            rfl
          refine one_ (i := 23) (N := some 47) #[true, true, true, true, true, true, true, true, true, true, true, true, true, true, true, true, true, true, true, true, true, true, true, true, true, true, false, false, true, true, true, false, false] rfl rfl (one_of HT_.out (by kernel_rfl)) (by decide) (fun K hK => ?_)
          refine goes_ Try.func45 (by kernel_rfl) rfl #[.agg #[.int .u64 t661, .int .u64 t662, .int .u64 t663, .int .u64 t664], .agg #[.int .u64 t665, .int .u64 t666, .int .u64 t667, .int .u64 t668]] (by rfl) rfl rfl (by (try simp only [List.map_toArray, List.map_cons, List.map_nil]); first | done | rfl | (simp only [List.length_drop, List.length_take]; rfl)) ?_
          with_reducible refine (impl_HashBlock.calls k t661 t662 t663 t664 t665 t666 t667 t668 t700 t701 t702 t703 _ A41.out).mono ?_
          rintro e w49 ⟨rfl, hb⟩
          refine ⟨_, rfl, ?_⟩
          have n0_ := Aside0.mk (Kd.R_below (by (with_reducible repeat (first | apply Kd.R_alloc | apply Kd.R_drewN | apply Kd.R_drew)); exact HO673.out) hb)
          have n1_ := Aside0.mk (blk_below (g := gb669) (o := .cells #[.int .u64 t661, .int .u64 t662, .int .u64 t663, .int .u64 t664] 30 (0, 0)) (by (with_reducible repeat (first | refine blk_drewN ?_ _ | refine blk_drew ?_ | refine blk_alloc ?_ _)); exact BK669.out) hb)
          have n2_ := Aside0.mk (blk_below (g := gb670) (o := .cells #[.int .u64 t665, .int .u64 t666, .int .u64 t667, .int .u64 t668] 30 (0, 0)) (by (with_reducible repeat (first | refine blk_drewN ?_ _ | refine blk_drew ?_ | refine blk_alloc ?_ _)); exact BK670.out) hb)
          have n3_ := Aside0.mk (blk_below (g := gb682) (o := .cells #[.int .u64 t674, .int .u64 t675, .int .u64 t676, .int .u64 t677] 30 (0, 0)) (by (with_reducible repeat (first | refine blk_drewN ?_ _ | refine blk_drew ?_ | refine blk_alloc ?_ _)); exact BK682.out) hb)
          have n4_ := Aside0.mk (blk_below (g := gb683) (o := .cells #[.int .u64 t678, .int .u64 t679, .int .u64 t680, .int .u64 t681] 30 (0, 0)) (by (with_reducible repeat (first | refine blk_drewN ?_ _ | refine blk_drew ?_ | refine blk_alloc ?_ _)); exact BK683.out) hb)
          have n5_ := Aside0.mk (below_step (by repeat (first | (with_reducible first | exact HB.out | apply below_alloc | apply pw_below_drewN | apply below_drew1 | refine below_set ?_ GE669.out | refine below_set ?_ GE670.out | refine below_set ?_ GE682.out | refine below_set ?_ GE683.out) | exact HB.out)) hb)
          clear HO673
          clear BK669
          clear BK670
          clear BK682
          clear BK683
          clear HB
          have HO673 := n0_
          have BK669 := n1_
          have BK670 := n2_
          have BK682 := n3_
          have BK683 := n4_
          have HB := n5_
          clear n0_ n1_ n2_ n3_ n4_ n5_
          (try clear hb)
          (try clear hb2)
          (try clear hk)
          (try clear hi)
          refine hK.out _ _ ⟨(blk_cell BK669.out 0).trans rfl, (blk_cell BK669.out 1).trans rfl, (blk_cell BK669.out 2).trans rfl, (blk_cell BK669.out 3).trans rfl, (blk_cell BK670.out 0).trans rfl, (blk_cell BK670.out 1).trans rfl, (blk_cell BK670.out 2).trans rfl, (blk_cell BK670.out 3).trans rfl, (blk_cell BK682.out 0).trans rfl, (blk_cell BK682.out 1).trans rfl, (blk_cell BK682.out 2).trans rfl, (blk_cell BK682.out 3).trans rfl, (blk_cell BK683.out 0).trans rfl, (blk_cell BK683.out 1).trans rfl, (blk_cell BK683.out 2).trans rfl, (blk_cell BK683.out 3).trans rfl⟩ (fun hHeld => ?_)
          clear hK K
          refine norm_ (a' := ?_) ?_ ?_
          rotate_left
          · show Act.put _ (some 47) _ = _
            simp only [Act.put, List.setIfInBounds_toArray, List.set_cons_zero, List.set_cons_succ, i64_w, i32_w]
            rfl
          refine one_ (i := 26) (N := some 50) #[true, true, true, true, true, true, true, true, true, true, true, true, true, true, true, true, true, true, true, true, true, true, true, true, true, true, true, false, true, true, true, false, false] rfl rfl (one_of HT_.out (by kernel_rfl)) (by decide) (fun K hK => ?_)
          refine goes_ Try.func45 (by kernel_rfl) rfl #[.agg #[.int .u64 t661, .int .u64 t662, .int .u64 t663, .int .u64 t664], .agg #[.int .u64 t678, .int .u64 t679, .int .u64 t680, .int .u64 t681]] (by rfl) rfl rfl (by (try simp only [List.map_toArray, List.map_cons, List.map_nil]); first | done | rfl | (simp only [List.length_drop, List.length_take]; rfl)) ?_
          with_reducible refine (impl_HashBlock.calls k t661 t662 t663 t664 t678 t679 t680 t681 t704 t705 t706 t707 _ A42.out).mono ?_
          rintro e w50 ⟨rfl, hb⟩
          refine ⟨_, rfl, ?_⟩
          have n0_ := Aside0.mk (Kd.R_below (by (with_reducible repeat (first | apply Kd.R_alloc | apply Kd.R_drewN | apply Kd.R_drew)); exact HO673.out) hb)
          have n1_ := Aside0.mk (blk_below (g := gb669) (o := .cells #[.int .u64 t661, .int .u64 t662, .int .u64 t663, .int .u64 t664] 30 (0, 0)) (by (with_reducible repeat (first | refine blk_drewN ?_ _ | refine blk_drew ?_ | refine blk_alloc ?_ _)); exact BK669.out) hb)
          have n2_ := Aside0.mk (blk_below (g := gb670) (o := .cells #[.int .u64 t665, .int .u64 t666, .int .u64 t667, .int .u64 t668] 30 (0, 0)) (by (with_reducible repeat (first | refine blk_drewN ?_ _ | refine blk_drew ?_ | refine blk_alloc ?_ _)); exact BK670.out) hb)
          have n3_ := Aside0.mk (blk_below (g := gb682) (o := .cells #[.int .u64 t674, .int .u64 t675, .int .u64 t676, .int .u64 t677] 30 (0, 0)) (by (with_reducible repeat (first | refine blk_drewN ?_ _ | refine blk_drew ?_ | refine blk_alloc ?_ _)); exact BK682.out) hb)
          have n4_ := Aside0.mk (blk_below (g := gb683) (o := .cells #[.int .u64 t678, .int .u64 t679, .int .u64 t680, .int .u64 t681] 30 (0, 0)) (by (with_reducible repeat (first | refine blk_drewN ?_ _ | refine blk_drew ?_ | refine blk_alloc ?_ _)); exact BK683.out) hb)
          have n5_ := Aside0.mk (below_step (by repeat (first | (with_reducible first | exact HB.out | apply below_alloc | apply pw_below_drewN | apply below_drew1 | refine below_set ?_ GE669.out | refine below_set ?_ GE670.out | refine below_set ?_ GE682.out | refine below_set ?_ GE683.out) | exact HB.out)) hb)
          clear HO673
          clear BK669
          clear BK670
          clear BK682
          clear BK683
          clear HB
          have HO673 := n0_
          have BK669 := n1_
          have BK670 := n2_
          have BK682 := n3_
          have BK683 := n4_
          have HB := n5_
          clear n0_ n1_ n2_ n3_ n4_ n5_
          (try clear hb)
          (try clear hb2)
          (try clear hk)
          (try clear hi)
          refine hK.out _ _ ⟨(blk_cell BK669.out 0).trans rfl, (blk_cell BK669.out 1).trans rfl, (blk_cell BK669.out 2).trans rfl, (blk_cell BK669.out 3).trans rfl, (blk_cell BK670.out 0).trans rfl, (blk_cell BK670.out 1).trans rfl, (blk_cell BK670.out 2).trans rfl, (blk_cell BK670.out 3).trans rfl, (blk_cell BK682.out 0).trans rfl, (blk_cell BK682.out 1).trans rfl, (blk_cell BK682.out 2).trans rfl, (blk_cell BK682.out 3).trans rfl, (blk_cell BK683.out 0).trans rfl, (blk_cell BK683.out 1).trans rfl, (blk_cell BK683.out 2).trans rfl, (blk_cell BK683.out 3).trans rfl⟩ (fun hHeld => ?_)
          clear hK K
          refine norm_ (a' := ?_) ?_ ?_
          rotate_left
          · show Act.put _ (some 50) _ = _
            simp only [Act.put, List.setIfInBounds_toArray, List.set_cons_zero, List.set_cons_succ, i64_w, i32_w]
            rfl
          refine pure_ (i := 27) (N := some 51) (v := ?_) (a' := ?_) #[true, true, true, true, true, true, true, true, true, true, true, true, true, true, true, true, true, true, true, true, true, true, true, true, true, true, true, true, true, true, true, false, false] rfl rfl (any_of HT_.out (by kernel_rfl)) (fun _ _ _ h => h) (Or.inl ⟨by rfl, ?_⟩) ?_ ?_
          rotate_left
          · intro w'
            go_simp
            first | with_reducible rfl | (rw [if_neg (by intro h_; (try simp only [ByteArray.size_append, ByteArray.size_extract, eq_iff_iff, iff_true, show (⟨#[255]⟩ : ByteArray).size = 1 from rfl] at *); omega)]; first | done | rfl)
          rotate_left
          · simp only [Act.put, List.setIfInBounds_toArray, List.set_cons_zero, List.set_cons_succ, i64_w, i32_w]
            rfl
          refine pure_ (i := 31) (N := some 55) (v := ?_) (a' := ?_) #[true, true, true, true, true, true, true, true, true, true, true, true, true, true, true, true, true, true, true, true, true, true, true, true, true, true, true, true, true, true, true, true, false] rfl rfl (any_of HT_.out (by kernel_rfl)) (fun _ _ _ h => h) (Or.inl ⟨by rfl, ?_⟩) ?_ ?_
          rotate_left
          · intro w'
            go_simp
            first | with_reducible rfl | (rw [if_neg (by intro h_; (try simp only [ByteArray.size_append, ByteArray.size_extract, eq_iff_iff, iff_true, show (⟨#[255]⟩ : ByteArray).size = 1 from rfl] at *); omega)]; first | done | rfl)
          rotate_left
          · simp only [Act.put, List.setIfInBounds_toArray, List.set_cons_zero, List.set_cons_succ, i64_w, i32_w]
            rfl
          refine pure_ (i := 32) (N := some 56) (v := ?_) (a' := ?_) #[true, true, true, true, true, true, true, true, true, true, true, true, true, true, true, true, true, true, true, true, true, true, true, true, true, true, true, true, true, true, true, true, true] rfl rfl (any_of HT_.out (by kernel_rfl)) (fun _ _ _ h => h) (Or.inl ⟨by rfl, ?_⟩) ?_ ?_
          rotate_left
          · intro w'
            go_simp
            first | with_reducible rfl | (rw [if_neg (by intro h_; (try simp only [ByteArray.size_append, ByteArray.size_extract, eq_iff_iff, iff_true, show (⟨#[255]⟩ : ByteArray).size = 1 from rfl] at *); omega)]; first | done | rfl)
          rotate_left
          · simp only [Act.put, List.setIfInBounds_toArray, List.set_cons_zero, List.set_cons_succ, i64_w, i32_w]
            rfl
          refine done_ (done_of HT_.out (by kernel_rfl)) ?_
          try go_wp2
          go_meet
          case rel => exact ⟨_, (((t700 == t704 && (t701 == t705 && (t702 == t706 && (t703 == t707)))) != (t665 == t678 && (t666 == t679 && (t667 == t680 && (t668 == t681)))))), (by first | rfl | (simp; done) | (simp [*]; done)), H', ⟨by first | omega | exact Nat.le_refl _⟩, ⟨by (with_reducible repeat (first | refine blk_drewN ?_ _ | refine blk_drew ?_ | refine blk_alloc ?_ _)); exact BK669.out⟩, ⟨by (with_reducible repeat (first | refine blk_drewN ?_ _ | refine blk_drew ?_ | refine blk_alloc ?_ _)); exact BK670.out⟩, ⟨by (with_reducible repeat (first | refine blk_drewN ?_ _ | refine blk_drew ?_ | refine blk_alloc ?_ _)); exact BK682.out⟩, ⟨by (with_reducible repeat (first | refine blk_drewN ?_ _ | refine blk_drew ?_ | refine blk_alloc ?_ _)); exact BK683.out⟩, ⟨by repeat (first | (with_reducible first | exact HB.out | apply below_alloc | apply pw_below_drewN | apply below_drew1 | refine below_set ?_ GE669.out | refine below_set ?_ GE670.out | refine below_set ?_ GE682.out | refine below_set ?_ GE683.out) | exact HB.out)⟩⟩
    case rest =>
      clear HC6
      try clear p2
      try clear c3
      try clear c4
      try clear c34
      try clear c34b0
      try clear c34b1
      try clear c34b2
      try clear c44
      try clear c45
      obtain ⟨kq, x56_5, rfl, HA, HJ5, BK669, BK670, BK682, BK683, HB⟩ := hcut
      cases kq with
      | zero => exact absurd HA.out (by simp [laws_FnHashBlockApart.j0])
      | succ kj5 =>
        have H := HA.out
        clear HA
        simp only [laws_FnHashBlockApart.j0] at H
        by_cases c51 : x56_5 = true
        · subst c51
          have H1 : (some false) = some r := by rw [if_pos rfl] at H; exact H
          clear H
          have H := H1
          clear H1
          obtain rfl := Option.some.inj H
          go_wp2
          go_ret
          exact ⟨by first | rfl | (simp [errW_none, errW_some] <;> rfl) | (simp [*, errW_none, errW_some] <;> rfl), by repeat (first | (with_reducible first | exact HB.out | apply below_alloc | apply pw_below_drewN | apply below_drew1 | refine below_set ?_ GE669.out | refine below_set ?_ GE670.out | refine below_set ?_ GE682.out | refine below_set ?_ GE683.out) | exact HB.out)⟩
        · replace c51 := Bool.eq_false_iff.mpr c51
          subst c51
          have H1 : ((spec_DrawHashOf.f kj5 l0).bind fun t708 => ((laws_bare.f kj5 t708).bind fun t709 => ((laws_more.f kj5 l0 9).bind fun t710 => ((spec_DrawHashOf.f kj5 t710).bind fun t713 => ((laws_bare.f kj5 t713).bind fun t714 => (if (t709.size : Int) > 23 then (if 0 ≤ 23 then (if 23 ≤ (t709.size : Int) then (laws_FnHashBlockApart.j1 kj5 l0 (t709.extract 0 23) t714) else (none)) else (none)) else (laws_FnHashBlockApart.j1 kj5 l0 t709 t714))))))) = some r := by rw [if_neg (show ¬ (false = true) by decide)] at H; exact H
          clear H
          have H := H1
          clear H1
          replace H := Option.bind_eq_some_iff.mp H
          obtain ⟨t708, A520, H⟩ := H
          replace H : ((laws_bare.f kj5 t708).bind fun t709 => ((laws_more.f kj5 l0 9).bind fun t710 => ((spec_DrawHashOf.f kj5 t710).bind fun t713 => ((laws_bare.f kj5 t713).bind fun t714 => (if (t709.size : Int) > 23 then (if 0 ≤ 23 then (if 23 ≤ (t709.size : Int) then (laws_FnHashBlockApart.j1 kj5 l0 (t709.extract 0 23) t714) else (none)) else (none)) else (laws_FnHashBlockApart.j1 kj5 l0 t709 t714)))))) = some r := H
          have A52 := Aside0.mk A520
          clear A520
          replace H := Option.bind_eq_some_iff.mp H
          obtain ⟨t709, A530, H⟩ := H
          replace H : ((laws_more.f kj5 l0 9).bind fun t710 => ((spec_DrawHashOf.f kj5 t710).bind fun t713 => ((laws_bare.f kj5 t713).bind fun t714 => (if (t709.size : Int) > 23 then (if 0 ≤ 23 then (if 23 ≤ (t709.size : Int) then (laws_FnHashBlockApart.j1 kj5 l0 (t709.extract 0 23) t714) else (none)) else (none)) else (laws_FnHashBlockApart.j1 kj5 l0 t709 t714))))) = some r := H
          have A53 := Aside0.mk A530
          clear A530
          replace H := Option.bind_eq_some_iff.mp H
          obtain ⟨t710, A540, H⟩ := H
          replace H : ((spec_DrawHashOf.f kj5 t710).bind fun t713 => ((laws_bare.f kj5 t713).bind fun t714 => (if (t709.size : Int) > 23 then (if 0 ≤ 23 then (if 23 ≤ (t709.size : Int) then (laws_FnHashBlockApart.j1 kj5 l0 (t709.extract 0 23) t714) else (none)) else (none)) else (laws_FnHashBlockApart.j1 kj5 l0 t709 t714)))) = some r := H
          have A54 := Aside0.mk A540
          clear A540
          replace H := Option.bind_eq_some_iff.mp H
          obtain ⟨t713, A550, H⟩ := H
          replace H : ((laws_bare.f kj5 t713).bind fun t714 => (if (t709.size : Int) > 23 then (if 0 ≤ 23 then (if 23 ≤ (t709.size : Int) then (laws_FnHashBlockApart.j1 kj5 l0 (t709.extract 0 23) t714) else (none)) else (none)) else (laws_FnHashBlockApart.j1 kj5 l0 t709 t714))) = some r := H
          have A55 := Aside0.mk A550
          clear A550
          replace H := Option.bind_eq_some_iff.mp H
          obtain ⟨t714, A560, H⟩ := H
          replace H : (if (t709.size : Int) > 23 then (if 0 ≤ 23 then (if 23 ≤ (t709.size : Int) then (laws_FnHashBlockApart.j1 kj5 l0 (t709.extract 0 23) t714) else (none)) else (none)) else (laws_FnHashBlockApart.j1 kj5 l0 t709 t714)) = some r := H
          have A56 := Aside0.mk A560
          clear A560
          have HC57 := Aside0.mk H
          clear H
          go_upto_if 66 with (first | ((with_reducible refine gate_callee (f := 65) rfl ?_); refine goesL_ (some 58) rfl rfl Try.func65 (by kernel_rfl) rfl #[.slice A0 l0.length c0] rfl (by (try simp only [List.map_toArray, List.map_cons, List.map_nil]); first | done | rfl | (simp only [List.length_drop, List.length_take]; rfl)) ?_; (with_reducible refine (spec_DrawHashOf.calls kj5 _ _ l0 t708 _ ?side1 ?side2 A52.out).mono ?_); (case side1 => repeat (first | exact (Kd.C_below HR0.out HB.out) | (with_reducible refine Kd.C_alloc ?_ _) | (with_reducible refine Kd.C_drewN ?_ _) | (with_reducible refine Kd.C_drew ?_))); (case side2 => exact HC0.out); rintro e w58 ⟨rfl, hb⟩; refine ⟨_, rfl, ?_⟩; have n0_ := Aside0.mk (blk_below (g := gb669) (o := .cells #[.int .u64 t661, .int .u64 t662, .int .u64 t663, .int .u64 t664] 30 (0, 0)) (by (with_reducible repeat (first | refine blk_drewN ?_ _ | refine blk_drew ?_ | refine blk_alloc ?_ _)); exact BK669.out) hb); have n1_ := Aside0.mk (blk_below (g := gb670) (o := .cells #[.int .u64 t665, .int .u64 t666, .int .u64 t667, .int .u64 t668] 30 (0, 0)) (by (with_reducible repeat (first | refine blk_drewN ?_ _ | refine blk_drew ?_ | refine blk_alloc ?_ _)); exact BK670.out) hb); have n2_ := Aside0.mk (blk_below (g := gb682) (o := .cells #[.int .u64 t674, .int .u64 t675, .int .u64 t676, .int .u64 t677] 30 (0, 0)) (by (with_reducible repeat (first | refine blk_drewN ?_ _ | refine blk_drew ?_ | refine blk_alloc ?_ _)); exact BK682.out) hb); have n3_ := Aside0.mk (blk_below (g := gb683) (o := .cells #[.int .u64 t678, .int .u64 t679, .int .u64 t680, .int .u64 t681] 30 (0, 0)) (by (with_reducible repeat (first | refine blk_drewN ?_ _ | refine blk_drew ?_ | refine blk_alloc ?_ _)); exact BK683.out) hb); have n4_ := Aside0.mk (below_step (by repeat (first | (with_reducible first | exact HB.out | apply below_alloc | apply pw_below_drewN | apply below_drew1 | refine below_set ?_ GE669.out | refine below_set ?_ GE670.out | refine below_set ?_ GE682.out | refine below_set ?_ GE683.out) | exact HB.out)) hb); clear BK669; clear BK670; clear BK682; clear BK683; clear HB; have BK669 := n0_; have BK670 := n1_; have BK682 := n2_; have BK683 := n3_; have HB := n4_; clear n0_ n1_ n2_ n3_ n4_; (try clear hb); (try clear hb2); (try clear hk); (try clear hi)) | ((with_reducible refine gate_callee (f := 64) rfl ?_); refine goesL_ (some 59) rfl rfl Try.func64 (by kernel_rfl) rfl #[.string t708] rfl (by (try simp only [List.map_toArray, List.map_cons, List.map_nil]); first | done | rfl | (simp only [List.length_drop, List.length_take]; rfl)) ?_; (with_reducible refine (laws_bare.calls kj5 t708 t709 _ A53.out).mono ?_); rintro e w' ⟨rfl, ⟨nd, rfl⟩⟩; refine ⟨_, rfl, ?_⟩) | ((with_reducible refine gate_callee (f := 63) rfl ?_); refine goesL_ (some 61) rfl rfl Try.func63 (by kernel_rfl) rfl #[.slice A0 l0.length c0, .int .u8 9] rfl (by (try simp only [List.map_toArray, List.map_cons, List.map_nil]); first | done | rfl | (simp only [List.length_drop, List.length_take]; rfl)) ?_; (with_reducible refine (laws_more.calls kj5 _ _ l0 9 t710 _ ?side1 ?side2 A54.out).mono ?_); (case side1 => repeat (first | exact (Kd.C_below HR0.out (by repeat (first | (with_reducible first | exact HB.out | apply below_alloc | apply pw_below_drewN | apply below_drew1 | refine below_set ?_ GE669.out | refine below_set ?_ GE670.out | refine below_set ?_ GE682.out | refine below_set ?_ GE683.out) | exact HB.out))) | (with_reducible refine Kd.C_alloc ?_ _) | (with_reducible refine Kd.C_drewN ?_ _) | (with_reducible refine Kd.C_drew ?_))); (case side2 => exact HC0.out); rintro e w59 ⟨v711, rfl, ho0, hb⟩; refine ⟨_, rfl, ?_⟩; have n0_ := Aside0.mk (Kd.R_lower ho0 (below_size (by repeat (first | (with_reducible first | exact HB.out | apply below_alloc | apply pw_below_drewN | apply below_drew1 | refine below_set ?_ GE669.out | refine below_set ?_ GE670.out | refine below_set ?_ GE682.out | refine below_set ?_ GE683.out) | exact HB.out)))); have n1_ := Aside0.mk (blk_below (g := gb669) (o := .cells #[.int .u64 t661, .int .u64 t662, .int .u64 t663, .int .u64 t664] 30 (0, 0)) (by (with_reducible repeat (first | refine blk_drewN ?_ _ | refine blk_drew ?_ | refine blk_alloc ?_ _)); exact BK669.out) hb); have n2_ := Aside0.mk (blk_below (g := gb670) (o := .cells #[.int .u64 t665, .int .u64 t666, .int .u64 t667, .int .u64 t668] 30 (0, 0)) (by (with_reducible repeat (first | refine blk_drewN ?_ _ | refine blk_drew ?_ | refine blk_alloc ?_ _)); exact BK670.out) hb); have n3_ := Aside0.mk (blk_below (g := gb682) (o := .cells #[.int .u64 t674, .int .u64 t675, .int .u64 t676, .int .u64 t677] 30 (0, 0)) (by (with_reducible repeat (first | refine blk_drewN ?_ _ | refine blk_drew ?_ | refine blk_alloc ?_ _)); exact BK682.out) hb); have n4_ := Aside0.mk (blk_below (g := gb683) (o := .cells #[.int .u64 t678, .int .u64 t679, .int .u64 t680, .int .u64 t681] 30 (0, 0)) (by (with_reducible repeat (first | refine blk_drewN ?_ _ | refine blk_drew ?_ | refine blk_alloc ?_ _)); exact BK683.out) hb); have n5_ := Aside0.mk (below_step (by repeat (first | (with_reducible first | exact HB.out | apply below_alloc | apply pw_below_drewN | apply below_drew1 | refine below_set ?_ GE669.out | refine below_set ?_ GE670.out | refine below_set ?_ GE682.out | refine below_set ?_ GE683.out) | exact HB.out)) hb); clear BK669; clear BK670; clear BK682; clear BK683; clear HB; have HO712 := n0_; have BK669 := n1_; have BK670 := n2_; have BK682 := n3_; have BK683 := n4_; have HB := n5_; clear n0_ n1_ n2_ n3_ n4_ n5_; (try clear hb); (try clear hb2); (try clear hk); (try clear hi); (try clear ho0); obtain ⟨Ao60, co60, eo60⟩ := Kd.R_slice HO712.out; subst eo60) | ((with_reducible refine gate_callee (f := 65) rfl ?_); refine goesL_ (some 62) rfl rfl Try.func65 (by kernel_rfl) rfl #[.slice Ao60 t710.length co60] rfl (by (try simp only [List.map_toArray, List.map_cons, List.map_nil]); first | done | rfl | (simp only [List.length_drop, List.length_take]; rfl)) ?_; (with_reducible refine (spec_DrawHashOf.calls kj5 _ _ t710 t713 _ ?side1 ?side2 A55.out).mono ?_); (case side1 => repeat (first | exact (Kd.R_reads' HO712.out).2.2 | (with_reducible refine Kd.C_alloc ?_ _) | (with_reducible refine Kd.C_drewN ?_ _) | (with_reducible refine Kd.C_drew ?_))); (case side2 => exact (Kd.R_reads' HO712.out).2.1); rintro e w61 ⟨rfl, hb⟩; refine ⟨_, rfl, ?_⟩; have n0_ := Aside0.mk (Kd.R_below (by (with_reducible repeat (first | apply Kd.R_alloc | apply Kd.R_drewN | apply Kd.R_drew)); exact HO712.out) hb); have n1_ := Aside0.mk (blk_below (g := gb669) (o := .cells #[.int .u64 t661, .int .u64 t662, .int .u64 t663, .int .u64 t664] 30 (0, 0)) (by (with_reducible repeat (first | refine blk_drewN ?_ _ | refine blk_drew ?_ | refine blk_alloc ?_ _)); exact BK669.out) hb); have n2_ := Aside0.mk (blk_below (g := gb670) (o := .cells #[.int .u64 t665, .int .u64 t666, .int .u64 t667, .int .u64 t668] 30 (0, 0)) (by (with_reducible repeat (first | refine blk_drewN ?_ _ | refine blk_drew ?_ | refine blk_alloc ?_ _)); exact BK670.out) hb); have n3_ := Aside0.mk (blk_below (g := gb682) (o := .cells #[.int .u64 t674, .int .u64 t675, .int .u64 t676, .int .u64 t677] 30 (0, 0)) (by (with_reducible repeat (first | refine blk_drewN ?_ _ | refine blk_drew ?_ | refine blk_alloc ?_ _)); exact BK682.out) hb); have n4_ := Aside0.mk (blk_below (g := gb683) (o := .cells #[.int .u64 t678, .int .u64 t679, .int .u64 t680, .int .u64 t681] 30 (0, 0)) (by (with_reducible repeat (first | refine blk_drewN ?_ _ | refine blk_drew ?_ | refine blk_alloc ?_ _)); exact BK683.out) hb); have n5_ := Aside0.mk (below_step (by repeat (first | (with_reducible first | exact HB.out | apply below_alloc | apply pw_below_drewN | apply below_drew1 | refine below_set ?_ GE669.out | refine below_set ?_ GE670.out | refine below_set ?_ GE682.out | refine below_set ?_ GE683.out) | exact HB.out)) hb); clear HO712; clear BK669; clear BK670; clear BK682; clear BK683; clear HB; have HO712 := n0_; have BK669 := n1_; have BK670 := n2_; have BK682 := n3_; have BK683 := n4_; have HB := n5_; clear n0_ n1_ n2_ n3_ n4_ n5_; (try clear hb); (try clear hb2); (try clear hk); (try clear hi)) | ((with_reducible refine gate_callee (f := 64) rfl ?_); refine goesL_ (some 63) rfl rfl Try.func64 (by kernel_rfl) rfl #[.string t713] rfl (by (try simp only [List.map_toArray, List.map_cons, List.map_nil]); first | done | rfl | (simp only [List.length_drop, List.length_take]; rfl)) ?_; (with_reducible refine (laws_bare.calls kj5 t713 t714 _ A56.out).mono ?_); rintro e w' ⟨rfl, ⟨nd, rfl⟩⟩; refine ⟨_, rfl, ?_⟩))
          (try simp only [Act.put, List.setIfInBounds_toArray, List.set_cons_zero, List.set_cons_succ])
          go_cut [7] (fun v7 wc => ∃ (kq : Nat) (x7_56 : ByteArray), v7 = .string x7_56 ∧ Aside0 (laws_FnHashBlockApart.j1 kq l0 x7_56 t714 = some r) ∧ Aside0 (kq ≤ kj5) ∧ Aside0 (wc.heap[gb669]? = some (.cells #[.int .u64 t661, .int .u64 t662, .int .u64 t663, .int .u64 t664] 30 (0, 0))) ∧ Aside0 (wc.heap[gb670]? = some (.cells #[.int .u64 t665, .int .u64 t666, .int .u64 t667, .int .u64 t668] 30 (0, 0))) ∧ Aside0 (wc.heap[gb682]? = some (.cells #[.int .u64 t674, .int .u64 t675, .int .u64 t676, .int .u64 t677] 30 (0, 0))) ∧ Aside0 (wc.heap[gb683]? = some (.cells #[.int .u64 t678, .int .u64 t679, .int .u64 t680, .int .u64 t681] 30 (0, 0))) ∧ Aside0 (Below w.heap.size w wc))
          case first =>
            have H := HC57.out
            clear HC57
            by_cases c62 : (t709.size : Int) > 23
            · rw [if_pos c62] at H
              have c62b0 : decide (23 < (t709.size : Int)) = true := decide_eq_true c62
              have c62b1 : decide (23 < t709.size) = true := decide_eq_true (by omega)
              clear c62
              (first | rw [c62b0] | (simp only [i64_w, i32_w]; rw [c62b0]) | skip)
              by_cases c63 : 0 ≤ 23
              · rw [if_pos c63] at H
                have c63b0 := eq_true c63
                have c63b1 : decide (0 ≤ 23) = true := decide_eq_true c63
                clear c63
                by_cases c64 : 23 ≤ (t709.size : Int)
                · rw [if_pos c64] at H
                  have c64b0 := eq_true c64
                  have c64b1 : decide (23 ≤ (t709.size : Int)) = true := decide_eq_true c64
                  clear c64
                  have H' := Aside0.mk H
                  clear H
                  go_wp2
                  go_meet
                  case rel => exact ⟨_, (t709.extract 0 23), (by first | rfl | (simp; done) | (simp [*]; done)), H', ⟨by have := HJ5.out; first | omega | exact Nat.le_refl _⟩, ⟨by (with_reducible repeat (first | refine blk_drewN ?_ _ | refine blk_drew ?_ | refine blk_alloc ?_ _)); exact BK669.out⟩, ⟨by (with_reducible repeat (first | refine blk_drewN ?_ _ | refine blk_drew ?_ | refine blk_alloc ?_ _)); exact BK670.out⟩, ⟨by (with_reducible repeat (first | refine blk_drewN ?_ _ | refine blk_drew ?_ | refine blk_alloc ?_ _)); exact BK682.out⟩, ⟨by (with_reducible repeat (first | refine blk_drewN ?_ _ | refine blk_drew ?_ | refine blk_alloc ?_ _)); exact BK683.out⟩, ⟨by repeat (first | (with_reducible first | exact HB.out | apply below_alloc | apply pw_below_drewN | apply below_drew1 | refine below_set ?_ GE669.out | refine below_set ?_ GE670.out | refine below_set ?_ GE682.out | refine below_set ?_ GE683.out) | exact HB.out)⟩⟩
                · rw [if_neg c64] at H
                  exact absurd H (by simp)
              · rw [if_neg c63] at H
                exact absurd H (by simp)
            · rw [if_neg c62] at H
              have c62b0 : decide (23 < (t709.size : Int)) = false := decide_eq_false c62
              have c62b1 : decide (23 < t709.size) = false := decide_eq_false (by omega)
              clear c62
              (first | rw [c62b0] | (simp only [i64_w, i32_w]; rw [c62b0]) | skip)
              have H' := Aside0.mk H
              clear H
              go_wp2
              go_meet
              case rel => exact ⟨_, (t709), (by first | rfl | (simp; done) | (simp [*]; done)), H', ⟨by have := HJ5.out; first | omega | exact Nat.le_refl _⟩, ⟨by (with_reducible repeat (first | refine blk_drewN ?_ _ | refine blk_drew ?_ | refine blk_alloc ?_ _)); exact BK669.out⟩, ⟨by (with_reducible repeat (first | refine blk_drewN ?_ _ | refine blk_drew ?_ | refine blk_alloc ?_ _)); exact BK670.out⟩, ⟨by (with_reducible repeat (first | refine blk_drewN ?_ _ | refine blk_drew ?_ | refine blk_alloc ?_ _)); exact BK682.out⟩, ⟨by (with_reducible repeat (first | refine blk_drewN ?_ _ | refine blk_drew ?_ | refine blk_alloc ?_ _)); exact BK683.out⟩, ⟨by repeat (first | (with_reducible first | exact HB.out | apply below_alloc | apply pw_below_drewN | apply below_drew1 | refine below_set ?_ GE669.out | refine below_set ?_ GE670.out | refine below_set ?_ GE682.out | refine below_set ?_ GE683.out) | exact HB.out)⟩⟩
          case rest =>
            clear HC57
            try clear p2
            try clear c3
            try clear c4
            try clear c5
            try clear c6
            try clear c34
            try clear c34b0
            try clear c34b1
            try clear c34b2
            try clear c44
            try clear c45
            try clear c51
            try clear c62
            try clear c62b0
            try clear c62b1
            try clear c63
            try clear c63b0
            try clear c63b1
            try clear c64
            try clear c64b0
            try clear c64b1
            try clear p2
            obtain ⟨kq, x7_56, rfl, HA, HJ56, BK669, BK670, BK682, BK683, HB⟩ := hcut
            cases kq with
            | zero => exact absurd HA.out (by simp [laws_FnHashBlockApart.j1])
            | succ kj56 =>
              have H := HA.out
              clear HA
              simp only [laws_FnHashBlockApart.j1] at H
              have HC65 := Aside0.mk H
              clear H
              go_upto_if 71 with (fail)
              go_cut [8] (fun v8 wc => ∃ (kq : Nat) (x8_64 : ByteArray), v8 = .string x8_64 ∧ Aside0 (laws_FnHashBlockApart.j2 kq l0 x7_56 x8_64 = some r) ∧ Aside0 (kq ≤ kj56) ∧ Aside0 (wc.heap[gb669]? = some (.cells #[.int .u64 t661, .int .u64 t662, .int .u64 t663, .int .u64 t664] 30 (0, 0))) ∧ Aside0 (wc.heap[gb670]? = some (.cells #[.int .u64 t665, .int .u64 t666, .int .u64 t667, .int .u64 t668] 30 (0, 0))) ∧ Aside0 (wc.heap[gb682]? = some (.cells #[.int .u64 t674, .int .u64 t675, .int .u64 t676, .int .u64 t677] 30 (0, 0))) ∧ Aside0 (wc.heap[gb683]? = some (.cells #[.int .u64 t678, .int .u64 t679, .int .u64 t680, .int .u64 t681] 30 (0, 0))) ∧ Aside0 (Below w.heap.size w wc))
              case first =>
                have H := HC65.out
                clear HC65
                by_cases c66 : (t714.size : Int) > 23
                · rw [if_pos c66] at H
                  have c66b0 : decide (23 < (t714.size : Int)) = true := decide_eq_true c66
                  have c66b1 : decide (23 < t714.size) = true := decide_eq_true (by omega)
                  clear c66
                  (first | rw [c66b0] | (simp only [i64_w, i32_w]; rw [c66b0]) | skip)
                  by_cases c67 : 0 ≤ 23
                  · rw [if_pos c67] at H
                    have c67b0 := eq_true c67
                    have c67b1 : decide (0 ≤ 23) = true := decide_eq_true c67
                    clear c67
                    by_cases c68 : 23 ≤ (t714.size : Int)
                    · rw [if_pos c68] at H
                      have c68b0 := eq_true c68
                      have c68b1 : decide (23 ≤ (t714.size : Int)) = true := decide_eq_true c68
                      clear c68
                      have H' := Aside0.mk H
                      clear H
                      go_wp2
                      go_meet
                      case rel => exact ⟨_, (t714.extract 0 23), (by first | rfl | (simp; done) | (simp [*]; done)), H', ⟨by have := HJ5.out; have := HJ56.out; first | omega | exact Nat.le_refl _⟩, ⟨by (with_reducible repeat (first | refine blk_drewN ?_ _ | refine blk_drew ?_ | refine blk_alloc ?_ _)); exact BK669.out⟩, ⟨by (with_reducible repeat (first | refine blk_drewN ?_ _ | refine blk_drew ?_ | refine blk_alloc ?_ _)); exact BK670.out⟩, ⟨by (with_reducible repeat (first | refine blk_drewN ?_ _ | refine blk_drew ?_ | refine blk_alloc ?_ _)); exact BK682.out⟩, ⟨by (with_reducible repeat (first | refine blk_drewN ?_ _ | refine blk_drew ?_ | refine blk_alloc ?_ _)); exact BK683.out⟩, ⟨by repeat (first | (with_reducible first | exact HB.out | apply below_alloc | apply pw_below_drewN | apply below_drew1 | refine below_set ?_ GE669.out | refine below_set ?_ GE670.out | refine below_set ?_ GE682.out | refine below_set ?_ GE683.out) | exact HB.out)⟩⟩
                    · rw [if_neg c68] at H
                      exact absurd H (by simp)
                  · rw [if_neg c67] at H
                    exact absurd H (by simp)
                · rw [if_neg c66] at H
                  have c66b0 : decide (23 < (t714.size : Int)) = false := decide_eq_false c66
                  have c66b1 : decide (23 < t714.size) = false := decide_eq_false (by omega)
                  clear c66
                  (first | rw [c66b0] | (simp only [i64_w, i32_w]; rw [c66b0]) | skip)
                  have H' := Aside0.mk H
                  clear H
                  go_wp2
                  go_meet
                  case rel => exact ⟨_, (t714), (by first | rfl | (simp; done) | (simp [*]; done)), H', ⟨by have := HJ5.out; have := HJ56.out; first | omega | exact Nat.le_refl _⟩, ⟨by (with_reducible repeat (first | refine blk_drewN ?_ _ | refine blk_drew ?_ | refine blk_alloc ?_ _)); exact BK669.out⟩, ⟨by (with_reducible repeat (first | refine blk_drewN ?_ _ | refine blk_drew ?_ | refine blk_alloc ?_ _)); exact BK670.out⟩, ⟨by (with_reducible repeat (first | refine blk_drewN ?_ _ | refine blk_drew ?_ | refine blk_alloc ?_ _)); exact BK682.out⟩, ⟨by (with_reducible repeat (first | refine blk_drewN ?_ _ | refine blk_drew ?_ | refine blk_alloc ?_ _)); exact BK683.out⟩, ⟨by repeat (first | (with_reducible first | exact HB.out | apply below_alloc | apply pw_below_drewN | apply below_drew1 | refine below_set ?_ GE669.out | refine below_set ?_ GE670.out | refine below_set ?_ GE682.out | refine below_set ?_ GE683.out) | exact HB.out)⟩⟩
              case rest =>
                clear HC65
                try clear p2
                try clear c3
                try clear c4
                try clear c5
                try clear c6
                try clear c34
                try clear c34b0
                try clear c34b1
                try clear c34b2
                try clear c44
                try clear c45
                try clear c51
                try clear c62
                try clear c62b0
                try clear c62b1
                try clear c63
                try clear c63b0
                try clear c63b1
                try clear c64
                try clear c64b0
                try clear c64b1
                try clear c65
                try clear c66
                try clear c66b0
                try clear c66b1
                try clear c67
                try clear c67b0
                try clear c67b1
                try clear c68
                try clear c68b0
                try clear c68b1
                try clear p2
                obtain ⟨kq, x8_64, rfl, HA, HJ64, BK669, BK670, BK682, BK683, HB⟩ := hcut
                cases kq with
                | zero => exact absurd HA.out (by simp [laws_FnHashBlockApart.j2])
                | succ kj64 =>
                  have H := HA.out
                  clear HA
                  simp only [laws_FnHashBlockApart.j2] at H
                  replace H := Option.bind_eq_some_iff.mp H
                  obtain ⟨t715, A690, H⟩ := H
                  replace H : (if (wrap64 ((x7_56.size : Int) + 1)) = 0 then (none) else ((impl_HashOf.f kj64 x7_56).bind fun bt716 => ((impl_HashOf.f kj64 x8_64).bind fun bt720 => (if ((bt716.1 == bt720.1 && (bt716.2.1 == bt720.2.1 && (bt716.2.2.1 == bt720.2.2.1 && (bt716.2.2.2 == bt720.2.2.2)))) == (x7_56.toList == x8_64.toList)) = true then (if 0 ≤ (Int.tmod (wrap64 (t715)) (wrap64 ((x7_56.size : Int) + 1))) then (if (Int.tmod (wrap64 (t715)) (wrap64 ((x7_56.size : Int) + 1))) ≤ (x7_56.size : Int) then (if (x7_56.extract 0 ((Int.tmod (wrap64 (t715)) (wrap64 ((x7_56.size : Int) + 1))) : Int).toNat).size + 1 ≤ 9223372036854775807 then (if ((x7_56.extract 0 ((Int.tmod (wrap64 (t715)) (wrap64 ((x7_56.size : Int) + 1))) : Int).toNat) ++ (⟨#[255]⟩ : ByteArray)).size + (x7_56.extract ((Int.tmod (wrap64 (t715)) (wrap64 ((x7_56.size : Int) + 1))) : Int).toNat x7_56.size).size ≤ 9223372036854775807 then ((impl_HashOf.f kj64 (((x7_56.extract 0 ((Int.tmod (wrap64 (t715)) (wrap64 ((x7_56.size : Int) + 1))) : Int).toNat) ++ (⟨#[255]⟩ : ByteArray)) ++ (x7_56.extract ((Int.tmod (wrap64 (t715)) (wrap64 ((x7_56.size : Int) + 1))) : Int).toNat x7_56.size))).bind fun bt724 => ((impl_HashOf.f kj64 x7_56).bind fun bt728 => (some (bt724.1 == bt728.1 && (bt724.2.1 == bt728.2.1 && (bt724.2.2.1 == bt728.2.2.1 && (bt724.2.2.2 == bt728.2.2.2))))))) else (none)) else (none)) else (none)) else (none)) else (some false))))) = some r := H
                  have A69 := Aside0.mk A690
                  clear A690
                  by_cases c70 : (wrap64 ((x7_56.size : Int) + 1)) = 0
                  · rw [if_pos c70] at H
                    exact absurd H (by simp)
                  · rw [if_neg c70] at H
                    have c70b0 : ((wrap64 ((x7_56.size : Int) + 1)) == 0) = false := beq_eq_false_iff_ne.mpr c70
                    have c70b1 : ((wrap64 ((x7_56.size : Int) + 1)) != 0) = true := bne_iff_ne.mpr c70
                    replace H := Option.bind_eq_some_iff.mp H
                    obtain ⟨⟨t716, t717, t718, t719⟩, A710, H⟩ := H
                    replace H : ((impl_HashOf.f kj64 x8_64).bind fun bt720 => (if ((t716 == bt720.1 && (t717 == bt720.2.1 && (t718 == bt720.2.2.1 && (t719 == bt720.2.2.2)))) == (x7_56.toList == x8_64.toList)) = true then (if 0 ≤ (Int.tmod (wrap64 (t715)) (wrap64 ((x7_56.size : Int) + 1))) then (if (Int.tmod (wrap64 (t715)) (wrap64 ((x7_56.size : Int) + 1))) ≤ (x7_56.size : Int) then (if (x7_56.extract 0 ((Int.tmod (wrap64 (t715)) (wrap64 ((x7_56.size : Int) + 1))) : Int).toNat).size + 1 ≤ 9223372036854775807 then (if ((x7_56.extract 0 ((Int.tmod (wrap64 (t715)) (wrap64 ((x7_56.size : Int) + 1))) : Int).toNat) ++ (⟨#[255]⟩ : ByteArray)).size + (x7_56.extract ((Int.tmod (wrap64 (t715)) (wrap64 ((x7_56.size : Int) + 1))) : Int).toNat x7_56.size).size ≤ 9223372036854775807 then ((impl_HashOf.f kj64 (((x7_56.extract 0 ((Int.tmod (wrap64 (t715)) (wrap64 ((x7_56.size : Int) + 1))) : Int).toNat) ++ (⟨#[255]⟩ : ByteArray)) ++ (x7_56.extract ((Int.tmod (wrap64 (t715)) (wrap64 ((x7_56.size : Int) + 1))) : Int).toNat x7_56.size))).bind fun bt724 => ((impl_HashOf.f kj64 x7_56).bind fun bt728 => (some (bt724.1 == bt728.1 && (bt724.2.1 == bt728.2.1 && (bt724.2.2.1 == bt728.2.2.1 && (bt724.2.2.2 == bt728.2.2.2))))))) else (none)) else (none)) else (none)) else (none)) else (some false))) = some r := H
                    have A71 := Aside0.mk A710
                    clear A710
                    replace H := Option.bind_eq_some_iff.mp H
                    obtain ⟨⟨t720, t721, t722, t723⟩, A720, H⟩ := H
                    replace H : (if ((t716 == t720 && (t717 == t721 && (t718 == t722 && (t719 == t723)))) == (x7_56.toList == x8_64.toList)) = true then (if 0 ≤ (Int.tmod (wrap64 (t715)) (wrap64 ((x7_56.size : Int) + 1))) then (if (Int.tmod (wrap64 (t715)) (wrap64 ((x7_56.size : Int) + 1))) ≤ (x7_56.size : Int) then (if (x7_56.extract 0 ((Int.tmod (wrap64 (t715)) (wrap64 ((x7_56.size : Int) + 1))) : Int).toNat).size + 1 ≤ 9223372036854775807 then (if ((x7_56.extract 0 ((Int.tmod (wrap64 (t715)) (wrap64 ((x7_56.size : Int) + 1))) : Int).toNat) ++ (⟨#[255]⟩ : ByteArray)).size + (x7_56.extract ((Int.tmod (wrap64 (t715)) (wrap64 ((x7_56.size : Int) + 1))) : Int).toNat x7_56.size).size ≤ 9223372036854775807 then ((impl_HashOf.f kj64 (((x7_56.extract 0 ((Int.tmod (wrap64 (t715)) (wrap64 ((x7_56.size : Int) + 1))) : Int).toNat) ++ (⟨#[255]⟩ : ByteArray)) ++ (x7_56.extract ((Int.tmod (wrap64 (t715)) (wrap64 ((x7_56.size : Int) + 1))) : Int).toNat x7_56.size))).bind fun bt724 => ((impl_HashOf.f kj64 x7_56).bind fun bt728 => (some (bt724.1 == bt728.1 && (bt724.2.1 == bt728.2.1 && (bt724.2.2.1 == bt728.2.2.1 && (bt724.2.2.2 == bt728.2.2.2))))))) else (none)) else (none)) else (none)) else (none)) else (some false)) = some r := H
                    have A72 := Aside0.mk A720
                    clear A720
                    by_cases c73 : ((t716 == t720 && (t717 == t721 && (t718 == t722 && (t719 == t723)))) == (x7_56.toList == x8_64.toList)) = true
                    · rw [if_pos c73] at H
                      have c73b0 : ((t716 == t720 && (t717 == t721 && (t718 == t722 && (t719 == t723)))) == (x7_56.toList == x8_64.toList)) = true := c73
                      (try (have c73b1 : decide ((t716 == t720 && (t717 == t721 && (t718 == t722 && (t719 == t723)))) = (x7_56.toList == x8_64.toList)) = true := by simpa using c73))
                      (try (have c73b2 : ((t716 == t720 && (t717 == t721 && (t718 == t722 && (t719 == t723)))) == (x7_56.toList == x8_64.toList)) = true := by simpa using c73))
                      clear c73
                      obtain ⟨ji74, hji74⟩ : ∃ j_ : Int, (Int.tmod (wrap64 (t715)) (wrap64 ((x7_56.size : Int) + 1))) = j_ := ⟨_, rfl⟩
                      replace H : (if 0 ≤ (ji74) then (if (ji74) ≤ (x7_56.size : Int) then (if (x7_56.extract 0 ((ji74) : Int).toNat).size + 1 ≤ 9223372036854775807 then (if ((x7_56.extract 0 ((ji74) : Int).toNat) ++ (⟨#[255]⟩ : ByteArray)).size + (x7_56.extract ((ji74) : Int).toNat x7_56.size).size ≤ 9223372036854775807 then ((impl_HashOf.f kj64 (((x7_56.extract 0 ((ji74) : Int).toNat) ++ (⟨#[255]⟩ : ByteArray)) ++ (x7_56.extract ((ji74) : Int).toNat x7_56.size))).bind fun bt724 => ((impl_HashOf.f kj64 x7_56).bind fun bt728 => (some (bt724.1 == bt728.1 && (bt724.2.1 == bt728.2.1 && (bt724.2.2.1 == bt728.2.2.1 && (bt724.2.2.2 == bt728.2.2.2))))))) else (none)) else (none)) else (none)) else (none)) = some r := by first | (rw [hji74] at H; exact H) | (simp only [hji74] at H ⊢; exact H)
                      (try rw [hji74] at A69)
                      (try rw [hji74] at A71)
                      (try rw [hji74] at A72)
                      by_cases c75 : 0 ≤ (ji74)
                      · rw [if_pos c75] at H
                        have c75b0 := eq_true c75
                        have c75b1 : decide (0 ≤ (ji74)) = true := decide_eq_true c75
                        clear c75
                        by_cases c76 : (ji74) ≤ (x7_56.size : Int)
                        · rw [if_pos c76] at H
                          have c76b0 := eq_true c76
                          have c76b1 : decide ((ji74) ≤ (x7_56.size : Int)) = true := decide_eq_true c76
                          clear c76
                          by_cases c77 : (x7_56.extract 0 ((ji74) : Int).toNat).size + 1 ≤ 9223372036854775807
                          · rw [if_pos c77] at H
                            have c77b0 := eq_true c77
                            have c77b1 : decide ((x7_56.extract 0 ((ji74) : Int).toNat).size + 1 ≤ 9223372036854775807) = true := decide_eq_true c77
                            try have c77b2 : (9223372036854775807 < (x7_56.extract 0 ((ji74) : Int).toNat).size + 1) = False := eq_false (Nat.not_lt.2 c77)
                            have c78b0 := eq_true (of_decide_eq_true (by first | (with_reducible assumption) | assumption) : 0 ≤ (ji74))
                            have c79b0 := eq_true (of_decide_eq_true (by first | (with_reducible assumption) | assumption) : (ji74) ≤ (x7_56.size : Int))
                            by_cases c80 : ((x7_56.extract 0 ((ji74) : Int).toNat) ++ (⟨#[255]⟩ : ByteArray)).size + (x7_56.extract ((ji74) : Int).toNat x7_56.size).size ≤ 9223372036854775807
                            · rw [if_pos c80] at H
                              have c80b0 := eq_true c80
                              have c80b1 : decide (((x7_56.extract 0 ((ji74) : Int).toNat) ++ (⟨#[255]⟩ : ByteArray)).size + (x7_56.extract ((ji74) : Int).toNat x7_56.size).size ≤ 9223372036854775807) = true := decide_eq_true c80
                              try (have c80b1n := c80b1; simp only [ByteArray.size_append, Int.natCast_add] at c80b1n)
                              try have c80b2 : (9223372036854775807 < ((x7_56.extract 0 ((ji74) : Int).toNat) ++ (⟨#[255]⟩ : ByteArray)).size + (x7_56.extract ((ji74) : Int).toNat x7_56.size).size) = False := eq_false (Nat.not_lt.2 c80)
                              replace H := Option.bind_eq_some_iff.mp H
                              obtain ⟨⟨t724, t725, t726, t727⟩, A810, H⟩ := H
                              replace H : ((impl_HashOf.f kj64 x7_56).bind fun bt728 => (some (t724 == bt728.1 && (t725 == bt728.2.1 && (t726 == bt728.2.2.1 && (t727 == bt728.2.2.2)))))) = some r := H
                              have A81 := Aside0.mk A810
                              clear A810
                              replace H := Option.bind_eq_some_iff.mp H
                              obtain ⟨⟨t728, t729, t730, t731⟩, A820, H⟩ := H
                              replace H : (some (t724 == t728 && (t725 == t729 && (t726 == t730 && (t727 == t731))))) = some r := H
                              have A82 := Aside0.mk A820
                              clear A820
                              obtain rfl := Option.some.inj H
                              try go_wp2_with (first | ((with_reducible refine gate_callee (f := 66) rfl ?_); refine goesL_ (some 75) rfl rfl Try.func66 (by kernel_rfl) rfl #[.slice A0 l0.length c0, .int .i64 6] rfl (by (try simp only [List.map_toArray, List.map_cons, List.map_nil]); first | done | rfl | (simp only [List.length_drop, List.length_take]; rfl)) ?_; (with_reducible refine (laws_at.calls _ _ l0 6 t715 _ ?side1 ?side2 A69.out).mono ?_); (case side1 => repeat (first | exact (Kd.C_below HR0.out HB.out) | (with_reducible refine Kd.C_alloc ?_ _) | (with_reducible refine Kd.C_drewN ?_ _) | (with_reducible refine Kd.C_drew ?_))); (case side2 => exact HC0.out); rintro e w' ⟨rfl, ⟨nd, rfl⟩⟩; refine ⟨_, rfl, ?_⟩))
                              (try (rw [drewN_self wc]; generalize hq_ : World.drewN wc _ = wc; have n0_ : Aside0 (wc.heap[gb669]? = some (.cells #[.int .u64 t661, .int .u64 t662, .int .u64 t663, .int .u64 t664] 30 (0, 0))) := ⟨by rw [← hq_]; exact (by (with_reducible repeat (first | refine blk_drewN ?_ _ | refine blk_drew ?_ | refine blk_alloc ?_ _)); exact BK669.out)⟩; have n1_ : Aside0 (wc.heap[gb670]? = some (.cells #[.int .u64 t665, .int .u64 t666, .int .u64 t667, .int .u64 t668] 30 (0, 0))) := ⟨by rw [← hq_]; exact (by (with_reducible repeat (first | refine blk_drewN ?_ _ | refine blk_drew ?_ | refine blk_alloc ?_ _)); exact BK670.out)⟩; have n2_ : Aside0 (wc.heap[gb682]? = some (.cells #[.int .u64 t674, .int .u64 t675, .int .u64 t676, .int .u64 t677] 30 (0, 0))) := ⟨by rw [← hq_]; exact (by (with_reducible repeat (first | refine blk_drewN ?_ _ | refine blk_drew ?_ | refine blk_alloc ?_ _)); exact BK682.out)⟩; have n3_ : Aside0 (wc.heap[gb683]? = some (.cells #[.int .u64 t678, .int .u64 t679, .int .u64 t680, .int .u64 t681] 30 (0, 0))) := ⟨by rw [← hq_]; exact (by (with_reducible repeat (first | refine blk_drewN ?_ _ | refine blk_drew ?_ | refine blk_alloc ?_ _)); exact BK683.out)⟩; have n4_ : Aside0 (Below w.heap.size w wc) := ⟨by rw [← hq_]; exact (by repeat (first | (with_reducible first | exact HB.out | apply below_alloc | apply pw_below_drewN | apply below_drew1 | refine below_set ?_ GE669.out | refine below_set ?_ GE670.out | refine below_set ?_ GE682.out | refine below_set ?_ GE683.out) | exact HB.out))⟩; clear BK669 BK670 BK682 BK683 HB hq_; have BK669 := n0_; have BK670 := n1_; have BK682 := n2_; have BK683 := n3_; have HB := n4_; clear n0_ n1_ n2_ n3_ n4_))
                              have n0_ := Aside0.mk (blk_drew BK669.out)
                              have n1_ := Aside0.mk (blk_drew BK670.out)
                              have n2_ := Aside0.mk (blk_drew BK682.out)
                              have n3_ := Aside0.mk (blk_drew BK683.out)
                              have n4_ := Aside0.mk (below_drew1 HB.out)
                              clear BK669
                              clear BK670
                              clear BK682
                              clear BK683
                              clear HB
                              have BK669 := n0_
                              have BK670 := n1_
                              have BK682 := n2_
                              have BK683 := n3_
                              have HB := n4_
                              clear n0_ n1_ n2_ n3_ n4_
                              refine start_ (n := 24) (S := fun w' => True) (ds := []) #[false, false, false, false, false, false, false, false, false, false, false, false, false, false, false, false, false, false, false, false, false, false, false, false] (by kernel_rfl) rfl rfl trivial (fun hHeld => ?_); refine with_tabW laws_FnHashBlockApart.tab14 laws_FnHashBlockApart.bits14 (fun HT_ HW_ => ?_)
                              generalize wc.drew = w83 at BK669 BK670 BK682 BK683 HB hHeld ⊢
                              refine pure_ (i := 0) (N := some 81) (v := ?_) (a' := ?_) #[true, false, false, false, false, false, false, false, false, false, false, false, false, false, false, false, false, false, false, false, false, false, false, false] rfl rfl (any_of HT_.out (by kernel_rfl)) (fun _ _ _ h => h) (Or.inl ⟨by rfl, ?_⟩) ?_ ?_
                              rotate_left
                              · intro w'
                                go_simp
                                first | with_reducible rfl | (rw [if_neg (by intro h_; (try simp only [ByteArray.size_append, ByteArray.size_extract, eq_iff_iff, iff_true, show (⟨#[255]⟩ : ByteArray).size = 1 from rfl] at *); omega)]; first | done | rfl)
                              rotate_left
                              · simp only [Act.put, List.setIfInBounds_toArray, List.set_cons_zero, List.set_cons_succ, i64_w, i32_w]
                                rfl
                              refine pure_ (i := 2) (N := some 83) (v := ?_) (a' := ?_) #[true, false, true, false, false, false, false, false, false, false, false, false, false, false, false, false, false, false, false, false, false, false, false, false] rfl rfl (any_of HT_.out (by kernel_rfl)) (fun _ _ _ h => h) (Or.inl ⟨by rfl, ?_⟩) ?_ ?_
                              rotate_left
                              · intro w'
                                go_simp
                                first | with_reducible rfl | (rw [if_neg (by intro h_; (try simp only [ByteArray.size_append, ByteArray.size_extract, eq_iff_iff, iff_true, show (⟨#[255]⟩ : ByteArray).size = 1 from rfl] at *); omega)]; first | done | rfl)
                              rotate_left
                              · simp only [Act.put, List.setIfInBounds_toArray, List.set_cons_zero, List.set_cons_succ, i64_w, i32_w]
                                rfl
                              refine pure_ (i := 5) (N := some 86) (v := ?_) (a' := ?_) #[true, false, true, false, false, true, false, false, false, false, false, false, false, false, false, false, false, false, false, false, false, false, false, false] rfl rfl (any_of HT_.out (by kernel_rfl)) (fun _ _ _ h => h) (Or.inl ⟨by rfl, ?_⟩) ?_ ?_
                              rotate_left
                              · intro w'
                                go_simp
                                first | with_reducible rfl | (rw [if_neg (by intro h_; (try simp only [ByteArray.size_append, ByteArray.size_extract, eq_iff_iff, iff_true, show (⟨#[255]⟩ : ByteArray).size = 1 from rfl] at *); omega)]; first | done | rfl)
                              rotate_left
                              · simp only [Act.put, List.setIfInBounds_toArray, List.set_cons_zero, List.set_cons_succ, i64_w, i32_w]
                                rfl
                              refine pure_ (i := 6) (N := some 87) (v := ?_) (a' := ?_) #[true, false, true, false, false, true, true, false, false, false, false, false, false, false, false, false, false, false, false, false, false, false, false, false] rfl rfl (any_of HT_.out (by kernel_rfl)) (fun _ _ _ h => h) (Or.inl ⟨by rfl, ?_⟩) ?_ ?_
                              rotate_left
                              · intro w'
                                go_simp
                                first | with_reducible rfl | (rw [if_neg (by intro h_; (try simp only [ByteArray.size_append, ByteArray.size_extract, eq_iff_iff, iff_true, show (⟨#[255]⟩ : ByteArray).size = 1 from rfl] at *); omega)]; first | done | rfl)
                              rotate_left
                              · simp only [Act.put, List.setIfInBounds_toArray, List.set_cons_zero, List.set_cons_succ, i64_w, i32_w]
                                rfl
                              refine pure_ (i := 7) (N := some 88) (v := ?_) (a' := ?_) #[true, false, true, false, false, true, true, true, false, false, false, false, false, false, false, false, false, false, false, false, false, false, false, false] rfl rfl (any_of HT_.out (by kernel_rfl)) (fun _ _ _ h => h) (Or.inl ⟨by rfl, ?_⟩) ?_ ?_
                              rotate_left
                              · intro w'
                                go_simp
                                first | with_reducible rfl | (rw [if_neg (by intro h_; (try simp only [ByteArray.size_append, ByteArray.size_extract, eq_iff_iff, iff_true, show (⟨#[255]⟩ : ByteArray).size = 1 from rfl] at *); omega)]; first | done | rfl)
                              rotate_left
                              · simp only [Act.put, List.setIfInBounds_toArray, List.set_cons_zero, List.set_cons_succ, i64_w, i32_w]
                                rfl
                              refine one_ (i := 1) (N := some 82) #[true, true, true, false, false, true, true, true, false, false, false, false, false, false, false, false, false, false, false, false, false, false, false, false] rfl rfl (one_of HT_.out (by kernel_rfl)) (by decide) (fun K hK => ?_)
                              refine goes_ Try.func53 (by kernel_rfl) rfl #[.string x7_56] (by rfl) rfl rfl (by (try simp only [List.map_toArray, List.map_cons, List.map_nil]); first | done | rfl | (simp only [List.length_drop, List.length_take]; rfl)) ?_
                              with_reducible refine (impl_HashOf.calls kj64 x7_56 t716 t717 t718 t719 _ A71.out).mono ?_
                              rintro e w84 ⟨rfl, hb⟩
                              refine ⟨_, rfl, ?_⟩
                              have n0_ := Aside0.mk (blk_below (g := gb669) (o := .cells #[.int .u64 t661, .int .u64 t662, .int .u64 t663, .int .u64 t664] 30 (0, 0)) (by (with_reducible repeat (first | refine blk_drewN ?_ _ | refine blk_drew ?_ | refine blk_alloc ?_ _)); exact BK669.out) hb)
                              have n1_ := Aside0.mk (blk_below (g := gb670) (o := .cells #[.int .u64 t665, .int .u64 t666, .int .u64 t667, .int .u64 t668] 30 (0, 0)) (by (with_reducible repeat (first | refine blk_drewN ?_ _ | refine blk_drew ?_ | refine blk_alloc ?_ _)); exact BK670.out) hb)
                              have n2_ := Aside0.mk (blk_below (g := gb682) (o := .cells #[.int .u64 t674, .int .u64 t675, .int .u64 t676, .int .u64 t677] 30 (0, 0)) (by (with_reducible repeat (first | refine blk_drewN ?_ _ | refine blk_drew ?_ | refine blk_alloc ?_ _)); exact BK682.out) hb)
                              have n3_ := Aside0.mk (blk_below (g := gb683) (o := .cells #[.int .u64 t678, .int .u64 t679, .int .u64 t680, .int .u64 t681] 30 (0, 0)) (by (with_reducible repeat (first | refine blk_drewN ?_ _ | refine blk_drew ?_ | refine blk_alloc ?_ _)); exact BK683.out) hb)
                              have n4_ := Aside0.mk (below_step (by repeat (first | (with_reducible first | exact HB.out | apply below_alloc | apply pw_below_drewN | apply below_drew1 | refine below_set ?_ GE669.out | refine below_set ?_ GE670.out | refine below_set ?_ GE682.out | refine below_set ?_ GE683.out) | exact HB.out)) hb)
                              clear BK669
                              clear BK670
                              clear BK682
                              clear BK683
                              clear HB
                              have BK669 := n0_
                              have BK670 := n1_
                              have BK682 := n2_
                              have BK683 := n3_
                              have HB := n4_
                              clear n0_ n1_ n2_ n3_ n4_
                              (try clear hb)
                              (try clear hb2)
                              (try clear hk)
                              (try clear hi)
                              refine hK.out _ _ trivial (fun hHeld => ?_)
                              clear hK K
                              refine norm_ (a' := ?_) ?_ ?_
                              rotate_left
                              · show Act.put _ (some 82) _ = _
                                simp only [Act.put, List.setIfInBounds_toArray, List.set_cons_zero, List.set_cons_succ, i64_w, i32_w]
                                rfl
                              refine one_ (i := 3) (N := some 84) #[true, true, true, true, false, true, true, true, false, false, false, false, false, false, false, false, false, false, false, false, false, false, false, false] rfl rfl (one_of HT_.out (by kernel_rfl)) (by decide) (fun K hK => ?_)
                              refine goes_ Try.func53 (by kernel_rfl) rfl #[.string x8_64] (by rfl) rfl rfl (by (try simp only [List.map_toArray, List.map_cons, List.map_nil]); first | done | rfl | (simp only [List.length_drop, List.length_take]; rfl)) ?_
                              with_reducible refine (impl_HashOf.calls kj64 x8_64 t720 t721 t722 t723 _ A72.out).mono ?_
                              rintro e w85 ⟨rfl, hb⟩
                              refine ⟨_, rfl, ?_⟩
                              have n0_ := Aside0.mk (blk_below (g := gb669) (o := .cells #[.int .u64 t661, .int .u64 t662, .int .u64 t663, .int .u64 t664] 30 (0, 0)) (by (with_reducible repeat (first | refine blk_drewN ?_ _ | refine blk_drew ?_ | refine blk_alloc ?_ _)); exact BK669.out) hb)
                              have n1_ := Aside0.mk (blk_below (g := gb670) (o := .cells #[.int .u64 t665, .int .u64 t666, .int .u64 t667, .int .u64 t668] 30 (0, 0)) (by (with_reducible repeat (first | refine blk_drewN ?_ _ | refine blk_drew ?_ | refine blk_alloc ?_ _)); exact BK670.out) hb)
                              have n2_ := Aside0.mk (blk_below (g := gb682) (o := .cells #[.int .u64 t674, .int .u64 t675, .int .u64 t676, .int .u64 t677] 30 (0, 0)) (by (with_reducible repeat (first | refine blk_drewN ?_ _ | refine blk_drew ?_ | refine blk_alloc ?_ _)); exact BK682.out) hb)
                              have n3_ := Aside0.mk (blk_below (g := gb683) (o := .cells #[.int .u64 t678, .int .u64 t679, .int .u64 t680, .int .u64 t681] 30 (0, 0)) (by (with_reducible repeat (first | refine blk_drewN ?_ _ | refine blk_drew ?_ | refine blk_alloc ?_ _)); exact BK683.out) hb)
                              have n4_ := Aside0.mk (below_step (by repeat (first | (with_reducible first | exact HB.out | apply below_alloc | apply pw_below_drewN | apply below_drew1 | refine below_set ?_ GE669.out | refine below_set ?_ GE670.out | refine below_set ?_ GE682.out | refine below_set ?_ GE683.out) | exact HB.out)) hb)
                              clear BK669
                              clear BK670
                              clear BK682
                              clear BK683
                              clear HB
                              have BK669 := n0_
                              have BK670 := n1_
                              have BK682 := n2_
                              have BK683 := n3_
                              have HB := n4_
                              clear n0_ n1_ n2_ n3_ n4_
                              (try clear hb)
                              (try clear hb2)
                              (try clear hk)
                              (try clear hi)
                              refine hK.out _ _ trivial (fun hHeld => ?_)
                              clear hK K
                              refine norm_ (a' := ?_) ?_ ?_
                              rotate_left
                              · show Act.put _ (some 84) _ = _
                                simp only [Act.put, List.setIfInBounds_toArray, List.set_cons_zero, List.set_cons_succ, i64_w, i32_w]
                                rfl
                              refine pure_ (i := 4) (N := some 85) (v := ?_) (a' := ?_) #[true, true, true, true, true, true, true, true, false, false, false, false, false, false, false, false, false, false, false, false, false, false, false, false] rfl rfl (any_of HT_.out (by kernel_rfl)) (fun _ _ _ h => h) (Or.inl ⟨by rfl, ?_⟩) ?_ ?_
                              rotate_left
                              · intro w'
                                go_simp
                                first | with_reducible rfl | (rw [if_neg (by intro h_; (try simp only [ByteArray.size_append, ByteArray.size_extract, eq_iff_iff, iff_true, show (⟨#[255]⟩ : ByteArray).size = 1 from rfl] at *); omega)]; first | done | rfl)
                              rotate_left
                              · simp only [Act.put, List.setIfInBounds_toArray, List.set_cons_zero, List.set_cons_succ, i64_w, i32_w]
                                rfl
                              refine pure_ (i := 8) (N := some 89) (v := ?_) (a' := ?_) #[true, true, true, true, true, true, true, true, true, false, false, false, false, false, false, false, false, false, false, false, false, false, false, false] rfl rfl (any_of HT_.out (by kernel_rfl)) (fun _ _ _ h => h) (Or.inl ⟨by rfl, ?_⟩) ?_ ?_
                              rotate_left
                              · intro w'
                                go_simp
                                first | with_reducible rfl | (rw [if_neg (by intro h_; (try simp only [ByteArray.size_append, ByteArray.size_extract, eq_iff_iff, iff_true, show (⟨#[255]⟩ : ByteArray).size = 1 from rfl] at *); omega)]; first | done | rfl)
                              rotate_left
                              · simp only [Act.put, List.setIfInBounds_toArray, List.set_cons_zero, List.set_cons_succ, i64_w, i32_w]
                                rfl
                              refine pure_ (i := 9) (N := some 90) (v := ?_) (a' := ?_) #[true, true, true, true, true, true, true, true, true, true, false, false, false, false, false, false, false, false, false, false, false, false, false, false] rfl rfl (any_of HT_.out (by kernel_rfl)) (fun _ _ _ h => h) (Or.inl ⟨by rfl, ?_⟩) ?_ ?_
                              rotate_left
                              · intro w'
                                go_simp
                                first | with_reducible rfl | (rw [if_neg (by intro h_; (try simp only [ByteArray.size_append, ByteArray.size_extract, eq_iff_iff, iff_true, show (⟨#[255]⟩ : ByteArray).size = 1 from rfl] at *); omega)]; first | done | rfl)
                              rotate_left
                              · simp only [Act.put, List.setIfInBounds_toArray, List.set_cons_zero, List.set_cons_succ, i64_w, i32_w]
                                rfl
                              refine pure_ (i := 10) (N := some 91) (v := ?_) (a' := ?_) #[true, true, true, true, true, true, true, true, true, true, true, false, false, false, false, false, false, false, false, false, false, false, false, false] rfl rfl (any_of HT_.out (by kernel_rfl)) (fun _ _ _ h => h) (Or.inl ⟨by rfl, ?_⟩) ?_ ?_
                              rotate_left
                              · intro w'
                                go_simp
                                first | with_reducible rfl | (rw [if_neg (by intro h_; (try simp only [ByteArray.size_append, ByteArray.size_extract, eq_iff_iff, iff_true, show (⟨#[255]⟩ : ByteArray).size = 1 from rfl] at *); omega)]; first | done | rfl)
                              rotate_left
                              · simp only [Act.put, List.setIfInBounds_toArray, List.set_cons_zero, List.set_cons_succ, i64_w, i32_w]
                                rfl
                              refine pure_ (i := 11) (N := some 92) (v := ?_) (a' := ?_) #[true, true, true, true, true, true, true, true, true, true, true, true, false, false, false, false, false, false, false, false, false, false, false, false] rfl rfl (any_of HT_.out (by kernel_rfl)) (fun _ _ _ h => h) (Or.inl ⟨by rfl, ?_⟩) ?_ ?_
                              rotate_left
                              · intro w'
                                go_simp
                                first | with_reducible rfl | (rw [if_neg (by intro h_; (try simp only [ByteArray.size_append, ByteArray.size_extract, eq_iff_iff, iff_true, show (⟨#[255]⟩ : ByteArray).size = 1 from rfl] at *); omega)]; first | done | rfl)
                              rotate_left
                              · simp only [Act.put, List.setIfInBounds_toArray, List.set_cons_zero, List.set_cons_succ, i64_w, i32_w]
                                rfl
                              refine pure_ (i := 12) (N := some 93) (v := ?_) (a' := ?_) #[true, true, true, true, true, true, true, true, true, true, true, true, true, false, false, false, false, false, false, false, false, false, false, false] rfl rfl (any_of HT_.out (by kernel_rfl)) (fun _ _ _ h => h) (Or.inl ⟨by rfl, ?_⟩) ?_ ?_
                              rotate_left
                              · intro w'
                                go_simp
                                first | with_reducible rfl | (rw [if_neg (by intro h_; (try simp only [ByteArray.size_append, ByteArray.size_extract, eq_iff_iff, iff_true, show (⟨#[255]⟩ : ByteArray).size = 1 from rfl] at *); omega)]; first | done | rfl)
                              rotate_left
                              · simp only [Act.put, List.setIfInBounds_toArray, List.set_cons_zero, List.set_cons_succ, i64_w, i32_w]
                                rfl
                              refine pure_ (i := 13) (N := some 94) (v := ?_) (a' := ?_) #[true, true, true, true, true, true, true, true, true, true, true, true, true, true, false, false, false, false, false, false, false, false, false, false] rfl rfl (any_of HT_.out (by kernel_rfl)) (fun _ _ _ h => h) (Or.inl ⟨by rfl, ?_⟩) ?_ ?_
                              rotate_left
                              · intro w'
                                go_simp
                                first | with_reducible rfl | (rw [if_neg (by intro h_; (try simp only [ByteArray.size_append, ByteArray.size_extract, eq_iff_iff, iff_true, show (⟨#[255]⟩ : ByteArray).size = 1 from rfl] at *); omega)]; first | done | rfl)
                              rotate_left
                              · simp only [Act.put, List.setIfInBounds_toArray, List.set_cons_zero, List.set_cons_succ, i64_w, i32_w]
                                rfl
                              refine pure_ (i := 14) (N := some 95) (v := ?_) (a' := ?_) #[true, true, true, true, true, true, true, true, true, true, true, true, true, true, true, false, false, false, false, false, false, false, false, false] rfl rfl (any_of HT_.out (by kernel_rfl)) (fun _ _ _ h => h) (Or.inl ⟨by rfl, ?_⟩) ?_ ?_
                              rotate_left
                              · intro w'
                                go_simp
                                first | with_reducible rfl | (rw [if_neg (by intro h_; (try simp only [ByteArray.size_append, ByteArray.size_extract, eq_iff_iff, iff_true, show (⟨#[255]⟩ : ByteArray).size = 1 from rfl] at *); omega)]; first | done | rfl)
                              rotate_left
                              · simp only [Act.put, List.setIfInBounds_toArray, List.set_cons_zero, List.set_cons_succ, i64_w, i32_w]
                                rfl
                              refine pure_ (i := 15) (N := some 96) (v := ?_) (a' := ?_) #[true, true, true, true, true, true, true, true, true, true, true, true, true, true, true, true, false, false, false, false, false, false, false, false] rfl rfl (any_of HT_.out (by kernel_rfl)) (fun _ _ _ h => h) (Or.inl ⟨by rfl, ?_⟩) ?_ ?_
                              rotate_left
                              · intro w'
                                go_simp
                                first | with_reducible rfl | (rw [if_neg (by intro h_; (try simp only [ByteArray.size_append, ByteArray.size_extract, eq_iff_iff, iff_true, show (⟨#[255]⟩ : ByteArray).size = 1 from rfl] at *); omega)]; first | done | rfl)
                              rotate_left
                              · simp only [Act.put, List.setIfInBounds_toArray, List.set_cons_zero, List.set_cons_succ, i64_w, i32_w]
                                rfl
                              refine pure_ (i := 16) (N := some 97) (v := ?_) (a' := ?_) #[true, true, true, true, true, true, true, true, true, true, true, true, true, true, true, true, true, false, false, false, false, false, false, false] rfl rfl (any_of HT_.out (by kernel_rfl)) (fun _ _ _ h => h) (Or.inl ⟨by rfl, ?_⟩) ?_ ?_
                              rotate_left
                              · intro w'
                                go_simp
                                first | with_reducible rfl | (rw [if_neg (by intro h_; (try simp only [ByteArray.size_append, ByteArray.size_extract, eq_iff_iff, iff_true, show (⟨#[255]⟩ : ByteArray).size = 1 from rfl] at *); omega)]; first | done | rfl)
                              rotate_left
                              · simp only [Act.put, List.setIfInBounds_toArray, List.set_cons_zero, List.set_cons_succ, i64_w, i32_w]
                                rfl
                              refine pure_ (i := 17) (N := some 98) (v := ?_) (a' := ?_) #[true, true, true, true, true, true, true, true, true, true, true, true, true, true, true, true, true, true, false, false, false, false, false, false] rfl rfl (any_of HT_.out (by kernel_rfl)) (fun _ _ _ h => h) (Or.inl ⟨by rfl, ?_⟩) ?_ ?_
                              rotate_left
                              · intro w'
                                go_simp
                                first | with_reducible rfl | (rw [if_neg (by intro h_; (try simp only [ByteArray.size_append, ByteArray.size_extract, eq_iff_iff, iff_true, show (⟨#[255]⟩ : ByteArray).size = 1 from rfl] at *); omega)]; first | done | rfl)
                              rotate_left
                              · simp only [Act.put, List.setIfInBounds_toArray, List.set_cons_zero, List.set_cons_succ, i64_w, i32_w]
                                rfl
                              refine pure_ (i := 19) (N := some 100) (v := ?_) (a' := ?_) #[true, true, true, true, true, true, true, true, true, true, true, true, true, true, true, true, true, true, false, true, false, false, false, false] rfl rfl (any_of HT_.out (by kernel_rfl)) (fun _ _ _ h => h) (Or.inl ⟨by rfl, ?_⟩) ?_ ?_
                              rotate_left
                              · intro w'
                                go_simp
                                first | with_reducible rfl | (rw [if_neg (by intro h_; (try simp only [ByteArray.size_append, ByteArray.size_extract, eq_iff_iff, iff_true, show (⟨#[255]⟩ : ByteArray).size = 1 from rfl] at *); omega)]; first | done | rfl)
                              rotate_left
                              · simp only [Act.put, List.setIfInBounds_toArray, List.set_cons_zero, List.set_cons_succ, i64_w, i32_w]
                                rfl
                              refine one_ (i := 18) (N := some 99) #[true, true, true, true, true, true, true, true, true, true, true, true, true, true, true, true, true, true, true, true, false, false, false, false] rfl rfl (one_of HT_.out (by kernel_rfl)) (by decide) (fun K hK => ?_)
                              refine goes_ Try.func53 (by kernel_rfl) rfl #[.string (((x7_56.extract 0 ((ji74) : Int).toNat) ++ (⟨#[255]⟩ : ByteArray)) ++ (x7_56.extract ((ji74) : Int).toNat x7_56.size))] (by rfl) rfl rfl (by (try simp only [List.map_toArray, List.map_cons, List.map_nil]); first | done | (simp only [hji74]; rfl) | rfl | (simp only [List.length_drop, List.length_take]; rfl)) ?_
                              with_reducible refine (impl_HashOf.calls kj64 (((x7_56.extract 0 ((ji74) : Int).toNat) ++ (⟨#[255]⟩ : ByteArray)) ++ (x7_56.extract ((ji74) : Int).toNat x7_56.size)) t724 t725 t726 t727 _ A81.out).mono ?_
                              rintro e w86 ⟨rfl, hb⟩
                              refine ⟨_, rfl, ?_⟩
                              have n0_ := Aside0.mk (blk_below (g := gb669) (o := .cells #[.int .u64 t661, .int .u64 t662, .int .u64 t663, .int .u64 t664] 30 (0, 0)) (by (with_reducible repeat (first | refine blk_drewN ?_ _ | refine blk_drew ?_ | refine blk_alloc ?_ _)); exact BK669.out) hb)
                              have n1_ := Aside0.mk (blk_below (g := gb670) (o := .cells #[.int .u64 t665, .int .u64 t666, .int .u64 t667, .int .u64 t668] 30 (0, 0)) (by (with_reducible repeat (first | refine blk_drewN ?_ _ | refine blk_drew ?_ | refine blk_alloc ?_ _)); exact BK670.out) hb)
                              have n2_ := Aside0.mk (blk_below (g := gb682) (o := .cells #[.int .u64 t674, .int .u64 t675, .int .u64 t676, .int .u64 t677] 30 (0, 0)) (by (with_reducible repeat (first | refine blk_drewN ?_ _ | refine blk_drew ?_ | refine blk_alloc ?_ _)); exact BK682.out) hb)
                              have n3_ := Aside0.mk (blk_below (g := gb683) (o := .cells #[.int .u64 t678, .int .u64 t679, .int .u64 t680, .int .u64 t681] 30 (0, 0)) (by (with_reducible repeat (first | refine blk_drewN ?_ _ | refine blk_drew ?_ | refine blk_alloc ?_ _)); exact BK683.out) hb)
                              have n4_ := Aside0.mk (below_step (by repeat (first | (with_reducible first | exact HB.out | apply below_alloc | apply pw_below_drewN | apply below_drew1 | refine below_set ?_ GE669.out | refine below_set ?_ GE670.out | refine below_set ?_ GE682.out | refine below_set ?_ GE683.out) | exact HB.out)) hb)
                              clear BK669
                              clear BK670
                              clear BK682
                              clear BK683
                              clear HB
                              have BK669 := n0_
                              have BK670 := n1_
                              have BK682 := n2_
                              have BK683 := n3_
                              have HB := n4_
                              clear n0_ n1_ n2_ n3_ n4_
                              (try clear hb)
                              (try clear hb2)
                              (try clear hk)
                              (try clear hi)
                              refine hK.out _ _ trivial (fun hHeld => ?_)
                              clear hK K
                              refine norm_ (a' := ?_) ?_ ?_
                              rotate_left
                              · show Act.put _ (some 99) _ = _
                                simp only [Act.put, List.setIfInBounds_toArray, List.set_cons_zero, List.set_cons_succ, i64_w, i32_w]
                                rfl
                              refine one_ (i := 20) (N := some 101) #[true, true, true, true, true, true, true, true, true, true, true, true, true, true, true, true, true, true, true, true, true, false, false, false] rfl rfl (one_of HT_.out (by kernel_rfl)) (by decide) (fun K hK => ?_)
                              refine goes_ Try.func53 (by kernel_rfl) rfl #[.string x7_56] (by rfl) rfl rfl (by (try simp only [List.map_toArray, List.map_cons, List.map_nil]); first | done | rfl | (simp only [List.length_drop, List.length_take]; rfl)) ?_
                              with_reducible refine (impl_HashOf.calls kj64 x7_56 t728 t729 t730 t731 _ A82.out).mono ?_
                              rintro e w87 ⟨rfl, hb⟩
                              refine ⟨_, rfl, ?_⟩
                              have n0_ := Aside0.mk (blk_below (g := gb669) (o := .cells #[.int .u64 t661, .int .u64 t662, .int .u64 t663, .int .u64 t664] 30 (0, 0)) (by (with_reducible repeat (first | refine blk_drewN ?_ _ | refine blk_drew ?_ | refine blk_alloc ?_ _)); exact BK669.out) hb)
                              have n1_ := Aside0.mk (blk_below (g := gb670) (o := .cells #[.int .u64 t665, .int .u64 t666, .int .u64 t667, .int .u64 t668] 30 (0, 0)) (by (with_reducible repeat (first | refine blk_drewN ?_ _ | refine blk_drew ?_ | refine blk_alloc ?_ _)); exact BK670.out) hb)
                              have n2_ := Aside0.mk (blk_below (g := gb682) (o := .cells #[.int .u64 t674, .int .u64 t675, .int .u64 t676, .int .u64 t677] 30 (0, 0)) (by (with_reducible repeat (first | refine blk_drewN ?_ _ | refine blk_drew ?_ | refine blk_alloc ?_ _)); exact BK682.out) hb)
                              have n3_ := Aside0.mk (blk_below (g := gb683) (o := .cells #[.int .u64 t678, .int .u64 t679, .int .u64 t680, .int .u64 t681] 30 (0, 0)) (by (with_reducible repeat (first | refine blk_drewN ?_ _ | refine blk_drew ?_ | refine blk_alloc ?_ _)); exact BK683.out) hb)
                              have n4_ := Aside0.mk (below_step (by repeat (first | (with_reducible first | exact HB.out | apply below_alloc | apply pw_below_drewN | apply below_drew1 | refine below_set ?_ GE669.out | refine below_set ?_ GE670.out | refine below_set ?_ GE682.out | refine below_set ?_ GE683.out) | exact HB.out)) hb)
                              clear BK669
                              clear BK670
                              clear BK682
                              clear BK683
                              clear HB
                              have BK669 := n0_
                              have BK670 := n1_
                              have BK682 := n2_
                              have BK683 := n3_
                              have HB := n4_
                              clear n0_ n1_ n2_ n3_ n4_
                              (try clear hb)
                              (try clear hb2)
                              (try clear hk)
                              (try clear hi)
                              refine hK.out _ _ trivial (fun hHeld => ?_)
                              clear hK K
                              refine norm_ (a' := ?_) ?_ ?_
                              rotate_left
                              · show Act.put _ (some 101) _ = _
                                simp only [Act.put, List.setIfInBounds_toArray, List.set_cons_zero, List.set_cons_succ, i64_w, i32_w]
                                rfl
                              refine pure_ (i := 21) (N := some 102) (v := ?_) (a' := ?_) #[true, true, true, true, true, true, true, true, true, true, true, true, true, true, true, true, true, true, true, true, true, true, false, false] rfl rfl (any_of HT_.out (by kernel_rfl)) (fun _ _ _ h => h) (Or.inl ⟨by rfl, ?_⟩) ?_ ?_
                              rotate_left
                              · intro w'
                                go_simp
                                first | with_reducible rfl | (rw [if_neg (by intro h_; (try simp only [ByteArray.size_append, ByteArray.size_extract, eq_iff_iff, iff_true, show (⟨#[255]⟩ : ByteArray).size = 1 from rfl] at *); omega)]; first | done | rfl)
                              rotate_left
                              · simp only [Act.put, List.setIfInBounds_toArray, List.set_cons_zero, List.set_cons_succ, i64_w, i32_w]
                                rfl
                              refine pure_ (i := 22) (N := some 103) (v := ?_) (a' := ?_) #[true, true, true, true, true, true, true, true, true, true, true, true, true, true, true, true, true, true, true, true, true, true, true, false] rfl rfl (any_of HT_.out (by kernel_rfl)) (fun _ _ _ h => h) (Or.inl ⟨by rfl, ?_⟩) ?_ ?_
                              rotate_left
                              · intro w'
                                go_simp
                                first | with_reducible rfl | (rw [if_neg (by intro h_; (try simp only [ByteArray.size_append, ByteArray.size_extract, eq_iff_iff, iff_true, show (⟨#[255]⟩ : ByteArray).size = 1 from rfl] at *); omega)]; first | done | rfl)
                              rotate_left
                              · simp only [Act.put, List.setIfInBounds_toArray, List.set_cons_zero, List.set_cons_succ, i64_w, i32_w]
                                rfl
                              refine pure_ (i := 23) (N := some 2) (v := ?_) (a' := ?_) #[true, true, true, true, true, true, true, true, true, true, true, true, true, true, true, true, true, true, true, true, true, true, true, true] rfl rfl (any_of HT_.out (by kernel_rfl)) (fun _ _ _ h => h) (Or.inl ⟨by rfl, ?_⟩) ?_ ?_
                              rotate_left
                              · intro w'
                                go_simp
                                first | with_reducible rfl | (rw [if_neg (by intro h_; (try simp only [ByteArray.size_append, ByteArray.size_extract, eq_iff_iff, iff_true, show (⟨#[255]⟩ : ByteArray).size = 1 from rfl] at *); omega)]; first | done | rfl)
                              rotate_left
                              · simp only [Act.put, List.setIfInBounds_toArray, List.set_cons_zero, List.set_cons_succ, i64_w, i32_w]
                                rfl
                              refine done_ (done_of HT_.out (by kernel_rfl)) ?_
                              try go_wp2
                              go_ret
                              exact ⟨by first | rfl | (simp [errW_none, errW_some] <;> rfl) | (simp only [← hji74]; first | rfl | (simp [errW_none, errW_some] <;> rfl)) | (simp [*, errW_none, errW_some] <;> rfl), by repeat (first | (with_reducible first | exact HB.out | apply below_alloc | apply pw_below_drewN | apply below_drew1 | refine below_set ?_ GE669.out | refine below_set ?_ GE670.out | refine below_set ?_ GE682.out | refine below_set ?_ GE683.out) | exact HB.out)⟩
                            · rw [if_neg c80] at H
                              exact absurd H (by simp)
                          · rw [if_neg c77] at H
                            exact absurd H (by simp)
                        · rw [if_neg c76] at H
                          exact absurd H (by simp)
                      · rw [if_neg c75] at H
                        exact absurd H (by simp)
                    · rw [if_neg c73] at H
                      have c73b0 : ((t716 == t720 && (t717 == t721 && (t718 == t722 && (t719 == t723)))) == (x7_56.toList == x8_64.toList)) = false := by simpa using c73
                      (try (have c73b1 : decide ((t716 == t720 && (t717 == t721 && (t718 == t722 && (t719 == t723)))) = (x7_56.toList == x8_64.toList)) = false := by simpa using c73))
                      (try (have c73b2 : ((t716 == t720 && (t717 == t721 && (t718 == t722 && (t719 == t723)))) == (x7_56.toList == x8_64.toList)) = false := by simpa using c73))
                      (try (have c73b3 : ¬ ((t716 == t720 && (t717 == t721 && (t718 == t722 && (t719 == t723)))) = (x7_56.toList == x8_64.toList)) := by simpa using c73))
                      clear c73
                      obtain rfl := Option.some.inj H
                      try go_wp2_with (first | ((with_reducible refine gate_callee (f := 66) rfl ?_); refine goesL_ (some 75) rfl rfl Try.func66 (by kernel_rfl) rfl #[.slice A0 l0.length c0, .int .i64 6] rfl (by (try simp only [List.map_toArray, List.map_cons, List.map_nil]); first | done | rfl | (simp only [List.length_drop, List.length_take]; rfl)) ?_; (with_reducible refine (laws_at.calls _ _ l0 6 t715 _ ?side1 ?side2 A69.out).mono ?_); (case side1 => repeat (first | exact (Kd.C_below HR0.out HB.out) | (with_reducible refine Kd.C_alloc ?_ _) | (with_reducible refine Kd.C_drewN ?_ _) | (with_reducible refine Kd.C_drew ?_))); (case side2 => exact HC0.out); rintro e w' ⟨rfl, ⟨nd, rfl⟩⟩; refine ⟨_, rfl, ?_⟩))
                      (try (rw [drewN_self wc]; generalize hq_ : World.drewN wc _ = wc; have n0_ : Aside0 (wc.heap[gb669]? = some (.cells #[.int .u64 t661, .int .u64 t662, .int .u64 t663, .int .u64 t664] 30 (0, 0))) := ⟨by rw [← hq_]; exact (by (with_reducible repeat (first | refine blk_drewN ?_ _ | refine blk_drew ?_ | refine blk_alloc ?_ _)); exact BK669.out)⟩; have n1_ : Aside0 (wc.heap[gb670]? = some (.cells #[.int .u64 t665, .int .u64 t666, .int .u64 t667, .int .u64 t668] 30 (0, 0))) := ⟨by rw [← hq_]; exact (by (with_reducible repeat (first | refine blk_drewN ?_ _ | refine blk_drew ?_ | refine blk_alloc ?_ _)); exact BK670.out)⟩; have n2_ : Aside0 (wc.heap[gb682]? = some (.cells #[.int .u64 t674, .int .u64 t675, .int .u64 t676, .int .u64 t677] 30 (0, 0))) := ⟨by rw [← hq_]; exact (by (with_reducible repeat (first | refine blk_drewN ?_ _ | refine blk_drew ?_ | refine blk_alloc ?_ _)); exact BK682.out)⟩; have n3_ : Aside0 (wc.heap[gb683]? = some (.cells #[.int .u64 t678, .int .u64 t679, .int .u64 t680, .int .u64 t681] 30 (0, 0))) := ⟨by rw [← hq_]; exact (by (with_reducible repeat (first | refine blk_drewN ?_ _ | refine blk_drew ?_ | refine blk_alloc ?_ _)); exact BK683.out)⟩; have n4_ : Aside0 (Below w.heap.size w wc) := ⟨by rw [← hq_]; exact (by repeat (first | (with_reducible first | exact HB.out | apply below_alloc | apply pw_below_drewN | apply below_drew1 | refine below_set ?_ GE669.out | refine below_set ?_ GE670.out | refine below_set ?_ GE682.out | refine below_set ?_ GE683.out) | exact HB.out))⟩; clear BK669 BK670 BK682 BK683 HB hq_; have BK669 := n0_; have BK670 := n1_; have BK682 := n2_; have BK683 := n3_; have HB := n4_; clear n0_ n1_ n2_ n3_ n4_))
                      have n0_ := Aside0.mk (blk_drew BK669.out)
                      have n1_ := Aside0.mk (blk_drew BK670.out)
                      have n2_ := Aside0.mk (blk_drew BK682.out)
                      have n3_ := Aside0.mk (blk_drew BK683.out)
                      have n4_ := Aside0.mk (below_drew1 HB.out)
                      clear BK669
                      clear BK670
                      clear BK682
                      clear BK683
                      clear HB
                      have BK669 := n0_
                      have BK670 := n1_
                      have BK682 := n2_
                      have BK683 := n3_
                      have HB := n4_
                      clear n0_ n1_ n2_ n3_ n4_
                      refine start_ (n := 24) (S := fun w' => True) (ds := []) #[false, false, false, false, false, false, false, false, false, false, false, false, false, false, false, false, false, false, false, false, false, false, false, false] (by kernel_rfl) rfl rfl trivial (fun hHeld => ?_); refine with_tabW laws_FnHashBlockApart.tab14 laws_FnHashBlockApart.bits14 (fun HT_ HW_ => ?_)
                      generalize wc.drew = w88 at BK669 BK670 BK682 BK683 HB hHeld ⊢
                      refine pure_ (i := 0) (N := some 81) (v := ?_) (a' := ?_) #[true, false, false, false, false, false, false, false, false, false, false, false, false, false, false, false, false, false, false, false, false, false, false, false] rfl rfl (any_of HT_.out (by kernel_rfl)) (fun _ _ _ h => h) (Or.inl ⟨by rfl, ?_⟩) ?_ ?_
                      rotate_left
                      · intro w'
                        go_simp
                        first | with_reducible rfl | (rw [if_neg (by intro h_; (try simp only [ByteArray.size_append, ByteArray.size_extract, eq_iff_iff, iff_true, show (⟨#[255]⟩ : ByteArray).size = 1 from rfl] at *); omega)]; first | done | rfl)
                      rotate_left
                      · simp only [Act.put, List.setIfInBounds_toArray, List.set_cons_zero, List.set_cons_succ, i64_w, i32_w]
                        rfl
                      refine pure_ (i := 2) (N := some 83) (v := ?_) (a' := ?_) #[true, false, true, false, false, false, false, false, false, false, false, false, false, false, false, false, false, false, false, false, false, false, false, false] rfl rfl (any_of HT_.out (by kernel_rfl)) (fun _ _ _ h => h) (Or.inl ⟨by rfl, ?_⟩) ?_ ?_
                      rotate_left
                      · intro w'
                        go_simp
                        first | with_reducible rfl | (rw [if_neg (by intro h_; (try simp only [ByteArray.size_append, ByteArray.size_extract, eq_iff_iff, iff_true, show (⟨#[255]⟩ : ByteArray).size = 1 from rfl] at *); omega)]; first | done | rfl)
                      rotate_left
                      · simp only [Act.put, List.setIfInBounds_toArray, List.set_cons_zero, List.set_cons_succ, i64_w, i32_w]
                        rfl
                      refine pure_ (i := 5) (N := some 86) (v := ?_) (a' := ?_) #[true, false, true, false, false, true, false, false, false, false, false, false, false, false, false, false, false, false, false, false, false, false, false, false] rfl rfl (any_of HT_.out (by kernel_rfl)) (fun _ _ _ h => h) (Or.inl ⟨by rfl, ?_⟩) ?_ ?_
                      rotate_left
                      · intro w'
                        go_simp
                        first | with_reducible rfl | (rw [if_neg (by intro h_; (try simp only [ByteArray.size_append, ByteArray.size_extract, eq_iff_iff, iff_true, show (⟨#[255]⟩ : ByteArray).size = 1 from rfl] at *); omega)]; first | done | rfl)
                      rotate_left
                      · simp only [Act.put, List.setIfInBounds_toArray, List.set_cons_zero, List.set_cons_succ, i64_w, i32_w]
                        rfl
                      refine pure_ (i := 6) (N := some 87) (v := ?_) (a' := ?_) #[true, false, true, false, false, true, true, false, false, false, false, false, false, false, false, false, false, false, false, false, false, false, false, false] rfl rfl (any_of HT_.out (by kernel_rfl)) (fun _ _ _ h => h) (Or.inl ⟨by rfl, ?_⟩) ?_ ?_
                      rotate_left
                      · intro w'
                        go_simp
                        first | with_reducible rfl | (rw [if_neg (by intro h_; (try simp only [ByteArray.size_append, ByteArray.size_extract, eq_iff_iff, iff_true, show (⟨#[255]⟩ : ByteArray).size = 1 from rfl] at *); omega)]; first | done | rfl)
                      rotate_left
                      · simp only [Act.put, List.setIfInBounds_toArray, List.set_cons_zero, List.set_cons_succ, i64_w, i32_w]
                        rfl
                      refine pure_ (i := 7) (N := some 88) (v := ?_) (a' := ?_) #[true, false, true, false, false, true, true, true, false, false, false, false, false, false, false, false, false, false, false, false, false, false, false, false] rfl rfl (any_of HT_.out (by kernel_rfl)) (fun _ _ _ h => h) (Or.inl ⟨by rfl, ?_⟩) ?_ ?_
                      rotate_left
                      · intro w'
                        go_simp
                        first | with_reducible rfl | (rw [if_neg (by intro h_; (try simp only [ByteArray.size_append, ByteArray.size_extract, eq_iff_iff, iff_true, show (⟨#[255]⟩ : ByteArray).size = 1 from rfl] at *); omega)]; first | done | rfl)
                      rotate_left
                      · simp only [Act.put, List.setIfInBounds_toArray, List.set_cons_zero, List.set_cons_succ, i64_w, i32_w]
                        rfl
                      refine one_ (i := 1) (N := some 82) #[true, true, true, false, false, true, true, true, false, false, false, false, false, false, false, false, false, false, false, false, false, false, false, false] rfl rfl (one_of HT_.out (by kernel_rfl)) (by decide) (fun K hK => ?_)
                      refine goes_ Try.func53 (by kernel_rfl) rfl #[.string x7_56] (by rfl) rfl rfl (by (try simp only [List.map_toArray, List.map_cons, List.map_nil]); first | done | rfl | (simp only [List.length_drop, List.length_take]; rfl)) ?_
                      with_reducible refine (impl_HashOf.calls kj64 x7_56 t716 t717 t718 t719 _ A71.out).mono ?_
                      rintro e w89 ⟨rfl, hb⟩
                      refine ⟨_, rfl, ?_⟩
                      have n0_ := Aside0.mk (blk_below (g := gb669) (o := .cells #[.int .u64 t661, .int .u64 t662, .int .u64 t663, .int .u64 t664] 30 (0, 0)) (by (with_reducible repeat (first | refine blk_drewN ?_ _ | refine blk_drew ?_ | refine blk_alloc ?_ _)); exact BK669.out) hb)
                      have n1_ := Aside0.mk (blk_below (g := gb670) (o := .cells #[.int .u64 t665, .int .u64 t666, .int .u64 t667, .int .u64 t668] 30 (0, 0)) (by (with_reducible repeat (first | refine blk_drewN ?_ _ | refine blk_drew ?_ | refine blk_alloc ?_ _)); exact BK670.out) hb)
                      have n2_ := Aside0.mk (blk_below (g := gb682) (o := .cells #[.int .u64 t674, .int .u64 t675, .int .u64 t676, .int .u64 t677] 30 (0, 0)) (by (with_reducible repeat (first | refine blk_drewN ?_ _ | refine blk_drew ?_ | refine blk_alloc ?_ _)); exact BK682.out) hb)
                      have n3_ := Aside0.mk (blk_below (g := gb683) (o := .cells #[.int .u64 t678, .int .u64 t679, .int .u64 t680, .int .u64 t681] 30 (0, 0)) (by (with_reducible repeat (first | refine blk_drewN ?_ _ | refine blk_drew ?_ | refine blk_alloc ?_ _)); exact BK683.out) hb)
                      have n4_ := Aside0.mk (below_step (by repeat (first | (with_reducible first | exact HB.out | apply below_alloc | apply pw_below_drewN | apply below_drew1 | refine below_set ?_ GE669.out | refine below_set ?_ GE670.out | refine below_set ?_ GE682.out | refine below_set ?_ GE683.out) | exact HB.out)) hb)
                      clear BK669
                      clear BK670
                      clear BK682
                      clear BK683
                      clear HB
                      have BK669 := n0_
                      have BK670 := n1_
                      have BK682 := n2_
                      have BK683 := n3_
                      have HB := n4_
                      clear n0_ n1_ n2_ n3_ n4_
                      (try clear hb)
                      (try clear hb2)
                      (try clear hk)
                      (try clear hi)
                      refine hK.out _ _ trivial (fun hHeld => ?_)
                      clear hK K
                      refine norm_ (a' := ?_) ?_ ?_
                      rotate_left
                      · show Act.put _ (some 82) _ = _
                        simp only [Act.put, List.setIfInBounds_toArray, List.set_cons_zero, List.set_cons_succ, i64_w, i32_w]
                        rfl
                      refine one_ (i := 3) (N := some 84) #[true, true, true, true, false, true, true, true, false, false, false, false, false, false, false, false, false, false, false, false, false, false, false, false] rfl rfl (one_of HT_.out (by kernel_rfl)) (by decide) (fun K hK => ?_)
                      refine goes_ Try.func53 (by kernel_rfl) rfl #[.string x8_64] (by rfl) rfl rfl (by (try simp only [List.map_toArray, List.map_cons, List.map_nil]); first | done | rfl | (simp only [List.length_drop, List.length_take]; rfl)) ?_
                      with_reducible refine (impl_HashOf.calls kj64 x8_64 t720 t721 t722 t723 _ A72.out).mono ?_
                      rintro e w90 ⟨rfl, hb⟩
                      refine ⟨_, rfl, ?_⟩
                      have n0_ := Aside0.mk (blk_below (g := gb669) (o := .cells #[.int .u64 t661, .int .u64 t662, .int .u64 t663, .int .u64 t664] 30 (0, 0)) (by (with_reducible repeat (first | refine blk_drewN ?_ _ | refine blk_drew ?_ | refine blk_alloc ?_ _)); exact BK669.out) hb)
                      have n1_ := Aside0.mk (blk_below (g := gb670) (o := .cells #[.int .u64 t665, .int .u64 t666, .int .u64 t667, .int .u64 t668] 30 (0, 0)) (by (with_reducible repeat (first | refine blk_drewN ?_ _ | refine blk_drew ?_ | refine blk_alloc ?_ _)); exact BK670.out) hb)
                      have n2_ := Aside0.mk (blk_below (g := gb682) (o := .cells #[.int .u64 t674, .int .u64 t675, .int .u64 t676, .int .u64 t677] 30 (0, 0)) (by (with_reducible repeat (first | refine blk_drewN ?_ _ | refine blk_drew ?_ | refine blk_alloc ?_ _)); exact BK682.out) hb)
                      have n3_ := Aside0.mk (blk_below (g := gb683) (o := .cells #[.int .u64 t678, .int .u64 t679, .int .u64 t680, .int .u64 t681] 30 (0, 0)) (by (with_reducible repeat (first | refine blk_drewN ?_ _ | refine blk_drew ?_ | refine blk_alloc ?_ _)); exact BK683.out) hb)
                      have n4_ := Aside0.mk (below_step (by repeat (first | (with_reducible first | exact HB.out | apply below_alloc | apply pw_below_drewN | apply below_drew1 | refine below_set ?_ GE669.out | refine below_set ?_ GE670.out | refine below_set ?_ GE682.out | refine below_set ?_ GE683.out) | exact HB.out)) hb)
                      clear BK669
                      clear BK670
                      clear BK682
                      clear BK683
                      clear HB
                      have BK669 := n0_
                      have BK670 := n1_
                      have BK682 := n2_
                      have BK683 := n3_
                      have HB := n4_
                      clear n0_ n1_ n2_ n3_ n4_
                      (try clear hb)
                      (try clear hb2)
                      (try clear hk)
                      (try clear hi)
                      refine hK.out _ _ trivial (fun hHeld => ?_)
                      clear hK K
                      refine norm_ (a' := ?_) ?_ ?_
                      rotate_left
                      · show Act.put _ (some 84) _ = _
                        simp only [Act.put, List.setIfInBounds_toArray, List.set_cons_zero, List.set_cons_succ, i64_w, i32_w]
                        rfl
                      refine pure_ (i := 4) (N := some 85) (v := ?_) (a' := ?_) #[true, true, true, true, true, true, true, true, false, false, false, false, false, false, false, false, false, false, false, false, false, false, false, false] rfl rfl (any_of HT_.out (by kernel_rfl)) (fun _ _ _ h => h) (Or.inl ⟨by rfl, ?_⟩) ?_ ?_
                      rotate_left
                      · intro w'
                        go_simp
                        first | with_reducible rfl | (rw [if_neg (by intro h_; (try simp only [ByteArray.size_append, ByteArray.size_extract, eq_iff_iff, iff_true, show (⟨#[255]⟩ : ByteArray).size = 1 from rfl] at *); omega)]; first | done | rfl)
                      rotate_left
                      · simp only [Act.put, List.setIfInBounds_toArray, List.set_cons_zero, List.set_cons_succ, i64_w, i32_w]
                        rfl
                      refine pure_ (i := 8) (N := some 89) (v := ?_) (a' := ?_) #[true, true, true, true, true, true, true, true, true, false, false, false, false, false, false, false, false, false, false, false, false, false, false, false] rfl rfl (any_of HT_.out (by kernel_rfl)) (fun _ _ _ h => h) (Or.inl ⟨by rfl, ?_⟩) ?_ ?_
                      rotate_left
                      · intro w'
                        go_simp
                        first | with_reducible rfl | (rw [if_neg (by intro h_; (try simp only [ByteArray.size_append, ByteArray.size_extract, eq_iff_iff, iff_true, show (⟨#[255]⟩ : ByteArray).size = 1 from rfl] at *); omega)]; first | done | rfl)
                      rotate_left
                      · simp only [Act.put, List.setIfInBounds_toArray, List.set_cons_zero, List.set_cons_succ, i64_w, i32_w]
                        rfl
                      refine pure_ (i := 9) (N := some 90) (v := ?_) (a' := ?_) #[true, true, true, true, true, true, true, true, true, true, false, false, false, false, false, false, false, false, false, false, false, false, false, false] rfl rfl (any_of HT_.out (by kernel_rfl)) (fun _ _ _ h => h) (Or.inl ⟨by rfl, ?_⟩) ?_ ?_
                      rotate_left
                      · intro w'
                        go_simp
                        first | with_reducible rfl | (rw [if_neg (by intro h_; (try simp only [ByteArray.size_append, ByteArray.size_extract, eq_iff_iff, iff_true, show (⟨#[255]⟩ : ByteArray).size = 1 from rfl] at *); omega)]; first | done | rfl)
                      rotate_left
                      · simp only [Act.put, List.setIfInBounds_toArray, List.set_cons_zero, List.set_cons_succ, i64_w, i32_w]
                        rfl
                      refine pure_ (i := 10) (N := some 91) (v := undef) (a' := ?_) #[true, true, true, true, true, true, true, true, true, true, true, false, false, false, false, false, false, false, false, false, false, false, false, false] rfl rfl (any_of HT_.out (by kernel_rfl)) (fun _ _ _ h => h) (Or.inr ⟨by rfl, rfl⟩) ?_ ?_
                      rotate_left
                      · simp only [Act.put, List.setIfInBounds_toArray, List.set_cons_zero, List.set_cons_succ, i64_w, i32_w]
                        rfl
                      refine pure_ (i := 11) (N := some 92) (v := undef) (a' := ?_) #[true, true, true, true, true, true, true, true, true, true, true, true, false, false, false, false, false, false, false, false, false, false, false, false] rfl rfl (any_of HT_.out (by kernel_rfl)) (fun _ _ _ h => h) (Or.inr ⟨by rfl, rfl⟩) ?_ ?_
                      rotate_left
                      · simp only [Act.put, List.setIfInBounds_toArray, List.set_cons_zero, List.set_cons_succ, i64_w, i32_w]
                        rfl
                      refine pure_ (i := 12) (N := some 93) (v := undef) (a' := ?_) #[true, true, true, true, true, true, true, true, true, true, true, true, true, false, false, false, false, false, false, false, false, false, false, false] rfl rfl (any_of HT_.out (by kernel_rfl)) (fun _ _ _ h => h) (Or.inr ⟨by rfl, rfl⟩) ?_ ?_
                      rotate_left
                      · simp only [Act.put, List.setIfInBounds_toArray, List.set_cons_zero, List.set_cons_succ, i64_w, i32_w]
                        rfl
                      refine pure_ (i := 13) (N := some 94) (v := undef) (a' := ?_) #[true, true, true, true, true, true, true, true, true, true, true, true, true, true, false, false, false, false, false, false, false, false, false, false] rfl rfl (any_of HT_.out (by kernel_rfl)) (fun _ _ _ h => h) (Or.inr ⟨by rfl, rfl⟩) ?_ ?_
                      rotate_left
                      · simp only [Act.put, List.setIfInBounds_toArray, List.set_cons_zero, List.set_cons_succ, i64_w, i32_w]
                        rfl
                      refine pure_ (i := 14) (N := some 95) (v := undef) (a' := ?_) #[true, true, true, true, true, true, true, true, true, true, true, true, true, true, true, false, false, false, false, false, false, false, false, false] rfl rfl (any_of HT_.out (by kernel_rfl)) (fun _ _ _ h => h) (Or.inr ⟨by rfl, rfl⟩) ?_ ?_
                      rotate_left
                      · simp only [Act.put, List.setIfInBounds_toArray, List.set_cons_zero, List.set_cons_succ, i64_w, i32_w]
                        rfl
                      refine pure_ (i := 15) (N := some 96) (v := undef) (a' := ?_) #[true, true, true, true, true, true, true, true, true, true, true, true, true, true, true, true, false, false, false, false, false, false, false, false] rfl rfl (any_of HT_.out (by kernel_rfl)) (fun _ _ _ h => h) (Or.inr ⟨by rfl, rfl⟩) ?_ ?_
                      rotate_left
                      · simp only [Act.put, List.setIfInBounds_toArray, List.set_cons_zero, List.set_cons_succ, i64_w, i32_w]
                        rfl
                      refine pure_ (i := 16) (N := some 97) (v := undef) (a' := ?_) #[true, true, true, true, true, true, true, true, true, true, true, true, true, true, true, true, true, false, false, false, false, false, false, false] rfl rfl (any_of HT_.out (by kernel_rfl)) (fun _ _ _ h => h) (Or.inr ⟨by rfl, rfl⟩) ?_ ?_
                      rotate_left
                      · simp only [Act.put, List.setIfInBounds_toArray, List.set_cons_zero, List.set_cons_succ, i64_w, i32_w]
                        rfl
                      refine pure_ (i := 17) (N := some 98) (v := undef) (a' := ?_) #[true, true, true, true, true, true, true, true, true, true, true, true, true, true, true, true, true, true, false, false, false, false, false, false] rfl rfl (any_of HT_.out (by kernel_rfl)) (fun _ _ _ h => h) (Or.inr ⟨by rfl, rfl⟩) ?_ ?_
                      rotate_left
                      · simp only [Act.put, List.setIfInBounds_toArray, List.set_cons_zero, List.set_cons_succ, i64_w, i32_w]
                        rfl
                      refine pure_ (i := 18) (N := some 99) (v := undef) (a' := ?_) #[true, true, true, true, true, true, true, true, true, true, true, true, true, true, true, true, true, true, true, false, false, false, false, false] rfl rfl (any_of HT_.out (by kernel_rfl)) (fun _ _ _ h => h) (Or.inr ⟨by rfl, rfl⟩) ?_ ?_
                      rotate_left
                      · simp only [Act.put, List.setIfInBounds_toArray, List.set_cons_zero, List.set_cons_succ, i64_w, i32_w]
                        rfl
                      refine pure_ (i := 19) (N := some 100) (v := undef) (a' := ?_) #[true, true, true, true, true, true, true, true, true, true, true, true, true, true, true, true, true, true, true, true, false, false, false, false] rfl rfl (any_of HT_.out (by kernel_rfl)) (fun _ _ _ h => h) (Or.inr ⟨by rfl, rfl⟩) ?_ ?_
                      rotate_left
                      · simp only [Act.put, List.setIfInBounds_toArray, List.set_cons_zero, List.set_cons_succ, i64_w, i32_w]
                        rfl
                      refine pure_ (i := 20) (N := some 101) (v := undef) (a' := ?_) #[true, true, true, true, true, true, true, true, true, true, true, true, true, true, true, true, true, true, true, true, true, false, false, false] rfl rfl (any_of HT_.out (by kernel_rfl)) (fun _ _ _ h => h) (Or.inr ⟨by rfl, rfl⟩) ?_ ?_
                      rotate_left
                      · simp only [Act.put, List.setIfInBounds_toArray, List.set_cons_zero, List.set_cons_succ, i64_w, i32_w]
                        rfl
                      refine pure_ (i := 21) (N := some 102) (v := undef) (a' := ?_) #[true, true, true, true, true, true, true, true, true, true, true, true, true, true, true, true, true, true, true, true, true, true, false, false] rfl rfl (any_of HT_.out (by kernel_rfl)) (fun _ _ _ h => h) (Or.inr ⟨by rfl, rfl⟩) ?_ ?_
                      rotate_left
                      · simp only [Act.put, List.setIfInBounds_toArray, List.set_cons_zero, List.set_cons_succ, i64_w, i32_w]
                        rfl
                      refine pure_ (i := 22) (N := some 103) (v := ?_) (a' := ?_) #[true, true, true, true, true, true, true, true, true, true, true, true, true, true, true, true, true, true, true, true, true, true, true, false] rfl rfl (any_of HT_.out (by kernel_rfl)) (fun _ _ _ h => h) (Or.inl ⟨by rfl, ?_⟩) ?_ ?_
                      rotate_left
                      · intro w'
                        go_simp
                        first | with_reducible rfl | (rw [if_neg (by intro h_; (try simp only [ByteArray.size_append, ByteArray.size_extract, eq_iff_iff, iff_true, show (⟨#[255]⟩ : ByteArray).size = 1 from rfl] at *); omega)]; first | done | rfl)
                      rotate_left
                      · simp only [Act.put, List.setIfInBounds_toArray, List.set_cons_zero, List.set_cons_succ, i64_w, i32_w]
                        rfl
                      refine pure_ (i := 23) (N := some 2) (v := ?_) (a' := ?_) #[true, true, true, true, true, true, true, true, true, true, true, true, true, true, true, true, true, true, true, true, true, true, true, true] rfl rfl (any_of HT_.out (by kernel_rfl)) (fun _ _ _ h => h) (Or.inl ⟨by rfl, ?_⟩) ?_ ?_
                      rotate_left
                      · intro w'
                        go_simp
                        first | with_reducible rfl | (rw [if_neg (by intro h_; (try simp only [ByteArray.size_append, ByteArray.size_extract, eq_iff_iff, iff_true, show (⟨#[255]⟩ : ByteArray).size = 1 from rfl] at *); omega)]; first | done | rfl)
                      rotate_left
                      · simp only [Act.put, List.setIfInBounds_toArray, List.set_cons_zero, List.set_cons_succ, i64_w, i32_w]
                        rfl
                      refine done_ (done_of HT_.out (by kernel_rfl)) ?_
                      try go_wp2
                      go_ret
                      exact ⟨by first | rfl | (simp [errW_none, errW_some] <;> rfl) | (simp [*, errW_none, errW_some] <;> rfl), by repeat (first | (with_reducible first | exact HB.out | apply below_alloc | apply pw_below_drewN | apply below_drew1 | refine below_set ?_ GE669.out | refine below_set ?_ GE670.out | refine below_set ?_ GE682.out | refine below_set ?_ GE683.out) | exact HB.out)⟩

/-- THE ONE PURE STATEMENT of laws_FnHashBlockApart: yours. -/
def laws_FnHashBlockApart.Pure : Prop := ∀ (l0 : List Int), l0.length ≤ maxLen → l0.length * 1 ≤ 140737488351232 → (∀ x ∈ l0, (Lit.int .u8 x).wf = true) → ∃ k, laws_FnHashBlockApart.f k l0 = some true
theorem laws_FnHashBlockApart.walk (P : laws_FnHashBlockApart.Pure) (a0 : Option Addr) (len0 cap0 : Nat) (z0 : List Int) (w : World) (w0 : (a0 = none ∧ len0 = 0 ∧ cap0 = 0 ∧ z0 = []) ∨ ∃ x, a0 = some x ∧ len0 ≤ cap0 ∧ cap0 ≤ maxLen ∧ z0.length = cap0 ∧ (∀ i, i < z0.length → w.cell? (x.add i) = some (.int .u8 (z0.getD i 0))) ∧ ∀ n ∈ z0, (Lit.int .u8 n).wf = true) (y0 : len0 * 1 ≤ 140737488351232) :
    Calls Try.prog 19 #[.slice a0 len0 cap0] w fun e w' => e = .returned (.bool true) ∧ Below w.heap.size w w' := by
  obtain ⟨l0, rfl, hr0, hm0, hw0, hc0⟩ := ReadsInt.ofRowC w0
  obtain ⟨k, h⟩ := P l0 hm0 y0 hw0
  refine (laws_FnHashBlockApart.calls k _ _ l0 true w (Kd.C_of_reads (d := (0 : Int)) (h1 := fun _ => rfl) hr0) hc0 h).mono ?_
  rintro e w' ⟨rfl, hd⟩
  exact ⟨rfl, hd⟩

end Go.Proofs.Ytfbhlofifodkjaa.B
