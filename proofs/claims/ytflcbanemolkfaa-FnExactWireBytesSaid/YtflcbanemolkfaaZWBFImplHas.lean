/- What the Go functions loop.example/belfry/impl.has do is what the Lean functions .f of their names here say; condition: .f gives an answer. (Written by the session's program pp.py over the kit's print; Lean checks it.) -/
import Derived.Test.YtflcbanemolkfaaZWBK
import Derived.Test.YtflcbanemolkfaaZWBM
import Derived.Test.YtflcbanemolkfaaZWBFImplPartsOf
namespace Go.Proofs.Ytflcbanemolkfaa.B
open Go.RowKit Go.Proofs.YtflcbanemolkfaaW.PrintWords Go.Proofs.YtflcbanemolkfaaW.PrintLast Go.Proofs.YtflcbanemolkfaaW.PrintMore
attribute [local go_sem] max2_int min2_int max_two min_two max_three min_three max_four min_four
set_option linter.unusedVariables false
set_option linter.unusedSimpArgs false
section
def impl_has.l0 : Nat → Int → ByteArray → Int → Option (Bool)
  | 0, _, _, _ => none
  | k + 1, x1, x5, x6 => if x6 < (x5.size : Int) then (if 0 ≤ x6 then (if (bt x5 x6) = x1 then (some true) else (impl_has.l0 k x1 x5 (wrap64 (x6 + 1)))) else (none)) else (some false)
def impl_has.f (k : Nat) (a0 : Int) (a1 : Int) : Option (Bool) := (impl_partsOf.f a0).bind fun t227 => (impl_has.l0 k a1 t227 0)
set_option maxHeartbeats 8000000 in
set_option maxRecDepth 100000 in
theorem impl_has.calls (k : Nat) (a0 : Int) (a1 : Int) (r : Bool) (w : World) (h : impl_has.f k a0 a1 = some r) :
    Calls Try.prog 30 #[.int .i64 a0, .int .u8 a1] w fun e w' => e = .returned (.bool r) ∧ Below w.heap.size w w' := by
  have HB := Aside0.mk (Below.refl w.heap.size w)
  have H : ((impl_partsOf.f a0).bind fun t227 => (impl_has.l0 k a1 t227 0)) = some r := h
  clear h
  obtain ⟨t227, A3, H⟩ := bnd_ H
  have H' := Aside0.mk H
  clear H
  go_enter Try.func30, Try.ntmps30
  go_wp2_with (first | ((with_reducible refine gate_callee (f := 40) rfl ?_); refine goL_ (some 8) Try.func40 #[.int .i64 a0] ?_; (with_reducible refine (impl_partsOf.calls a0 t227 _ A3.out).mono ?_); rintro e w4 ⟨rfl, hb⟩; refine ⟨_, rfl, ?_⟩; replace HB := stepB_ hb; (try clear hb)))
  go_loopg [6] k (fun kq v6 w' => ∃ (x6_1 : Int), v6 = .int .i64 x6_1 ∧ Aside0 (impl_has.l0 kq a1 t227 x6_1 = some r) ∧ Aside0 (kq ≤ k) ∧ Aside0 (Below w.heap.size w w'))
  case atStart => exact ⟨(0), (by first | rfl | (simp; done) | (simp [*]; done)), H', ⟨Nat.le_refl _⟩, ⟨bel_⟩⟩
  case round =>
    clear H'
    obtain ⟨x6_1, rfl, HA, HK1, HB⟩ := hrel
    cases gk with
    | zero => exact absurd HA.out (by simp [impl_has.l0])
    | succ k1 =>
      have H := HA.out
      clear HA
      simp only [impl_has.l0] at H
      by_cases c5 : x6_1 < (t227.size : Int)
      · rw [if_pos c5] at H
        have c5b0 : decide (x6_1 < (t227.size : Int)) = true := decide_eq_true c5
        clear c5
        by_cases c6 : 0 ≤ x6_1
        · rw [if_pos c6] at H
          have c6b0 : decide (0 ≤ x6_1) = true := decide_eq_true c6
          clear c6
          by_cases c8 : (bt t227 x6_1) = a1
          · rw [if_pos c8] at H
            have c8b0 : ((bt t227 x6_1) == a1) = true := beq_iff_eq.mpr c8
            have c8b1 : ((bt t227 x6_1) != a1) = false := bne_eq_false_iff_eq.mpr c8
            clear c8
            obtain rfl := Option.some.inj H
            have p7 : 0 ≤ (x6_1 : Int) := ofd_
            have q7 : x6_1 < (t227.size : Int) := ofd_
            have hx7 := bt_at t227 x6_1
            replace p7 := eq_true p7
            replace q7 := eq_true q7
            go_wp2
            go_ret
            exact ⟨rfl_, bel_⟩
          · rw [if_neg c8] at H
            have c8b0 : ((bt t227 x6_1) == a1) = false := beq_eq_false_iff_ne.mpr c8
            have c8b1 : ((bt t227 x6_1) != a1) = true := bne_iff_ne.mpr c8
            have H' := Aside0.mk H
            clear H
            have p7 : 0 ≤ (x6_1 : Int) := ofd_
            have q7 : x6_1 < (t227.size : Int) := ofd_
            have hx7 := bt_at t227 x6_1
            replace p7 := eq_true p7
            replace q7 := eq_true q7
            go_wp2
            go_roundg k1
            case measure => have := HK1.out; omega
            case rel => exact ⟨(wrap64 (x6_1 + 1)), (by first | rfl | (simp; done) | (simp [*]; done)), H', ⟨by have := HK1.out; omega⟩, ⟨bel_⟩⟩
        · rw [if_neg c6] at H
          exact absurd H (by simp)
      · rw [if_neg c5] at H
        have c5b0 : decide (x6_1 < (t227.size : Int)) = false := decide_eq_false c5
        clear c5
        obtain rfl := Option.some.inj H
        go_wp2
        go_ret
        exact ⟨rfl_, bel_⟩
end
end Go.Proofs.Ytflcbanemolkfaa.B
