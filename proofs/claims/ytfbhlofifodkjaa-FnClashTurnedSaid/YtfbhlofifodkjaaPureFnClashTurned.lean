/- A clash turned round is a clash, and its two texts have one digest: the plain law behind FnClashTurned. No condition. -/
import Derived.Test.YtfbhlofifodkjaaFLawsFnClashTurned
import Derived.Test.YtfbhlofifodkjaaQClash
import Derived.Test.YtfbhlofifodkjaaQDraw
namespace Go.Proofs.Ytfbhlofifodkjaa.Pure
open Go.RowKit Go.Proofs.Ytfbhlofifodkjaa.B Go.Proofs.Ytfbhlofifodkjaa.Q Go.Proofs.YtfbhlofifodkjaaW.PrintWords Go.Proofs.YtfbhlofifodkjaaW.PrintLast
theorem draw_clash {k : Nat} (hk : 1000 ≤ k) (l : List Int) (h : Bytes8 l) : ∃ s t, spec_DrawClashOk.f k l = some (s, t) := by
  unfold spec_DrawClashOk.f
  obtain ⟨b, hb, r0⟩ := open_ok l h
  rw [hb]
  simp only [Option.bind_some]
  obtain ⟨s, q, h1, z1, r1, l1⟩ := text_ok (k := k) (n := 40) (by omega) (by omega) r0 (by omega)
  rw [show ((40 : Nat) : Int) = 40 by rfl] at h1
  rw [h1]
  simp only [Option.bind_some]
  obtain ⟨v, hv, v0, v1, _⟩ := pick_ok (k := k) (by omega) r1 (by omega) 6
  rw [hv]
  simp only [Option.bind_some]
  have r2 : Rdr b (q + 1) (0 + ((40 : Nat) : Int) + 1 + 1) := r1.more (by omega) (by omega)
  by_cases c1 : v > 3
  · rw [if_pos c1]
    obtain ⟨t, q2, h2, _⟩ := pad_ok (k := k) (by omega) r2 (by omega) s (by omega)
    rw [h2]
    exact ⟨_, _, rfl⟩
  · rw [if_neg c1]
    by_cases c2 : v = 0
    · rw [if_pos c2]
      exact ⟨_, _, rfl⟩
    · rw [if_neg c2]
      by_cases c3 : v = 1
      · rw [if_pos c3]
        obtain ⟨t, h2, _⟩ := many_ok (k := k) (n := 20001) (by omega) (by omega) ⟨#[121]⟩ (by rw [show (⟨#[121]⟩ : ByteArray).size = 1 from rfl]; omega)
        rw [show ((20001 : Nat) : Int) = 20001 by rfl] at h2
        rw [h2]
        simp only [Option.bind_some]
        obtain ⟨x, hx, x0, x1, _⟩ := pick_ok (k := k) (by omega) r2 (by omega) 2
        rw [hx]
        simp only [Option.bind_some]
        have := x1 (by omega)
        obtain ⟨t', h3, _⟩ := many_ok (k := k) (n := 20000 + x.toNat) (by omega) (by omega) ⟨#[119]⟩ (by rw [show (⟨#[119]⟩ : ByteArray).size = 1 from rfl]; omega)
        rw [show ((20000 + x.toNat : Nat) : Int) = wrap64 (20000 + x) by unfold wrap64; omega] at h3
        rw [h3]
        exact ⟨_, _, rfl⟩
      · rw [if_neg c3]
        obtain ⟨t, q2, h2, _⟩ := text_ok (k := k) (n := 40) (by omega) (by omega) r2 (by omega)
        rw [show ((40 : Nat) : Int) = 40 by rfl] at h2
        rw [h2]
        exact ⟨_, _, rfl⟩
theorem clash_turn (s t : ByteArray) : clashOk t s = clashOk s t := by
  unfold clashOk
  rw [Bool.and_comm (decide (t.size ≤ 20000)), show decide (t.toList = s.toList) = decide (s.toList = t.toList) from decide_eq_decide.2 eq_comm, show decide (hashOf t = hashOf s) = decide (hashOf s = hashOf t) from decide_eq_decide.2 eq_comm]
theorem clash_self (s : ByteArray) : clashOk s s = false := by simp [clashOk]
theorem clashTurned_at (k : Nat) (hk : 30001 ≤ k) (l : List Int) (h : Bytes8 l) : laws_FnClashTurned.f k l = some true := by
  unfold laws_FnClashTurned.f
  by_cases hl : (l.length : Int) > 1048576
  · rw [if_pos hl]
  · rw [if_neg hl]
    obtain ⟨s, t, hd⟩ := draw_clash (k := k) (by omega) l h
    rw [hd]
    simp only [Option.bind_some]
    rw [impl_clash (by omega), spec_clash (by omega)]
    simp only [Option.bind_some]
    rw [if_neg (by simp), impl_clash (by omega)]
    simp only [Option.bind_some]
    rw [clash_turn, if_neg (by simp), impl_clash (by omega), clash_self]
    simp only [Option.bind_some]
    obtain ⟨k, rfl⟩ : ∃ m, k = m + 1 := ⟨k - 1, by omega⟩
    simp only [laws_FnClashTurned.j0]
    rw [if_neg (by simp)]
    by_cases hc : clashOk s t = true
    · rw [if_pos hc, impl_hash (by omega), impl_hash (by omega)]
      simp only [Option.bind_some]
      rw [d4_beq]
      simp only [clashOk, Bool.and_eq_true, decide_eq_true_eq] at hc
      rw [decide_eq_true hc.2]
    · rw [if_neg hc]
theorem FnClashTurned (y0 : List Int) (h : y0.length ≤ 9223372036854775807 ∧ ∀ y_ ∈ y0, (Lit.int .u8 y_).wf = true) : ∃ k, laws_FnClashTurned.f k y0 = some true :=
  ⟨40000, clashTurned_at _ (by omega) y0 fun x hx => by
    have := h.2 x hx
    simp [Lit.wf, IntKind.min, IntKind.max, IntKind.signed, IntKind.bits] at this
    omega⟩
end Go.Proofs.Ytfbhlofifodkjaa.Pure
