/- What the Go functions loop.example/belfry/spec.PathOf do is what the Lean functions .f of their names here say; condition: .f gives an answer. (Written by the session's program pp.py over the kit's print; Lean checks it.) -/
import Derived.Test.YtflckegggopdnaaZLK
import Derived.Test.YtflckegggopdnaaZLM
import Derived.Test.YtflckegggopdnaaZLFSpecL3Path
import Derived.Test.YtflckegggopdnaaZLGTree1
import Derived.Test.YtflckegggopdnaaZLGWay1
namespace Go.Proofs.Ytflckegggopdnaa.B
open Go.RowKit Go.Proofs.YtflckegggopdnaaW.PrintWords Go.Proofs.YtflckegggopdnaaW.PrintLast Go.Proofs.YtflckegggopdnaaW.PrintMore
attribute [local go_sem] max2_int min2_int max_two min_two max_three min_three max_four min_four
set_option linter.unusedVariables false
set_option linter.unusedSimpArgs false
section
def spec_PathOf.f (k : Nat) (l0 : List ByteArray) (a1 : Int) : Option ((List (S29)) × Bool) := (spec_LeavesOk.f k l0).bind fun t1441 => (if t1441 = true then ((spec_l3Place.f (l0.length : Int) a1).bind fun t1442 => (if t1442 = true then ((spec_l3Path.f k l0 a1).bind fun t1443 => (some (t1443, true))) else (some ((([] : List (S29))), false)))) else (some ((([] : List (S29))), false)))
set_option maxHeartbeats 8000000 in
set_option maxRecDepth 100000 in
theorem spec_PathOf.calls (k : Nat) (A0 : Option Addr) (c0 : Nat) (l0 : List ByteArray) (a1 : Int) (r1 : List (S29)) (r2 : Bool) (w : World) (hr0 : Kd.C Kd.string w A0 l0.length l0) (hc0 : l0.length ≤ c0) (h : spec_PathOf.f k l0 a1 = some (r1, r2)) :
    Calls Try.prog 39 #[.slice A0 l0.length c0, .int .i64 a1] w fun e w' => ∃ v0_ : Value, e = .returned (.tuple #[v0_, .bool r2]) ∧ Kd.R k29 29 w' w.heap.size (fun _ => True) v0_ r1 ∧ Below w.heap.size w w' := by
  have HR0 := Aside0.mk hr0
  have HC0 := Aside0.mk hc0
  clear hr0 hc0
  have HB := Aside0.mk (Below.refl w.heap.size w)
  have H : ((spec_LeavesOk.f k l0).bind fun t1441 => (if t1441 = true then ((spec_l3Place.f (l0.length : Int) a1).bind fun t1442 => (if t1442 = true then ((spec_l3Path.f k l0 a1).bind fun t1443 => (some (t1443, true))) else (some ((([] : List (S29))), false)))) else (some ((([] : List (S29))), false)))) = some (r1, r2) := h
  clear h
  obtain ⟨t1441, A3, H⟩ := bnd_ H
  by_cases c4 : t1441 = true
  · subst c4
    rw [if_pos rfl] at H
    obtain ⟨t1442, A5, H⟩ := bnd_ H
    by_cases c6 : t1442 = true
    · subst c6
      rw [if_pos rfl] at H
      obtain ⟨t1443, A7, H⟩ := bnd_ H
      simp only [Option.some.injEq, Prod.mk.injEq] at H
      obtain ⟨rfl, rfl⟩ := H
      go_enter Try.func39, Try.ntmps39
      go_wp2_with (first | ((with_reducible refine gate_callee (f := 30) rfl ?_); refine goL_ (some 7) Try.func30 #[.slice A0 l0.length c0] ?_; (with_reducible refine (spec_LeavesOk.calls k _ _ l0 true _ ?side1 ?side2 A3.out).mono ?_); (case side1 => repeat (first | exact HR0.out | (with_reducible refine Kd.C_alloc ?_ _) | (with_reducible refine Kd.C_drewN ?_ _) | (with_reducible refine Kd.C_drew ?_))); (case side2 => exact HC0.out); rintro e w' ⟨rfl, ⟨nd, rfl⟩⟩; refine ⟨_, rfl, ?_⟩) | (go_at_call 79; (with_reducible refine (spec_l3Place.calls (l0.length : Int) a1 true _ A5.out).mono ?_); rintro e w' ⟨rfl, ⟨nd, rfl⟩⟩) | ((with_reducible refine gate_callee (f := 80) rfl ?_); refine goL_ (some 19) Try.func80 #[.slice A0 l0.length c0, .int .i64 a1] ?_; (with_reducible refine (spec_l3Path.calls k _ _ l0 a1 t1443 _ ?side1 ?side2 A7.out).mono ?_); (case side1 => repeat (first | exact HR0.out | (with_reducible refine Kd.C_alloc ?_ _) | (with_reducible refine Kd.C_drewN ?_ _) | (with_reducible refine Kd.C_drew ?_))); (case side2 => exact HC0.out); rintro e w8 ⟨v1444, rfl, ho0, hb⟩; refine ⟨_, rfl, ?_⟩; have HO1445 := Aside0.mk (Kd.R_lower ho0 (below_size bel_)); replace HB := stepB_ hb; (try clear hb); (try clear ho0)))
      go_ret2
      exact ⟨_, rfl_, by (with_reducible repeat (first | apply Kd.R_alloc | apply Kd.R_drewN | apply Kd.R_drew)); exact HO1445.out, bel_⟩
    · replace c6 := Bool.eq_false_iff.mpr c6
      subst c6
      rw [if_neg (show ¬ (false = true) by decide)] at H
      obtain ⟨y1446, hy1446⟩ : ∃ y_ : List (S29), y_ = (([] : List (S29))) := ⟨_, rfl⟩
      replace H : (some (y1446, false)) = some (r1, r2) := by first | (rw [hy1446]; with_reducible exact H) | (have H2_ := (Option.bind_some _ _).symm.trans H; rw [hy1446]; with_reducible exact H2_) | (have H2_ := (Option.bind_some _ _).symm.trans H; with_reducible exact H2_) | with_reducible exact H | (rw [hy1446]; exact H) | exact H
      have Ny1446 := Aside0.mk hy1446
      clear hy1446
      simp only [Option.some.injEq, Prod.mk.injEq] at H
      obtain ⟨rfl, rfl⟩ := H
      go_enter Try.func39, Try.ntmps39
      go_wp2_with (first | ((with_reducible refine gate_callee (f := 30) rfl ?_); refine goL_ (some 7) Try.func30 #[.slice A0 l0.length c0] ?_; (with_reducible refine (spec_LeavesOk.calls k _ _ l0 true _ ?side1 ?side2 A3.out).mono ?_); (case side1 => repeat (first | exact HR0.out | (with_reducible refine Kd.C_alloc ?_ _) | (with_reducible refine Kd.C_drewN ?_ _) | (with_reducible refine Kd.C_drew ?_))); (case side2 => exact HC0.out); rintro e w' ⟨rfl, ⟨nd, rfl⟩⟩; refine ⟨_, rfl, ?_⟩) | (go_at_call 79; (with_reducible refine (spec_l3Place.calls (l0.length : Int) a1 false _ A5.out).mono ?_); rintro e w' ⟨rfl, ⟨nd, rfl⟩⟩) | ((with_reducible refine gate_dst (N := 16) rfl ?_); (try (refine gate_guard (by rfl) ?_; dsimp only)); refine Kd.R_lit k29 _ 29 ?hg (N := 16) ?hd (xs := ([] : List (S29))) (inner := []) (ok := fun _ => True) (okp := fun _ => True) ?hr ?hp (fun _ hk => hk) trivial (Below.refl _ _) (Nat.le_refl _) (by simp) ?_; (case hd => rfl); (case hg => rfl); (case hr => first | (go_simp; done) | (go_simp; rfl)); (case hp => exact (Reps.none _ _)); intro v1447 w9 ho10 hb hg_ hnew_; clear hg_ hnew_; (first | rw [← Ny1446.out] at ho10 | (simp only [Int.reduceToNat] at ho10; rw [← Ny1446.out] at ho10)); have HO1448 := Aside0.mk (Kd.R_lower ho10 (below_size bel_)); replace HB := stepB_ hb; clear hb ho10))
      go_ret2
      exact ⟨_, rfl_, by (with_reducible repeat (first | apply Kd.R_alloc | apply Kd.R_drewN | apply Kd.R_drew)); exact HO1448.out, bel_⟩
  · replace c4 := Bool.eq_false_iff.mpr c4
    subst c4
    rw [if_neg (show ¬ (false = true) by decide)] at H
    obtain ⟨y1449, hy1449⟩ : ∃ y_ : List (S29), y_ = (([] : List (S29))) := ⟨_, rfl⟩
    replace H : (some (y1449, false)) = some (r1, r2) := by first | (rw [hy1449]; with_reducible exact H) | (have H2_ := (Option.bind_some _ _).symm.trans H; rw [hy1449]; with_reducible exact H2_) | (have H2_ := (Option.bind_some _ _).symm.trans H; with_reducible exact H2_) | with_reducible exact H | (rw [hy1449]; exact H) | exact H
    have Ny1449 := Aside0.mk hy1449
    clear hy1449
    simp only [Option.some.injEq, Prod.mk.injEq] at H
    obtain ⟨rfl, rfl⟩ := H
    go_enter Try.func39, Try.ntmps39
    go_wp2_with (first | ((with_reducible refine gate_callee (f := 30) rfl ?_); refine goL_ (some 7) Try.func30 #[.slice A0 l0.length c0] ?_; (with_reducible refine (spec_LeavesOk.calls k _ _ l0 false _ ?side1 ?side2 A3.out).mono ?_); (case side1 => repeat (first | exact HR0.out | (with_reducible refine Kd.C_alloc ?_ _) | (with_reducible refine Kd.C_drewN ?_ _) | (with_reducible refine Kd.C_drew ?_))); (case side2 => exact HC0.out); rintro e w' ⟨rfl, ⟨nd, rfl⟩⟩; refine ⟨_, rfl, ?_⟩) | ((with_reducible refine gate_dst (N := 16) rfl ?_); (try (refine gate_guard (by rfl) ?_; dsimp only)); refine Kd.R_lit k29 _ 29 ?hg (N := 16) ?hd (xs := ([] : List (S29))) (inner := []) (ok := fun _ => True) (okp := fun _ => True) ?hr ?hp (fun _ hk => hk) trivial (Below.refl _ _) (Nat.le_refl _) (by simp) ?_; (case hd => rfl); (case hg => rfl); (case hr => first | (go_simp; done) | (go_simp; rfl)); (case hp => exact (Reps.none _ _)); intro v1450 w11 ho12 hb hg_ hnew_; clear hg_ hnew_; (first | rw [← Ny1449.out] at ho12 | (simp only [Int.reduceToNat] at ho12; rw [← Ny1449.out] at ho12)); have HO1451 := Aside0.mk (Kd.R_lower ho12 (below_size bel_)); replace HB := stepB_ hb; clear hb ho12))
    go_ret2
    exact ⟨_, rfl_, by (with_reducible repeat (first | apply Kd.R_alloc | apply Kd.R_drewN | apply Kd.R_drew)); exact HO1451.out, bel_⟩
end
end Go.Proofs.Ytflckegggopdnaa.B
