/- What the Go functions loop.example/belfry/spec.GrowthLift do is what the Lean functions .f of their names here say; condition: .f gives an answer. (Written by the session's program pp.py over the kit's print; Lean checks it.) -/
import Derived.Test.YtflckegggopdnaaZGLK
import Derived.Test.YtflckegggopdnaaZGLM
import Derived.Test.YtflckegggopdnaaZGLFSpecL3Above
import Derived.Test.YtflckegggopdnaaZGLFSpecL3Depth
import Derived.Test.YtflckegggopdnaaZGLFSpecL3PeakOf
import Derived.Test.YtflckegggopdnaaZGLGFall1
import Derived.Test.YtflckegggopdnaaZGLGRest1
import Derived.Test.YtflckegggopdnaaZGLGWay1
namespace Go.Proofs.Ytflckegggopdnaa.B
open Go.RowKit Go.Proofs.YtflckegggopdnaaW.PrintWords Go.Proofs.YtflckegggopdnaaW.PrintLast Go.Proofs.YtflckegggopdnaaW.PrintMore
attribute [local go_sem] max2_int min2_int max_two min_two max_three min_three max_four min_four
set_option linter.unusedVariables false
set_option linter.unusedSimpArgs false
section
def spec_GrowthLift.j0 : Nat → Int → Int → Int → List (S29) → List (S29) → List (S29) → Bool → Option ((List (S29)) × Bool)
  | 0, _, _, _, _, _, _, _ => none
  | k + 1, x0, x1, x2, x3, x4, x12, x41 => if x41 = true then (some (x12, false)) else (if x0 = x1 then ((spec_l3Digests.f k x3 x12).bind fun t602 => (some (t602, true))) else ((spec_l3PeakOf.f k x0 x2).bind fun bt605 => ((spec_l3Depth.f k bt605.2).bind fun t607 => (if 0 ≤ t607 then (if t607 ≤ (x3.length : Int) then ((spec_l3Above.f k 0 x1 x2 x0 x1 x4).bind fun t612 => ((spec_l3Digests.f k (x3.take (t607 : Int).toNat) t612).bind fun t615 => (some (t615, true)))) else (none)) else (none)))))
def spec_GrowthLift.f (k : Nat) (a0 : Int) (a1 : Int) (a2 : Int) (l3 : List (S29)) (l4 : List (S29)) : Option ((List (S29)) × Bool) := (some (([] : List (S29)) : List (S29))).bind fun y595 => ((spec_l3Sizes.f a0 a1).bind fun t598 => (if t598 = true then ((spec_l3Place.f a0 a2).bind fun t599 => (if t599 = true then ((spec_PathLen.f k a0 a2).bind fun t600 => (if (l3.length : Int) = t600 then ((spec_GrowthLen.f k a0 a1).bind fun t601 => (spec_GrowthLift.j0 k a0 a1 a2 l3 l4 y595 ((l4.length : Int) != t601))) else (spec_GrowthLift.j0 k a0 a1 a2 l3 l4 y595 true))) else (spec_GrowthLift.j0 k a0 a1 a2 l3 l4 y595 true))) else (spec_GrowthLift.j0 k a0 a1 a2 l3 l4 y595 true)))
def spec_GrowthLift.T7 : Bool × List (List Nat × List Nat) := (true, [([], []), ([], []), ([1], [1]), ([0, 2], [0, 2]), ([], []), ([], []), ([], []), ([], []), ([], []), ([4, 5, 6, 7, 8, 2], [4, 5, 6, 7, 8]), ([3, 9, 9], [3, 9]), ([10, 10, 0, 1, 2, 3, 4, 5, 6, 7, 8, 9, 10], [10]), ([11, 0, 1, 2, 3, 4, 5, 6, 7, 8, 9, 10, 11], [])])
def spec_GrowthLift.B7 : List Nat := [0, 0, 2, 7, 0, 0, 0, 0, 0, 502, 1023, 2047, 4095]
theorem spec_GrowthLift.tab7 : rtab .any (opsOf Try.f41 7) = spec_GrowthLift.T7 := by kernel_rfl
theorem spec_GrowthLift.bits7 : waitsOk spec_GrowthLift.T7.2 spec_GrowthLift.B7 = true := by kernel_rfl
set_option maxHeartbeats 8000000 in
set_option maxRecDepth 100000 in
theorem spec_GrowthLift.calls (k : Nat) (a0 : Int) (a1 : Int) (a2 : Int) (A3 : Option Addr) (c3 : Nat) (l3 : List (S29)) (A4 : Option Addr) (c4 : Nat) (l4 : List (S29)) (r1 : List (S29)) (r2 : Bool) (w : World) (hr3 : Kd.C k29 w A3 l3.length l3) (hc3 : l3.length ≤ c3) (hr4 : Kd.C k29 w A4 l4.length l4) (hc4 : l4.length ≤ c4) (h : spec_GrowthLift.f k a0 a1 a2 l3 l4 = some (r1, r2)) :
    Calls Try.prog 41 #[.int .i64 a0, .int .i64 a1, .int .i64 a2, .slice A3 l3.length c3, .slice A4 l4.length c4] w fun e w' => ∃ v0_ : Value, e = .returned (.tuple #[v0_, .bool r2]) ∧ Kd.R k29 29 w' w.heap.size (fun _ => True) v0_ r1 ∧ Below w.heap.size w w' := by
  have HR3 := Aside0.mk hr3
  have HC3 := Aside0.mk hc3
  clear hr3 hc3
  have HR4 := Aside0.mk hr4
  have HC4 := Aside0.mk hc4
  clear hr4 hc4
  have HB := Aside0.mk (Below.refl w.heap.size w)
  have H : ((some (([] : List (S29)) : List (S29))).bind fun y595 => ((spec_l3Sizes.f a0 a1).bind fun t598 => (if t598 = true then ((spec_l3Place.f a0 a2).bind fun t599 => (if t599 = true then ((spec_PathLen.f k a0 a2).bind fun t600 => (if (l3.length : Int) = t600 then ((spec_GrowthLen.f k a0 a1).bind fun t601 => (spec_GrowthLift.j0 k a0 a1 a2 l3 l4 y595 ((l4.length : Int) != t601))) else (spec_GrowthLift.j0 k a0 a1 a2 l3 l4 y595 true))) else (spec_GrowthLift.j0 k a0 a1 a2 l3 l4 y595 true))) else (spec_GrowthLift.j0 k a0 a1 a2 l3 l4 y595 true)))) = some (r1, r2) := h
  clear h
  obtain ⟨y595, hy595⟩ : ∃ y_ : List (S29), y_ = (([] : List (S29))) := ⟨_, rfl⟩
  replace H : ((spec_l3Sizes.f a0 a1).bind fun t598 => (if t598 = true then ((spec_l3Place.f a0 a2).bind fun t599 => (if t599 = true then ((spec_PathLen.f k a0 a2).bind fun t600 => (if (l3.length : Int) = t600 then ((spec_GrowthLen.f k a0 a1).bind fun t601 => (spec_GrowthLift.j0 k a0 a1 a2 l3 l4 y595 ((l4.length : Int) != t601))) else (spec_GrowthLift.j0 k a0 a1 a2 l3 l4 y595 true))) else (spec_GrowthLift.j0 k a0 a1 a2 l3 l4 y595 true))) else (spec_GrowthLift.j0 k a0 a1 a2 l3 l4 y595 true))) = some (r1, r2) := by first | (rw [hy595]; with_reducible exact H) | (have H2_ := (Option.bind_some _ _).symm.trans H; rw [hy595]; with_reducible exact H2_) | (have H2_ := (Option.bind_some _ _).symm.trans H; with_reducible exact H2_) | with_reducible exact H | (rw [hy595]; exact H) | exact H
  have Ny595 := Aside0.mk hy595
  clear hy595
  have HC6 := Aside0.mk H
  clear H
  go_enter Try.func41, Try.ntmps41
  go_upto_region 2 with (first | ((with_reducible refine gate_dst (N := 15) rfl ?_); (try (refine gate_guard (by rfl) ?_; dsimp only)); refine Kd.R_lit k29 _ 29 ?hg (N := 15) ?hd (xs := ([] : List (S29))) (inner := []) (ok := fun _ => True) (okp := fun _ => True) ?hr ?hp (fun _ hk => hk) trivial (Below.refl _ _) (Nat.le_refl _) (by simp) ?_; (case hd => rfl); (case hg => rfl); (case hr => first | (go_simp; done) | (go_simp; rfl)); (case hp => exact (Reps.none _ _)); intro v596 w7 ho8 hb hg_ hnew_; clear hg_ hnew_; (first | rw [← Ny595.out] at ho8 | (simp only [Int.reduceToNat] at ho8; rw [← Ny595.out] at ho8)); have HO597 := Aside0.mk (Kd.R_lower ho8 (below_size bel_)); replace HB := stepB_ hb; clear hb ho8))
  (try simp only [Act.put, List.setIfInBounds_toArray, List.set_cons_zero, List.set_cons_succ])
  go_cut [41] (fun v41 wc => ∃ (kq : Nat) (x41_5 : Bool), v41 = .bool x41_5 ∧ Aside0 (spec_GrowthLift.j0 kq a0 a1 a2 l3 l4 y595 x41_5 = some (r1, r2)) ∧ Aside0 (kq ≤ k) ∧ Aside0 (Kd.R k29 29 wc w.heap.size (fun _ => True) v596 y595) ∧ Aside0 (Below w.heap.size w wc))
  case first =>
    have H := HC6.out
    clear HC6
    obtain ⟨t598, A9, H⟩ := bnd_ H
    by_cases c10 : t598 = true
    · subst c10
      rw [if_pos rfl] at H
      obtain ⟨t599, A11, H⟩ := bnd_ H
      by_cases c12 : t599 = true
      · subst c12
        rw [if_pos rfl] at H
        obtain ⟨t600, A13, H⟩ := bnd_ H
        by_cases c14 : (l3.length : Int) = t600
        · rw [if_pos c14] at H
          have c14b0 : ((l3.length : Int) == t600) = true := beq_iff_eq.mpr c14
          have c14b1 : ((l3.length : Int) != t600) = false := bne_eq_false_iff_eq.mpr c14
          clear c14
          (first | rw [c14b0] | (simp only [i64_w, i32_w]; rw [c14b0]) | skip)
          obtain ⟨t601, A15, H⟩ := bnd_ H
          have H' := Aside0.mk H
          clear H
          go_wp2_with (first | ((with_reducible refine gate_callee (f := 66) rfl ?_); refine goL_ (some 18) Try.func66 #[.int .i64 a0, .int .i64 a1] ?_; (with_reducible refine (spec_l3Sizes.calls a0 a1 true _ A9.out).mono ?_); rintro e w' ⟨rfl, ⟨nd, rfl⟩⟩; refine ⟨_, rfl, ?_⟩) | (go_at_call 79; (with_reducible refine (spec_l3Place.calls a0 a2 true _ A11.out).mono ?_); rintro e w' ⟨rfl, ⟨nd, rfl⟩⟩) | (go_at_call 81; (with_reducible refine (spec_PathLen.calls k a0 a2 t600 _ A13.out).mono ?_); rintro e w' ⟨rfl, ⟨nd, rfl⟩⟩) | (go_at_call 32; (with_reducible refine (spec_GrowthLen.calls k a0 a1 t601 _ A15.out).mono ?_); rintro e w' ⟨rfl, ⟨nd, rfl⟩⟩))
          go_meet
          case rel => exact ⟨_, (((l4.length : Int) != t601)), (by first | rfl | (simp; done) | (simp [*]; done)), H', ⟨by first | omega | exact Nat.le_refl _⟩, ⟨kdU_ HO597.out⟩, ⟨bel_⟩⟩
        · rw [if_neg c14] at H
          have c14b0 : ((l3.length : Int) == t600) = false := beq_eq_false_iff_ne.mpr c14
          have c14b1 : ((l3.length : Int) != t600) = true := bne_iff_ne.mpr c14
          (first | rw [c14b0] | (simp only [i64_w, i32_w]; rw [c14b0]) | skip)
          have H' := Aside0.mk H
          clear H
          go_wp2_with (first | ((with_reducible refine gate_callee (f := 66) rfl ?_); refine goL_ (some 18) Try.func66 #[.int .i64 a0, .int .i64 a1] ?_; (with_reducible refine (spec_l3Sizes.calls a0 a1 true _ A9.out).mono ?_); rintro e w' ⟨rfl, ⟨nd, rfl⟩⟩; refine ⟨_, rfl, ?_⟩) | (go_at_call 79; (with_reducible refine (spec_l3Place.calls a0 a2 true _ A11.out).mono ?_); rintro e w' ⟨rfl, ⟨nd, rfl⟩⟩) | (go_at_call 81; (with_reducible refine (spec_PathLen.calls k a0 a2 t600 _ A13.out).mono ?_); rintro e w' ⟨rfl, ⟨nd, rfl⟩⟩))
          go_meet
          case rel => exact ⟨_, (true), (by first | rfl | (simp; done) | (simp [*]; done)), H', ⟨by first | omega | exact Nat.le_refl _⟩, ⟨kdU_ HO597.out⟩, ⟨bel_⟩⟩
      · replace c12 := Bool.eq_false_iff.mpr c12
        subst c12
        rw [if_neg (show ¬ (false = true) by decide)] at H
        have H' := Aside0.mk H
        clear H
        go_wp2_with (first | ((with_reducible refine gate_callee (f := 66) rfl ?_); refine goL_ (some 18) Try.func66 #[.int .i64 a0, .int .i64 a1] ?_; (with_reducible refine (spec_l3Sizes.calls a0 a1 true _ A9.out).mono ?_); rintro e w' ⟨rfl, ⟨nd, rfl⟩⟩; refine ⟨_, rfl, ?_⟩) | (go_at_call 79; (with_reducible refine (spec_l3Place.calls a0 a2 false _ A11.out).mono ?_); rintro e w' ⟨rfl, ⟨nd, rfl⟩⟩))
        go_meet
        case rel => exact ⟨_, (true), (by first | rfl | (simp; done) | (simp [*]; done)), H', ⟨by first | omega | exact Nat.le_refl _⟩, ⟨kdU_ HO597.out⟩, ⟨bel_⟩⟩
    · replace c10 := Bool.eq_false_iff.mpr c10
      subst c10
      rw [if_neg (show ¬ (false = true) by decide)] at H
      have H' := Aside0.mk H
      clear H
      go_wp2_with (first | ((with_reducible refine gate_callee (f := 66) rfl ?_); refine goL_ (some 18) Try.func66 #[.int .i64 a0, .int .i64 a1] ?_; (with_reducible refine (spec_l3Sizes.calls a0 a1 false _ A9.out).mono ?_); rintro e w' ⟨rfl, ⟨nd, rfl⟩⟩; refine ⟨_, rfl, ?_⟩))
      go_meet
      case rel => exact ⟨_, (true), (by first | rfl | (simp; done) | (simp [*]; done)), H', ⟨by first | omega | exact Nat.le_refl _⟩, ⟨kdU_ HO597.out⟩, ⟨bel_⟩⟩
  case rest =>
    clear HC6
    (try clear c3); (try clear c4); (try clear c10); (try clear c12); (try clear c14); (try clear c14b0); (try clear c14b1)
    obtain ⟨kq, x41_5, rfl, HA, HJ5, HO_12, HB⟩ := hcut
    cases kq with
    | zero => exact absurd HA.out (by simp [spec_GrowthLift.j0])
    | succ kj5 =>
      have H := HA.out
      clear HA
      simp only [spec_GrowthLift.j0] at H
      by_cases c16 : x41_5 = true
      · subst c16
        rw [if_pos rfl] at H
        simp only [Option.some.injEq, Prod.mk.injEq] at H
        obtain ⟨rfl, rfl⟩ := H
        go_wp2
        go_ret2
        exact ⟨_, rfl_, by (with_reducible repeat (first | apply Kd.R_alloc | apply Kd.R_drewN | apply Kd.R_drew)); exact HO_12.out, bel_⟩
      · replace c16 := Bool.eq_false_iff.mpr c16
        subst c16
        rw [if_neg (show ¬ (false = true) by decide)] at H
        by_cases c17 : a0 = a1
        · rw [if_pos c17] at H
          have c17b0 : (a0 == a1) = true := beq_iff_eq.mpr c17
          have c17b1 : (a0 != a1) = false := bne_eq_false_iff_eq.mpr c17
          clear c17
          obtain ⟨t602, A18, H⟩ := bnd_ H
          simp only [Option.some.injEq, Prod.mk.injEq] at H
          obtain ⟨rfl, rfl⟩ := H
          obtain ⟨Ao19, co19, eo19⟩ := Kd.R_slice HO_12.out
          subst eo19
          go_wp2_with (first | ((with_reducible refine gate_callee (f := 82) rfl ?_); refine goL_ (some 48) Try.func82 #[.slice A3 l3.length c3, .slice Ao19 y595.length co19] ?_; (with_reducible refine (spec_l3Digests.calls kj5 _ _ l3 _ _ y595 t602 _ ?side1 ?side2 ?side3 ?side4 A18.out).mono ?_); (case side1 => repeat (first | exact (Kd.C_below HR3.out HB.out) | (with_reducible refine Kd.C_alloc ?_ _) | (with_reducible refine Kd.C_drewN ?_ _) | (with_reducible refine Kd.C_drew ?_))); (case side2 => exact HC3.out); (case side3 => repeat (first | exact (Kd.R_reads' HO_12.out).2.2 | (with_reducible refine Kd.C_alloc ?_ _) | (with_reducible refine Kd.C_drewN ?_ _) | (with_reducible refine Kd.C_drew ?_))); (case side4 => exact (Kd.R_reads' HO_12.out).2.1); rintro e w20 ⟨v603, rfl, ho0, hb⟩; refine ⟨_, rfl, ?_⟩; have HO604 := Aside0.mk (Kd.R_lower (Kd.R_new' ho0 (Kd.R_lt (kdU_ HO_12.out))) (below_size bel_)); replace HO_12 := Aside0.mk (Kd.R_elder' (kdU_ HO_12.out) (Kd.R_base ho0) hb); replace HB := stepB_ hb; (try clear hb); (try clear hk); (try clear ho0)))
          go_ret2
          exact ⟨_, rfl_, by (with_reducible repeat (first | apply Kd.R_alloc | apply Kd.R_drewN | apply Kd.R_drew)); exact Kd.R_mono HO604.out (fun _ hk => trivial), bel_⟩
        · rw [if_neg c17] at H
          have c17b0 : (a0 == a1) = false := beq_eq_false_iff_ne.mpr c17
          have c17b1 : (a0 != a1) = true := bne_iff_ne.mpr c17
          obtain ⟨⟨t605, t606⟩, A21, H⟩ := bnd_ H
          dsimp only at H
          obtain ⟨t607, A22, H⟩ := bnd_ H
          by_cases c23 : 0 ≤ t607
          · rw [if_pos c23] at H
            have c23b0 := eq_true c23
            have c23b1 : decide (0 ≤ t607) = true := decide_eq_true c23
            clear c23
            by_cases c24 : t607 ≤ (l3.length : Int)
            · rw [if_pos c24] at H
              have c24b0 := eq_true c24
              have c24b1 : decide (t607 ≤ (l3.length : Int)) = true := decide_eq_true c24
              clear c24
              obtain ⟨y608, hy608⟩ : ∃ y_ : List (S29), y_ = (l3.take (t607 : Int).toNat) := ⟨_, rfl⟩
              replace H : ((spec_l3Above.f kj5 0 a1 a2 a0 a1 l4).bind fun t612 => ((spec_l3Digests.f kj5 y608 t612).bind fun t615 => (some (t615, true)))) = some (r1, r2) := by first | (rw [hy608]; with_reducible exact H) | (have H2_ := (Option.bind_some _ _).symm.trans H; rw [hy608]; with_reducible exact H2_) | (have H2_ := (Option.bind_some _ _).symm.trans H; with_reducible exact H2_) | with_reducible exact H | (rw [hy608]; exact H) | exact H
              have Ny608 := Aside0.mk hy608
              clear hy608
              obtain ⟨t612, A25, H⟩ := bnd_ H
              obtain ⟨t615, A26, H⟩ := bnd_ H
              simp only [Option.some.injEq, Prod.mk.injEq] at H
              obtain ⟨rfl, rfl⟩ := H
              try go_wp2_with (first | ((with_reducible refine gate_callee (f := 83) rfl ?_); refine goL_ (some 52) Try.func83 #[.int .i64 a0, .int .i64 a2] ?_; (with_reducible refine (spec_l3PeakOf.calls kj5 a0 a2 t605 t606 _ A21.out).mono ?_); rintro e w' ⟨rfl, ⟨nd, rfl⟩⟩; refine ⟨_, rfl, ?_⟩))
              (try (rw [drewN_self wc]; generalize hq_ : World.drewN wc _ = wc; have n0_ : Aside0 (Kd.R k29 29 wc w.heap.size (fun _ => True) v596 y595) := ⟨by rw [← hq_]; exact (kdU_ HO_12.out)⟩; have n1_ : Aside0 (Below w.heap.size w wc) := ⟨by rw [← hq_]; exact bel_⟩; clear HO_12 HB hq_; have HO_12 := n0_; have HB := n1_; clear n0_ n1_))
              replace HO_12 := Aside0.mk (Kd.R_drew HO_12.out)
              replace HB := Aside0.mk (below_drew1 HB.out)
              refine start_ (n := 13) (S := fun w' => True) (ds := []) #[false, false, false, false, false, false, false, false, false, false, false, false, false] (by kernel_rfl) rfl rfl trivial (fun hHeld => ?_); refine with_tabW spec_GrowthLift.tab7 spec_GrowthLift.bits7 (fun HT_ HW_ => ?_)
              generalize wc.drew = w27 at HO_12 HB hHeld ⊢
              refine pureP_ 0 (some 55) #[true, false, false, false, false, false, false, false, false, false, false, false, false] HT_ ?_
              refine pureP_ 1 (some 56) #[true, true, false, false, false, false, false, false, false, false, false, false, false] HT_ ?_
              refine pureP_ 4 (some 59) #[true, true, false, false, true, false, false, false, false, false, false, false, false] HT_ ?_
              refine pureP_ 5 (some 60) #[true, true, false, false, true, true, false, false, false, false, false, false, false] HT_ ?_
              refine pureP_ 6 (some 61) #[true, true, false, false, true, true, true, false, false, false, false, false, false] HT_ ?_
              refine pureP_ 7 (some 62) #[true, true, false, false, true, true, true, true, false, false, false, false, false] HT_ ?_
              refine pureP_ 8 (some 63) #[true, true, false, false, true, true, true, true, true, false, false, false, false] HT_ ?_
              refine oneP_ 2 (some 57) #[true, true, true, false, true, true, true, true, true, false, false, false, false] HT_ (fun K hK => ?_)
              refine goN_ Try.func84 #[.int .i64 t606] ?_
              with_reducible refine (spec_l3Depth.calls kj5 t606 t607 _ A22.out).mono ?_
              rintro e w' ⟨rfl, ⟨nd, rfl⟩⟩
              refine ⟨_, rfl, ?_⟩
              have q28 : (t607 : Int) ≤ ((l3.length : Int) : Int) := ofd_
              obtain ⟨i028, hi028, _, hsz28, _⟩ := info_parts info29
              have hroom28 : l3.length ≤ c3 := HC3.out
              have hC28 : Kd.C k29 _ A3 l3.length l3 := HR3.out
              have hcut28 := cut_to (P := Try.prog) 49 29 .i64 Try.underlying49 hi028 A3 l3.length c3 t607 (ofd_) q28 hroom28
              have hr28 := Kd.C_take (m := (t607 : Int).toNat) hC28 (by omega)
              have hy28 : y608.length = (t607 : Int).toNat := (by rw [Ny608.out, List.length_take]; omega)
              rw [← Ny608.out] at hr28
              rw [← hy28] at hcut28
              have HR611 := Aside0.mk hr28
              have HC611 := Aside0.mk (show y608.length ≤ c3 from by omega)
              clear hr28 hC28 hroom28 hi028 hsz28
              have KY28 := Aside0.mk hy28
              clear hy28
              replace q28 := eq_true q28
              refine hK.out _ _ trivial (fun hHeld => ?_)
              clear hK K
              refine norm_ (a' := ?_) ?_ ?_
              rotate_left
              · show Act.put _ (some 57) _ = _
                simp only [Act.put, List.setIfInBounds_toArray, List.set_cons_zero, List.set_cons_succ, i64_w, i32_w]
                rfl
              refine pureP_ 3 (some 58) #[true, true, true, true, true, true, true, true, true, false, false, false, false] HT_ ?_
              refine oneP_ 9 (some 64) #[true, true, true, true, true, true, true, true, true, true, false, false, false] HT_ (fun K hK => ?_)
              refine goN_ Try.func85 #[.int .i64 0, .int .i64 a1, .int .i64 a2, .int .i64 a0, .int .i64 a1, .slice A4 l4.length c4] ?_
              with_reducible refine (spec_l3Above.calls kj5 0 a1 a2 a0 a1 _ _ l4 t612 _ ?side1 ?side2 A25.out).mono ?_
              (case side1 => repeat (first | exact (Kd.C_below HR4.out bel_) | (with_reducible refine Kd.C_alloc ?_ _) | (with_reducible refine Kd.C_drewN ?_ _) | (with_reducible refine Kd.C_drew ?_)))
              (case side2 => exact HC4.out)
              rintro e w29 ⟨v613, rfl, ho0, hb⟩
              refine ⟨_, rfl, ?_⟩
              have HO614 := Aside0.mk (Kd.R_lower (Kd.R_new' ho0 (Kd.R_lt (kdU_ HO_12.out))) (below_size bel_))
              replace HO_12 := Aside0.mk (Kd.R_elder' (kdU_ HO_12.out) (Kd.R_base ho0) hb)
              replace HB := stepB_ hb
              (try clear hb); (try clear hk); (try clear ho0)
              obtain ⟨Ao30, co30, eo30⟩ := Kd.R_slice HO614.out
              (first | subst eo30 | (injection eo30 with f1_ f2_ f3_; have f4_ := f1_.symm; have f5_ := f3_.symm; clear f1_ f2_ f3_; subst f4_; subst f5_))
              refine hK.out _ _ trivial (fun hHeld => ?_)
              clear hK K
              refine norm_ (a' := ?_) ?_ ?_
              rotate_left
              · show Act.put _ (some 64) _ = _
                simp only [Act.put, List.setIfInBounds_toArray, List.set_cons_zero, List.set_cons_succ, i64_w, i32_w]
                rfl
              refine oneP_ 10 (some 65) #[true, true, true, true, true, true, true, true, true, true, true, false, false] HT_ (fun K hK => ?_)
              refine goN_ Try.func82 #[.slice A3 y608.length c3, .slice Ao30 t612.length co30] ?_
              with_reducible refine (spec_l3Digests.calls kj5 _ _ y608 _ _ t612 t615 _ ?side1 ?side2 ?side3 ?side4 A26.out).mono ?_
              (case side1 => repeat (first | exact (Kd.C_below HR611.out HB.out) | (with_reducible refine Kd.C_alloc ?_ _) | (with_reducible refine Kd.C_drewN ?_ _) | (with_reducible refine Kd.C_drew ?_)))
              (case side2 => exact HC611.out)
              (case side3 => repeat (first | exact (Kd.R_reads' HO614.out).2.2 | (with_reducible refine Kd.C_alloc ?_ _) | (with_reducible refine Kd.C_drewN ?_ _) | (with_reducible refine Kd.C_drew ?_)))
              (case side4 => exact (Kd.R_reads' HO614.out).2.1)
              rintro e w31 ⟨v616, rfl, ho0, hb⟩
              refine ⟨_, rfl, ?_⟩
              have HO617 := Aside0.mk (Kd.R_lower (Kd.R_new' (Kd.R_new' ho0 (Kd.R_lt (kdU_ HO_12.out))) (Kd.R_lt (kdU_ HO614.out))) (below_size bel_))
              replace HO_12 := Aside0.mk (Kd.R_elder' (kdU_ HO_12.out) (Kd.R_base ho0) hb)
              replace HO614 := Aside0.mk (Kd.R_elder' (kdU_ HO614.out) (Kd.R_base ho0) hb)
              replace HB := stepB_ hb
              (try clear hb); (try clear hk); (try clear ho0)
              refine hK.out _ _ trivial (fun hHeld => ?_)
              clear hK K
              refine norm_ (a' := ?_) ?_ ?_
              rotate_left
              · show Act.put _ (some 65) _ = _
                simp only [Act.put, List.setIfInBounds_toArray, List.set_cons_zero, List.set_cons_succ, i64_w, i32_w]
                rfl
              refine pureP_ 11 (some 10) #[true, true, true, true, true, true, true, true, true, true, true, true, false] HT_ ?_
              refine pureP_ 12 (some 11) #[true, true, true, true, true, true, true, true, true, true, true, true, true] HT_ ?_
              refine done_ (done_of HT_.out (by kernel_rfl)) ?_
              try go_wp2
              go_ret2
              exact ⟨_, rfl_, by (with_reducible repeat (first | apply Kd.R_alloc | apply Kd.R_drewN | apply Kd.R_drew)); exact Kd.R_mono HO617.out (fun _ hk => trivial), bel_⟩
            · rw [if_neg c24] at H
              exact absurd H (by simp)
          · rw [if_neg c23] at H
            exact absurd H (by simp)
end
end Go.Proofs.Ytflckegggopdnaa.B
