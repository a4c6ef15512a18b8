/- What the Go functions of these names do; condition: .f gives an answer. -/
import Derived.Test.YtflckegggopdnaaZCHP0
import Derived.Test.YtflckegggopdnaaZCHP5
import Derived.Test.YtflckegggopdnaaZCHP7
import Derived.Test.YtflckegggopdnaaZCHP6
import Derived.Test.YtflckegggopdnaaZCHP4
import Derived.Test.YtflckegggopdnaaZCHP2
namespace Go.Proofs.Ytflckegggopdnaa.B
open Go.RowKit Go.Proofs.YtflckegggopdnaaW.PrintWords Go.Proofs.YtflckegggopdnaaW.PrintLast Go.Proofs.YtflckegggopdnaaW.PrintMore
attribute [local go_sem] max2_int min2_int max_two min_two max_three min_three max_four min_four
set_option linter.unusedVariables false
set_option maxHeartbeats 8000000
set_option maxRecDepth 100000
set_option linter.unusedSimpArgs false
section
mutual
def impl_GrowthLift.j0 : Nat → Int → Int → Int → List (S29) → List (S29) → Bool → Option ((List (S29)) × Bool)
 | 0, _, _, _, _, _, _ => none
 | k + 1, x0, x1, x2, x3, x4, x48 => if x48 = true then (some (([] : List (S29)), false)) else (if x0 = x1 then ((impl_Digest.f x3).bind fun t783 => (some (t783, true))) else ((impl_known.f k x0 x1 x4).bind fun t786 => ((impl_way.f k x1 x2).bind fun t787 => (impl_GrowthLift.l0 k x2 x3 t786 t787 ([] : List (S29)) 0 0 x1))))
def impl_GrowthLift.l0 : Nat → Int → List (S29) → MapD → List (S100) → List (S29) → Int → Int → Int → Option ((List (S29)) × Bool)
 | 0, _, _, _, _, _, _, _, _ => none
 | k + 1, x2, x3, x12, x13, x14, x16, x791000, x791001 => (impl_lookAt.f x12 x791000 x791001).bind fun bt791 => (if bt791.2.2.2.2 = true then ((impl_way.f k (wrap64 (x791001 - x791000)) (wrap64 (x2 - x791000))).bind fun t818 => (if 0 ≤ (t818.length : Int) then (if (t818.length : Int) ≤ (x3.length : Int) then ((impl_Digest.f (x3.take ((t818.length : Int) : Int).toNat)).bind fun t825 => (impl_GrowthLift.l1 k x14 t825 (wrap64 ((x14.length : Int) - 1)))) else (none)) else (none))) else (if 0 ≤ x16 then (if x16 < (x13.length : Int) then ((impl_node_halves.f k ((rd_T100 x13 x16).f0) ((rd_T100 x13 x16).f1)).bind fun bt798 => (if x2 < bt798.2.1 then ((impl_digestBy.f k x12 bt798.2.2.1 bt798.2.2.2).bind fun bt804 => (if x14.length < 4398046511104 then (impl_GrowthLift.l0 k x2 x3 x12 x13 (x14 ++ [(⟨bt804.1, bt804.2.1, bt804.2.2.1, bt804.2.2.2⟩ : S29)]) (wrap64 (x16 + 1)) bt798.1 bt798.2.1) else (none))) else ((impl_digestBy.f k x12 bt798.1 bt798.2.1).bind fun bt811 => (if x14.length < 4398046511104 then (impl_GrowthLift.l0 k x2 x3 x12 x13 (x14 ++ [(⟨bt811.1, bt811.2.1, bt811.2.2.1, bt811.2.2.2⟩ : S29)]) (wrap64 (x16 + 1)) bt798.2.2.1 bt798.2.2.2) else (none))))) else (none)) else (none)))
def impl_GrowthLift.l1 : Nat → List (S29) → List (S29) → Int → Option ((List (S29)) × Bool)
 | 0, _, _, _ => none
 | k + 1, x14, x21, x22 => if x22 ≥ 0 then (if 0 ≤ x22 then (if x22 < (x14.length : Int) then (if x21.length < 4398046511104 then (impl_GrowthLift.l1 k x14 (x21 ++ [(⟨(rd_T29 x14 x22).f0, (rd_T29 x14 x22).f1, (rd_T29 x14 x22).f2, (rd_T29 x14 x22).f3⟩ : S29)]) (wrap64 (x22 - 1))) else (none)) else (none)) else (none)) else ((impl_Digest.f x21).bind fun t832 => (some (t832, true)))
end
def impl_GrowthLift.f (k : Nat) (a0 a1 a2 : Int) (l3 l4 : List (S29)) : Option ((List (S29)) × Bool) := (impl_mayGrow.f a0 a1).bind fun t779 => (if t779 = true then ((impl_PathLen.f k a0 a2).bind fun t780 => (if t780 < 0 then (impl_GrowthLift.j0 k a0 a1 a2 l3 l4 true) else ((impl_PathLen.f k a0 a2).bind fun t781 => (if (l3.length : Int) = t781 then ((impl_GrowthLen.f k a0 a1).bind fun t782 => (impl_GrowthLift.j0 k a0 a1 a2 l3 l4 ((l4.length : Int) != t782))) else (impl_GrowthLift.j0 k a0 a1 a2 l3 l4 true))))) else (impl_GrowthLift.j0 k a0 a1 a2 l3 l4 true))
theorem impl_GrowthLift.calls (k : Nat) (a0 a1 a2 : Int) (A3 : Option Addr) (c3 : Nat) (l3 : List (S29)) (A4 : Option Addr) (c4 : Nat) (l4 r1 : List (S29)) (r2 : Bool) (w : World) (hr3 : Kd.C k29 w A3 l3.length l3) (hc3 : l3.length ≤ c3) (hr4 : Kd.C k29 w A4 l4.length l4) (hc4 : l4.length ≤ c4) (h : impl_GrowthLift.f k a0 a1 a2 l3 l4 = some (r1, r2)) :
  Calls Try.prog 38 #[.int .i64 a0, .int .i64 a1, .int .i64 a2, .slice A3 l3.length c3, .slice A4 l4.length c4] w fun e w' => ∃ v0_ : Value, e = .returned (.tuple #[v0_, .bool r2]) ∧ Kd.R k29 29 w' w.heap.size (fun _ => True) v0_ r1 ∧ Below w.heap.size w w' := by
 have hu100 := Try.underlying100
 have hu29 := Try.underlying29
 have HR3 := Aside0.mk hr3
 have HC3 := Aside0.mk hc3
 clear hr3 hc3
 have HR4 := Aside0.mk hr4
 have HC4 := Aside0.mk hc4
 clear hr4 hc4
 have HB := a_ (Below.refl w.heap.size w)
 have H := h
 unfold impl_GrowthLift.f at H
 clear h
 have HC6 := Aside0.mk H
 clear H
 go_enter Try.func38, Try.ntmps38
 go_upto_region 1 with (fail)
 go_cut [48] (fun v48 wc => ∃ (kq : Nat) (x48_5 : Bool), v48 = .bool x48_5 ∧ Aside0 (impl_GrowthLift.j0 kq a0 a1 a2 l3 l4 x48_5 = some (r1, r2)) ∧ Aside0 (kq ≤ k) ∧ Aside0 (Below w.heap.size w wc))
 case first =>
  have H := HC6.out
  clear HC6
  obtain ⟨t779, A7, H⟩ := bnd_ H
  by_cases c8 : t779 = true
  ·subst c8
   rw [if_pos rfl] at H
   obtain ⟨t780, A9, H⟩ := bnd_ H
   by_cases c10 : t780 < 0
   ·rw [if_pos c10] at H
    have c10b0 := decide_eq_true c10
    clear c10
    (first | rw [c10b0] | (simp only [i64_w, i32_w]; rw [c10b0]) | skip)
    have H' := Aside0.mk H
    clear H
    go_wp2_with (first | (refine gcL_ 62 (some 25) Try.func62 #[.int .i64 a0, .int .i64 a1] ?_; (with_reducible refine (impl_mayGrow.calls a0 a1 true _ A7.out).mono ?_); rintro e w' ⟨rfl, ⟨nd, rfl⟩⟩; refine ⟨_, rfl, ?_⟩) | (go_at_call 78; (with_reducible refine (impl_PathLen.calls k a0 a2 t780 _ A9.out).mono ?_); rintro e w11 ⟨rfl, hb⟩; replace HB := stepB_ hb; (try clear hb)))
    go_meet
    case rel => exact ⟨_, (true), rl_, H', ⟨by first | omega | exact Nat.le_refl _⟩, ⟨bel_⟩⟩
   ·rw [if_neg c10] at H
    have c10b0 := decide_eq_false c10
    clear c10
    (first | rw [c10b0] | (simp only [i64_w, i32_w]; rw [c10b0]) | skip)
    obtain ⟨t781, A12, H⟩ := bnd_ H
    have E_ := Option.some.inj (A9.out.symm.trans A12.out)
    subst E_
    by_cases c13 : (l3.length : Int) = t780
    ·rw [if_pos c13] at H
     have c13b0 := beq_iff_eq.mpr c13
     have c13b1 := bne_eq_false_iff_eq.mpr c13
     clear c13
     obtain ⟨t782, A14, H⟩ := bnd_ H
     have H' := Aside0.mk H
     clear H
     go_wp2_with (first | (refine gcL_ 62 (some 25) Try.func62 #[.int .i64 a0, .int .i64 a1] ?_; (with_reducible refine (impl_mayGrow.calls a0 a1 true _ A7.out).mono ?_); rintro e w' ⟨rfl, ⟨nd, rfl⟩⟩; refine ⟨_, rfl, ?_⟩) | (go_at_call 78; (with_reducible refine (impl_PathLen.calls k a0 a2 t780 _ A9.out).mono ?_); rintro e w15 ⟨rfl, hb⟩; replace HB := stepB_ hb; (try clear hb)) | (go_at_call 78; (with_reducible refine (impl_PathLen.calls k a0 a2 t780 _ A12.out).mono ?_); rintro e w16 ⟨rfl, hb⟩; replace HB := stepB_ hb; (try clear hb)) | (go_at_call 31; (with_reducible refine (impl_GrowthLen.calls k a0 a1 t782 _ A14.out).mono ?_); rintro e w17 ⟨rfl, hb⟩; replace HB := stepB_ hb; (try clear hb)))
     go_meet
     case rel => exact ⟨_, (((l4.length : Int) != t782)), rl_, H', ⟨by first | omega | exact Nat.le_refl _⟩, ⟨bel_⟩⟩
    ·rw [if_neg c13] at H
     have c13b0 := beq_eq_false_iff_ne.mpr c13
     have c13b1 := bne_iff_ne.mpr c13
     have H' := Aside0.mk H
     clear H
     go_wp2_with (first | (refine gcL_ 62 (some 25) Try.func62 #[.int .i64 a0, .int .i64 a1] ?_; (with_reducible refine (impl_mayGrow.calls a0 a1 true _ A7.out).mono ?_); rintro e w' ⟨rfl, ⟨nd, rfl⟩⟩; refine ⟨_, rfl, ?_⟩) | (go_at_call 78; (with_reducible refine (impl_PathLen.calls k a0 a2 t780 _ A9.out).mono ?_); rintro e w18 ⟨rfl, hb⟩; replace HB := stepB_ hb; (try clear hb)) | (go_at_call 78; (with_reducible refine (impl_PathLen.calls k a0 a2 t780 _ A12.out).mono ?_); rintro e w19 ⟨rfl, hb⟩; replace HB := stepB_ hb; (try clear hb)))
     go_meet
     case rel => exact ⟨_, (true), rl_, H', ⟨by first | omega | exact Nat.le_refl _⟩, ⟨bel_⟩⟩
  ·replace c8 := Bool.eq_false_iff.mpr c8
   subst c8
   rw [if_neg (show ¬ (false = true) by decide)] at H
   have H' := Aside0.mk H
   clear H
   go_wp2_with (first | (refine gcL_ 62 (some 25) Try.func62 #[.int .i64 a0, .int .i64 a1] ?_; (with_reducible refine (impl_mayGrow.calls a0 a1 false _ A7.out).mono ?_); rintro e w' ⟨rfl, ⟨nd, rfl⟩⟩; refine ⟨_, rfl, ?_⟩))
   go_meet
   case rel => exact ⟨_, (true), rl_, H', ⟨by first | omega | exact Nat.le_refl _⟩, ⟨bel_⟩⟩
 case rest =>
  clear HC6
  (try clear c3); (try clear c4); (try clear c8); (try clear c10); (try clear c10b0); (try clear c13); (try clear c13b0); (try clear c13b1)
  obtain ⟨kq, x48_5, rfl, HA, HJ5, HB⟩ := hcut
  cases kq with
  | zero => exact absurd HA.out (by simp [impl_GrowthLift.j0])
  | succ kj5 =>
   have H := HA.out
   clear HA
   simp only [impl_GrowthLift.j0] at H
   by_cases c20 : x48_5 = true
   ·subst c20
    rw [if_pos rfl] at H
    simp only [Option.some.injEq, Prod.mk.injEq] at H
    obtain ⟨rfl, rfl⟩ := H
    go_wp2
    go_ret2
    exact ⟨_, rfl_, by first | exact Kd.R_nil _ _ _ _ _ | exact Kd.N_nil _ _ _ _ _ | exact Kd.V_nil _ _ _ _ _ | exact Kd.Q_nil _ _ _ _ _ | exact Kd.S_nil _ _ _ _ _, bel_⟩
   ·replace c20 := Bool.eq_false_iff.mpr c20
    subst c20
    rw [if_neg (show ¬ (false = true) by decide)] at H
    by_cases c21 : a0 = a1
    ·rw [if_pos c21] at H
     have c21b0 := beq_iff_eq.mpr c21
     have c21b1 := bne_eq_false_iff_eq.mpr c21
     clear c21
     obtain ⟨t783, A22, H⟩ := bnd_ H
     simp only [Option.some.injEq, Prod.mk.injEq] at H
     obtain ⟨rfl, rfl⟩ := H
     go_wp2_with (first | (refine gcL_ 65 (some 53) Try.func65 #[.slice A3 l3.length c3] ?_; (with_reducible refine (impl_Digest.calls _ _ l3 t783 _ ?side1 ?side2 A22.out).mono ?_); (case side1 => exact cU_ (Kd.C_below HR3.out HB.out)); (case side2 => exact HC3.out); rintro e w23 ⟨v784, rfl, ho0, hb⟩; refine ⟨_, rfl, ?_⟩; have HO785 := a_ (Kd.R_lower ho0 (below_size bel_)); replace HB := stepB_ hb; (try clear hb); (try clear ho0)))
     go_ret2
     exact ⟨_, rfl_, by (with_reducible repeat (first | apply Kd.R_alloc | apply Kd.R_drewN | apply Kd.R_drew)); exact HO785.out, bel_⟩
    ·rw [if_neg c21] at H
     have c21b0 := beq_eq_false_iff_ne.mpr c21
     have c21b1 := bne_iff_ne.mpr c21
     obtain ⟨t786, A24, H⟩ := bnd_ H
     obtain ⟨t787, A25, H⟩ := bnd_ H
     have H' := Aside0.mk H
     clear H
     go_wp2_with (first | (refine gcL_ 71 (some 57) Try.func71 #[.int .i64 a0, .int .i64 a1, .slice A4 l4.length c4] ?_; (with_reducible refine (impl_known.calls kj5 a0 a1 _ _ l4 t786 _ ?side1 ?side2 A24.out).mono ?_); (case side1 => exact cU_ (Kd.C_below HR4.out HB.out)); (case side2 => exact HC4.out); rintro e w26 ⟨gm_, rfl, hgm_, ⟨gn_, him_⟩, hb⟩; refine ⟨_, rfl, ?_⟩; have HM := Aside0.mk him_; clear him_ hgm_; replace HB := stepB_ hb; (try clear hb)) | (refine gcL_ 76 (some 60) Try.func76 #[.int .i64 a1, .int .i64 a2] ?_; (with_reducible refine (impl_way.calls kj5 a1 a2 t787 _ A25.out).mono ?_); rintro e w27 ⟨v788, rfl, ho0, hb⟩; refine ⟨_, rfl, ?_⟩; have HO789 := a_ (Kd.R_lower ho0 (below_size bel_)); replace HM := a_ (IsM.below (isS_ HM.out) hb); replace HB := stepB_ hb; (try clear hb); (try clear ho0)) | ((with_reducible refine gate_dst (N := 15) rfl ?_); (try (refine gate_guard (by rfl) ?_; dsimp only)); refine boxE_ (cs := #[.int .i64 0, .int .i64 0]) (t := 100) ?_; intro gb790 hg w28 hbox hb; replace HO789 := a_ (Kd.R_below (Kd.R_elderB (kdU_ HO789.out) gb790 (Nat.le_of_eq hg.symm)) hb); have BK790 := a_ (hbox); replace HM := a_ (IsM.below (isS_ HM.out) hb); have NM790 := a_ (IsM.ne HM.out BK790.out); have GW790 := sizeB_ hg; replace HB := stepB_ hb; clear hb hbox hg; obtain ⟨z29_0, z29_1, f29_0, f29_1⟩ := cz2_ BK790.out))
     go_loopg [14, 16] kj5 (fun kq v14 v16 w' => ∃ (x14_2 : List (S29)) (x16_2 x791000_2 x791001_2 : Int), v16 = .int .i64 x16_2 ∧ Aside0 (impl_GrowthLift.l0 kq a2 l3 t786 t787 x14_2 x16_2 x791000_2 x791001_2 = some (r1, r2)) ∧ Aside0 (kq ≤ kj5) ∧ Aside0 (Kd.R k100 100 w' w.heap.size (fun k_ => k_ ≠ gb790) v788 t787) ∧ Aside0 (Kd.R k29 29 w' w.heap.size (fun _ => True) v14 x14_2) ∧ Aside0 (w'.heap[gb790]? = some (.cells #[.int .i64 x791000_2, .int .i64 x791001_2] 100 (0, 0))) ∧ Aside0 (IsM w' gm_ gn_ t786) ∧ Aside0 (Below w.heap.size w w'))
     case atStart => exact ⟨(([] : List (S29))), (0), (0), (a1), rl_, H', ⟨Nat.le_refl _⟩, ⟨by (with_reducible repeat (first | apply Kd.R_alloc | apply Kd.R_drewN | apply Kd.R_drew)); exact Kd.R_mono (Kd.R_far (p := ⟨gb790, 1, none⟩) (Kd.R_far (p := ⟨gb790, 0, none⟩) (Kd.R_mono HO789.out (fun k_ hk => (⟨hk, hk.2⟩ : _ ∧ k_ ≠ gb790))) (fun _ hk => hk.2) (.int .i64 0)) (fun _ hk => hk.2) (.int .i64 a1)) (fun _ hk => hk.1.2)⟩, ⟨by first | exact Kd.R_nil _ _ _ _ _ | exact Kd.N_nil _ _ _ _ _ | exact Kd.V_nil _ _ _ _ _ | exact Kd.Q_nil _ _ _ _ _ | exact Kd.S_nil _ _ _ _ _⟩, ⟨blkF_ BK790.out⟩, ⟨isS_ HM.out⟩, ⟨bel_⟩⟩
     case round =>
      clear H'
      (try clear c3); (try clear c4); (try clear c8); (try clear c10); (try clear c10b0); (try clear c13); (try clear c13b0); (try clear c13b1); (try clear c20); (try clear c21); (try clear c21b0); (try clear c21b1); (try clear z29_0 z29_1); (try clear f29_0 f29_1)
      obtain ⟨x14_2, x16_2, x791000_2, x791001_2, rfl, HA, HK2, HO_13, HO_14, BK790, HM, HB⟩ := hrel
      cases gk with
      | zero => exact absurd HA.out (by simp [impl_GrowthLift.l0])
      | succ k2 =>
       have H := HA.out
       clear HA
       simp only [impl_GrowthLift.l0] at H
       obtain ⟨⟨t791, t792, t793, t794, t795⟩, A30, H⟩ := bnd_ H
       dsimp only at H
       by_cases c31 : t795 = true
       ·subst c31
        rw [if_pos rfl] at H
        obtain ⟨t818, A32, H⟩ := bnd_ H
        by_cases c33 : 0 ≤ (t818.length : Int)
        ·rw [if_pos c33] at H
         have c33b0 := eq_true c33
         have c33b1 := decide_eq_true c33
         clear c33
         by_cases c34 : (t818.length : Int) ≤ (l3.length : Int)
         ·rw [if_pos c34] at H
          have c34b0 := eq_true c34
          have c34b1 := decide_eq_true c34
          clear c34
          obtain ⟨y821, hy821⟩ : ∃ y_ : List (S29), y_ = (l3.take ((t818.length : Int) : Int).toNat) := ⟨_, rfl⟩
          replace H : ((impl_Digest.f y821).bind fun t825 => (impl_GrowthLift.l1 k2 x14_2 t825 (wrap64 ((x14_2.length : Int) - 1)))) = some (r1, r2) := rpl_ hy821 H
          have Ny821 := Aside0.mk hy821
          clear hy821
          obtain ⟨t825, A35, H⟩ := bnd_ H
          have H' := Aside0.mk H
          clear H
          obtain ⟨z36_0, z36_1, f36_0, f36_1⟩ := cz2_ BK790.out
          go_wp2_with (first | ((with_reducible refine gate_dst (N := 68) rfl ?_); refine goLook_ (isS_ HM.out) A30.out ?_; intro w37 hb; replace HO_13 := rb_ HO_13.out hb; replace HO_14 := rb_ HO_14.out hb; replace BK790 := bb_ BK790.out hb; replace HB := stepB_ hb; (try clear hb); (try clear hk)) | ((with_reducible refine gate_dst (N := 17) rfl ?_); (try (refine gate_guard (by rfl) ?_; dsimp only)); refine boxE_ (cs := #[.int .u64 0, .int .u64 0, .int .u64 0, .int .u64 0]) (t := 29) ?_; intro gb796 hg w38 hbox hb; replace HO_13 := rb_ HO_13.out hb; replace HO_14 := a_ (Kd.R_below (Kd.R_elderB (kdU_ HO_14.out) gb796 (Nat.le_of_eq hg.symm)) hb); have BK796 := a_ (hbox); have GW796 := sizeB_ hg; replace HB := stepB_ hb; obtain ⟨NB790_796, NB796_790⟩ := ne2_ BK790.out hg; replace BK790 := bb_ BK790.out hb; clear hb hbox hg; have hnb39 := NB796_790.out; have hnc39 := NB790_796.out; obtain ⟨z40_0, z40_1, z40_2, z40_3, f40_0, f40_1, f40_2, f40_3⟩ := cz4_ BK796.out; obtain ⟨z41_0, z41_1, f41_0, f41_1⟩ := cz2_ BK790.out) | (refine gcL_ 76 (some 108) Try.func76 #[.int .i64 (wrap64 (x791001_2 - x791000_2)), .int .i64 (wrap64 (a2 - x791000_2))] ?_; (with_reducible refine (impl_way.calls k2 (wrap64 (x791001_2 - x791000_2)) (wrap64 (a2 - x791000_2)) t818 _ A32.out).mono ?_); rintro e w42 ⟨v819, rfl, ho0, hb⟩; refine ⟨_, rfl, ?_⟩; replace HO_14 := a_ (Kd.R_below (by (with_reducible repeat (first | apply Kd.R_alloc | apply Kd.R_drewN | apply Kd.R_drew)); exact (Kd.R_mono (Kd.R_far (p := ⟨gb796, 3, none⟩) (Kd.R_far (p := ⟨gb796, 2, none⟩) (Kd.R_far (p := ⟨gb796, 1, none⟩) (Kd.R_far (p := ⟨gb796, 0, none⟩) (Kd.R_mono HO_14.out (fun k_ hk => (⟨hk, hk.2⟩ : _ ∧ k_ ≠ gb796))) (fun _ hk => hk.2) (.int .u64 t791)) (fun _ hk => hk.2) (.int .u64 t792)) (fun _ hk => hk.2) (.int .u64 t793)) (fun _ hk => hk.2) (.int .u64 t794)) (fun _ h_ => h_.1))) hb); have HO820 := a_ (Kd.R_lower (Kd.R_newB (Kd.R_new' ho0 (Kd.R_lt (by (with_reducible repeat (first | apply Kd.R_alloc | apply Kd.R_drewN | apply Kd.R_drew)); exact (Kd.R_mono (Kd.R_far (p := ⟨gb796, 3, none⟩) (Kd.R_far (p := ⟨gb796, 2, none⟩) (Kd.R_far (p := ⟨gb796, 1, none⟩) (Kd.R_far (p := ⟨gb796, 0, none⟩) (Kd.R_types HO_13.out BK796.out (by decide)) (fun _ hk => hk.2) (.int .u64 t791)) (fun _ hk => hk.2) (.int .u64 t792)) (fun _ hk => hk.2) (.int .u64 t793)) (fun _ hk => hk.2) (.int .u64 t794)) (fun _ h_ => h_.1))))) (g := gb790) (o := .cells #[.int .i64 x791000_2, .int .i64 x791001_2] 100 (0, 0)) (blkU_ BK790.out)) (below_size bel_)); replace HO_13 := a_ (Kd.R_elder' (by (with_reducible repeat (first | apply Kd.R_alloc | apply Kd.R_drewN | apply Kd.R_drew)); exact (Kd.R_mono (Kd.R_far (p := ⟨gb796, 3, none⟩) (Kd.R_far (p := ⟨gb796, 2, none⟩) (Kd.R_far (p := ⟨gb796, 1, none⟩) (Kd.R_far (p := ⟨gb796, 0, none⟩) (Kd.R_types HO_13.out BK796.out (by decide)) (fun _ hk => hk.2) (.int .u64 t791)) (fun _ hk => hk.2) (.int .u64 t792)) (fun _ hk => hk.2) (.int .u64 t793)) (fun _ hk => hk.2) (.int .u64 t794)) (fun _ h_ => h_.1))) (Kd.R_base ho0) hb); replace BK790 := bb_ BK790.out hb; replace BK796 := blkPB_ (cs := #[.int .u64 t791, .int .u64 t792, .int .u64 t793, .int .u64 t794]) BK796.out hb; replace HB := stepB_ hb; (try clear hb); (try clear hk); (try clear ho0); obtain ⟨Ao43, co43, eo43⟩ := Kd.R_slice HO820.out; subst eo43; have q44 : ((t818.length : Int) : Int) ≤ ((l3.length : Int) : Int) := ofd_; obtain ⟨i044, hi044, _, hsz44, _⟩ := info_parts info29; have hroom44 : l3.length ≤ c3 := HC3.out; have hC44 : Kd.C k29 _ A3 l3.length l3 := HR3.out; have hcut44 := cut_to (P := Try.prog) 49 29 .i64 Try.underlying49 hi044 A3 l3.length c3 (t818.length : Int) (ofd_) q44 hroom44; have hr44 := Kd.C_take (m := ((t818.length : Int) : Int).toNat) hC44 (by omega); have hy44 : y821.length = ((t818.length : Int) : Int).toNat := (by rw [Ny821.out, List.length_take]; omega); rw [← Ny821.out] at hr44; rw [← hy44] at hcut44; have HR824 := Aside0.mk hr44; have HC824 := a_ (show y821.length ≤ c3 from by omega); clear hr44 hC44 hroom44 hi044 hsz44; have KY44 := Aside0.mk hy44; clear hy44; replace q44 := eq_true q44) | (refine gcL_ 65 (some 111) Try.func65 #[.slice A3 y821.length c3] ?_; (with_reducible refine (impl_Digest.calls _ _ y821 t825 _ ?side1 ?side2 A35.out).mono ?_); (case side1 => exact cU_ (Kd.C_below HR824.out HB.out)); (case side2 => exact HC824.out); rintro e w45 ⟨v826, rfl, ho0, hb⟩; refine ⟨_, rfl, ?_⟩; replace HO_13 := rb_ HO_13.out hb; replace HO820 := rb_ HO820.out hb; have HO827 := a_ (Kd.R_lower (Kd.R_newB (Kd.R_new' ho0 (Kd.R_lt (kdU_ HO_14.out))) (g := gb796) (o := .cells #[.int .u64 t791, .int .u64 t792, .int .u64 t793, .int .u64 t794] 29 (0, 0)) (blkU_ BK796.out)) (below_size bel_)); replace HO_14 := a_ (Kd.R_elder' (kdU_ HO_14.out) (Kd.R_base ho0) hb); replace BK790 := bb_ BK790.out hb; replace BK796 := bb_ BK796.out hb; replace HB := stepB_ hb; (try clear hb); (try clear hk); (try clear ho0); obtain ⟨Ao46, co46, eo46⟩ := Kd.R_slice HO_14.out; subst eo46))
          go_loopg [21, 22] k2 (fun kq v21 v22 w' => ∃ (x21_3 : List (S29)) (x22_3 : Int), v22 = .int .i64 x22_3 ∧ Aside0 (impl_GrowthLift.l1 kq x14_2 x21_3 x22_3 = some (r1, r2)) ∧ Aside0 (kq ≤ k2) ∧ Aside0 (Kd.R k29 29 w' w.heap.size (fun k_ => some k_ ≠ (v21 : Value).ownBlock ∧ k_ ≠ gb796) (.slice Ao46 x14_2.length co46) x14_2) ∧ Aside0 (Kd.R k29 29 w' w.heap.size (fun k_ => some k_ ≠ ((.slice Ao46 x14_2.length co46) : Value).ownBlock ∧ k_ ≠ gb796) v21 x21_3) ∧ Aside0 (w'.heap[gb790]? = some (.cells #[.int .i64 x791000_2, .int .i64 x791001_2] 100 (0, 0))) ∧ Aside0 (w'.heap[gb796]? = some (.cells #[.int .u64 t791, .int .u64 t792, .int .u64 t793, .int .u64 t794] 29 (0, 0))) ∧ Aside0 (Below w.heap.size w w'))
          case atStart => exact ⟨(t825), (wrap64 ((x14_2.length : Int) - 1)), rl_, H', ⟨Nat.le_refl _⟩, ⟨by (with_reducible repeat (first | apply Kd.R_alloc | apply Kd.R_drewN | apply Kd.R_drew)); exact Kd.R_mono HO_14.out (fun _ hk => ⟨hk.2, hk.1.2⟩)⟩, ⟨by (with_reducible repeat (first | apply Kd.R_alloc | apply Kd.R_drewN | apply Kd.R_drew)); exact Kd.R_mono HO827.out (fun _ hk => ⟨hk.1.2, hk.2⟩)⟩, ⟨blkU_ BK790.out⟩, ⟨blkU_ BK796.out⟩, ⟨bel_⟩⟩
          case round =>
           clear H'
           (try clear c3); (try clear c4); (try clear c8); (try clear c10); (try clear c10b0); (try clear c13); (try clear c13b0); (try clear c13b1); (try clear c20); (try clear c21); (try clear c21b0); (try clear c21b1); (try clear c31); (try clear c33); (try clear c33b0); (try clear c33b1); (try clear c34); (try clear c34b0); (try clear c34b1); (try clear q44); (try clear z29_0 z29_1); (try clear z36_0 z36_1); (try clear z40_0 z40_1 z40_2 z40_3); (try clear z41_0 z41_1); (try clear f29_0 f29_1); (try clear f36_0 f36_1); (try clear f40_0 f40_1 f40_2 f40_3); (try clear f41_0 f41_1)
           obtain ⟨x21_3, x22_3, rfl, HA, HK3, HO_14, HO_21, BK790, BK796, HB⟩ := hrel
           cases gk with
           | zero => exact absurd HA.out (by simp [impl_GrowthLift.l1])
           | succ k3 =>
            have H := HA.out
            clear HA
            simp only [impl_GrowthLift.l1] at H
            by_cases c47 : x22_3 ≥ 0
            ·rw [if_pos c47] at H
             have c47b0 : decide (0 ≤ x22_3) = true := decide_eq_true c47
             clear c47
             by_cases c48 : 0 ≤ x22_3
             ·rw [if_pos c48] at H
              have c48b0 := decide_eq_true c48
              clear c48
              by_cases c49 : x22_3 < (x14_2.length : Int)
              ·rw [if_pos c49] at H
               have c49b0 := decide_eq_true c49
               clear c49
               by_cases c50 : x21_3.length < 4398046511104
               ·rw [if_pos c50] at H
                have LMc50 := Aside0.mk c50
                clear c50
                obtain ⟨y829, hy829⟩ : ∃ y_ : List (S29), y_ = (x21_3 ++ [(⟨(rd_T29 x14_2 x22_3).f0, (rd_T29 x14_2 x22_3).f1, (rd_T29 x14_2 x22_3).f2, (rd_T29 x14_2 x22_3).f3⟩ : S29)]) := ⟨_, rfl⟩
                replace H : (impl_GrowthLift.l1 k3 x14_2 y829 (wrap64 (x22_3 - 1))) = some (r1, r2) := rpl_ hy829 H
                have Ny829 := Aside0.mk hy829
                clear hy829
                have H' := Aside0.mk H
                clear H
                have p828 : 0 ≤ (x22_3 : Int) := ofd_
                have q828 : x22_3 < (x14_2.length : Int) := ofd_
                obtain ⟨ad828, e828, hx828_0, hx828_1, hx828_2, hx828_3⟩ := at_T29 (Kd.R_reads' HO_14.out).2.2 x22_3 p828 q828
                cases e828
                replace p828 := eq_true p828
                replace q828 := eq_true q828
                go_wp2_with (first | ((with_reducible refine gate_builtin (b := .append) (xs := #[.tmp 119, .tmp 124]) rfl ?_); (try (refine gate_guard (by rfl) ?_; dsimp only)); at_builtin; refine Kd.R_append k29 (w0 := w) w.heap.size rfl (.tmp 119) (.tmp 124) 49 29 (.agg #[(.int .u64 0), (.int .u64 0), (.int .u64 0), (.int .u64 0)]) 32 rfl Try.underlying49 info29 rfl (by decide) (by omega) u21 x21_3 (⟨(rd_T29 x14_2 x22_3).f0, (rd_T29 x14_2 x22_3).f1, (rd_T29 x14_2 x22_3).f2, (rd_T29 x14_2 x22_3).f3⟩ : S29) [.int .u64 ((rd_T29 x14_2 x22_3).f0), .int .u64 ((rd_T29 x14_2 x22_3).f1), .int .u64 ((rd_T29 x14_2 x22_3).f2), .int .u64 ((rd_T29 x14_2 x22_3).f3)] (fun k_ => some k_ ≠ (.slice (some ad828) x14_2.length co46 : Value).ownBlock ∧ k_ ≠ gb796) (fun _ => False) rfl rfl ?aP (fun _ hk => hk.elim) ?aF ?aO ?aB ?aS ?aL ?_; (case aP => exact k29_mkM _ _ _ (⟨(rd_T29 x14_2 x22_3).f0, (rd_T29 x14_2 x22_3).f1, (rd_T29 x14_2 x22_3).f2, (rd_T29 x14_2 x22_3).f3⟩ : S29)); (case aB => exact bel_); (case aF => exact (fun k_ hk => ⟨Kd.fresh' (Kd.R_lt (kdU_ HO_14.out)) k_ hk, Kd.freshB (g := gb796) (o := .cells #[.int .u64 t791, .int .u64 t792, .int .u64 t793, .int .u64 t794] 29 (0, 0)) (blkU_ BK796.out) k_ hk⟩)); (case aO => exact (kdU_ HO_21.out)); (case aS => exact (below_size bel_)); (case aL => have := LMc50.out; omega); intro v830 w51 ho hb hg hat; rw [← Ny829.out] at ho; replace HO_14 := a_ (Kd.R_after (ok := (fun k_ => k_ ≠ gb796)) (by (with_reducible repeat (first | apply Kd.R_alloc | apply Kd.R_drewN | apply Kd.R_drew)); exact Kd.R_mono HO_14.out (fun _ hk => ⟨hk.2, hk.1⟩)) hg hat); replace BK790 := a_ (blk_grown (g := gb790) (o := .cells #[.int .i64 x791000_2, .int .i64 x791001_2] 100 (0, 0)) (blkU_ BK790.out) hg (Kd.R_ne HO_21.out BK790.out (by decide))); replace BK796 := a_ (blk_grown (g := gb796) (o := .cells #[.int .u64 t791, .int .u64 t792, .int .u64 t793, .int .u64 t794] 29 (0, 0)) (blkU_ BK796.out) hg (Kd.R_away HO_21.out (fun _ hk => hk.2))); replace HB := a_ (hb); have HO831 := a_ (ho); clear HO_21; clear ho hb hg hat))
                go_roundg k3
                case measure => have := HJ5.out; have := HK2.out; have := HK3.out; omega
                case rel => exact ⟨(y829), (wrap64 (x22_3 - 1)), rl_, H', ⟨by have := HJ5.out; have := HK2.out; have := HK3.out; omega⟩, ⟨by (with_reducible repeat (first | apply Kd.R_alloc | apply Kd.R_drewN | apply Kd.R_drew)); exact Kd.R_mono HO_14.out (fun _ hk => ⟨hk.2, hk.1⟩)⟩, ⟨kdU_ HO831.out⟩, ⟨blkU_ BK790.out⟩, ⟨blkU_ BK796.out⟩, ⟨bel_⟩⟩
               ·rw [if_neg c50] at H
                exact absurd H (by simp)
              ·rw [if_neg c49] at H
               exact absurd H (by simp)
             ·rw [if_neg c48] at H
              exact absurd H (by simp)
            ·rw [if_neg c47] at H
             have c47b0 : decide (0 ≤ x22_3) = false := decide_eq_false c47
             clear c47
             obtain ⟨t832, A52, H⟩ := bnd_ H
             simp only [Option.some.injEq, Prod.mk.injEq] at H
             obtain ⟨rfl, rfl⟩ := H
             obtain ⟨Ao53, co53, eo53⟩ := Kd.R_slice HO_21.out
             subst eo53
             go_wp2_with (first | (refine gcL_ 65 (some 127) Try.func65 #[.slice Ao53 x21_3.length co53] ?_; (with_reducible refine (impl_Digest.calls _ _ x21_3 t832 _ ?side1 ?side2 A52.out).mono ?_); (case side1 => exact cU_ (Kd.R_reads' HO_21.out).2.2); (case side2 => exact (Kd.R_reads' HO_21.out).2.1); rintro e w54 ⟨v833, rfl, ho0, hb⟩; refine ⟨_, rfl, ?_⟩; have HO834 := a_ (Kd.R_lower (Kd.R_newB (Kd.R_new' (Kd.R_new' ho0 (Kd.R_lt (kdU_ HO_14.out))) (Kd.R_lt (kdU_ HO_21.out))) (g := gb796) (o := .cells #[.int .u64 t791, .int .u64 t792, .int .u64 t793, .int .u64 t794] 29 (0, 0)) (blkU_ BK796.out)) (below_size bel_)); replace HO_14 := a_ (Kd.R_elder' (kdU_ HO_14.out) (Kd.R_base ho0) hb); replace HO_21 := a_ (Kd.R_elder' (kdU_ HO_21.out) (Kd.R_base ho0) hb); replace BK790 := bb_ BK790.out hb; replace BK796 := bb_ BK796.out hb; replace HB := stepB_ hb; (try clear hb); (try clear hk); (try clear ho0)))
             go_ret2
             exact ⟨_, rfl_, by (with_reducible repeat (first | apply Kd.R_alloc | apply Kd.R_drewN | apply Kd.R_drew)); exact Kd.R_mono HO834.out (fun _ hk => trivial), bel_⟩
         ·rw [if_neg c34] at H
          exact absurd H (by simp)
        ·rw [if_neg c33] at H
         exact absurd H (by simp)
       ·replace c31 := Bool.eq_false_iff.mpr c31
        subst c31
        rw [if_neg (show ¬ (false = true) by decide)] at H
        by_cases c55 : 0 ≤ x16_2
        ·rw [if_pos c55] at H
         have c55b0 := decide_eq_true c55
         clear c55
         by_cases c56 : x16_2 < (t787.length : Int)
         ·rw [if_pos c56] at H
          have c56b0 := decide_eq_true c56
          clear c56
          obtain ⟨⟨t798, t799, t800, t801⟩, A57, H⟩ := bnd_ H
          dsimp only at H
          by_cases c58 : a2 < t799
          ·rw [if_pos c58] at H
           have c58b0 := decide_eq_true c58
           clear c58
           obtain ⟨⟨t804, t805, t806, t807⟩, A59, H⟩ := bnd_ H
           dsimp only at H
           by_cases c60 : x14_2.length < 4398046511104
           ·rw [if_pos c60] at H
            have LMc60 := Aside0.mk c60
            clear c60
            obtain ⟨y808, hy808⟩ : ∃ y_ : List (S29), y_ = (x14_2 ++ [(⟨t804, t805, t806, t807⟩ : S29)]) := ⟨_, rfl⟩
            replace H : (impl_GrowthLift.l0 k2 a2 l3 t786 t787 y808 (wrap64 (x16_2 + 1)) t798 t799) = some (r1, r2) := rpl_ hy808 H
            have Ny808 := Aside0.mk hy808
            clear hy808
            have H' := Aside0.mk H
            clear H
            obtain ⟨z61_0, z61_1, f61_0, f61_1⟩ := cz2_ BK790.out
            go_wp2_with (first | ((with_reducible refine gate_dst (N := 68) rfl ?_); refine goLook_ (isS_ HM.out) A30.out ?_; intro w62 hb; replace HO_13 := rb_ HO_13.out hb; replace HO_14 := rb_ HO_14.out hb; replace BK790 := bb_ BK790.out hb; replace HM := a_ (IsM.below (isS_ HM.out) hb); replace HB := stepB_ hb; (try clear hb); (try clear hk)) | ((with_reducible refine gate_dst (N := 17) rfl ?_); (try (refine gate_guard (by rfl) ?_; dsimp only)); refine boxE_ (cs := #[.int .u64 0, .int .u64 0, .int .u64 0, .int .u64 0]) (t := 29) ?_; intro gb796 hg w63 hbox hb; replace HO_13 := rb_ HO_13.out hb; replace HO_14 := a_ (Kd.R_below (Kd.R_elderB (kdU_ HO_14.out) gb796 (Nat.le_of_eq hg.symm)) hb); have BK796 := a_ (hbox); replace HM := a_ (IsM.below (isS_ HM.out) hb); have NM796 := a_ (IsM.ne HM.out BK796.out); have GW796 := sizeB_ hg; replace HB := stepB_ hb; obtain ⟨NB790_796, NB796_790⟩ := ne2_ BK790.out hg; replace BK790 := bb_ BK790.out hb; clear hb hbox hg; have hnb64 := NB796_790.out; have hnc64 := NB790_796.out; obtain ⟨z65_0, z65_1, z65_2, z65_3, f65_0, f65_1, f65_2, f65_3⟩ := cz4_ BK796.out; obtain ⟨Ao66, co66, eo66⟩ := Kd.R_slice HO_13.out; subst eo66; have p797 : 0 ≤ (x16_2 : Int) := ofd_; have q797 : x16_2 < (t787.length : Int) := ofd_; obtain ⟨ad797, e797, hx797_0, hx797_1⟩ := at_T100 (Kd.R_reads' HO_13.out).2.2 x16_2 p797 q797; cases e797; have hn797_0 : ad797.block ≠ gb796 := Kd.own_blk (Kd.R_ne HO_13.out BK796.out (by decide)); have hn797_1 : ad797.block ≠ gb796 := Kd.own_blk (Kd.R_ne HO_13.out BK796.out (by decide)); have hn797_2 : ad797.block ≠ gb796 := Kd.own_blk (Kd.R_ne HO_13.out BK796.out (by decide)); have hn797_3 : ad797.block ≠ gb796 := Kd.own_blk (Kd.R_ne HO_13.out BK796.out (by decide)); replace hx797_0 := (cell_far (p := ⟨gb796, 0, none⟩) (na_ hn797_0) (.int .u64 t791)).trans hx797_0; replace hx797_1 := (cell_far (p := ⟨gb796, 0, none⟩) (na_ hn797_0) (.int .u64 t791)).trans hx797_1; replace hx797_0 := (cell_far (p := ⟨gb796, 1, none⟩) (na_ hn797_1) (.int .u64 t792)).trans hx797_0; replace hx797_1 := (cell_far (p := ⟨gb796, 1, none⟩) (na_ hn797_1) (.int .u64 t792)).trans hx797_1; replace hx797_0 := (cell_far (p := ⟨gb796, 2, none⟩) (na_ hn797_2) (.int .u64 t793)).trans hx797_0; replace hx797_1 := (cell_far (p := ⟨gb796, 2, none⟩) (na_ hn797_2) (.int .u64 t793)).trans hx797_1; replace hx797_0 := (cell_far (p := ⟨gb796, 3, none⟩) (na_ hn797_3) (.int .u64 t794)).trans hx797_0; replace hx797_1 := (cell_far (p := ⟨gb796, 3, none⟩) (na_ hn797_3) (.int .u64 t794)).trans hx797_1; clear hn797_0; clear hn797_1; clear hn797_2; clear hn797_3; replace p797 := eq_true p797; replace q797 := eq_true q797) | (refine gcL_ 77 (some 77) Try.func77 #[.agg #[.int .i64 ((rd_T100 t787 x16_2).f0), .int .i64 ((rd_T100 t787 x16_2).f1)]] ?_; (with_reducible refine (impl_node_halves.calls k2 ((rd_T100 t787 x16_2).f0) ((rd_T100 t787 x16_2).f1) t798 t799 t800 t801 _ A57.out).mono ?_); rintro e w67 ⟨rfl, hb⟩; refine ⟨_, rfl, ?_⟩; replace HO_13 := a_ (Kd.R_below (by (with_reducible repeat (first | apply Kd.R_alloc | apply Kd.R_drewN | apply Kd.R_drew)); exact (Kd.R_mono (Kd.R_far (p := ⟨gb796, 3, none⟩) (Kd.R_far (p := ⟨gb796, 2, none⟩) (Kd.R_far (p := ⟨gb796, 1, none⟩) (Kd.R_far (p := ⟨gb796, 0, none⟩) (Kd.R_types HO_13.out BK796.out (by decide)) (fun _ hk => hk.2) (.int .u64 t791)) (fun _ hk => hk.2) (.int .u64 t792)) (fun _ hk => hk.2) (.int .u64 t793)) (fun _ hk => hk.2) (.int .u64 t794)) (fun _ h_ => h_.1))) hb); replace HO_14 := a_ (Kd.R_below (by (with_reducible repeat (first | apply Kd.R_alloc | apply Kd.R_drewN | apply Kd.R_drew)); exact (Kd.R_mono (Kd.R_far (p := ⟨gb796, 3, none⟩) (Kd.R_far (p := ⟨gb796, 2, none⟩) (Kd.R_far (p := ⟨gb796, 1, none⟩) (Kd.R_far (p := ⟨gb796, 0, none⟩) (Kd.R_mono HO_14.out (fun k_ hk => (⟨hk, hk.2⟩ : _ ∧ k_ ≠ gb796))) (fun _ hk => hk.2) (.int .u64 t791)) (fun _ hk => hk.2) (.int .u64 t792)) (fun _ hk => hk.2) (.int .u64 t793)) (fun _ hk => hk.2) (.int .u64 t794)) (fun _ h_ => h_.1))) hb); replace BK790 := bb_ BK790.out hb; replace BK796 := blkPB_ (cs := #[.int .u64 t791, .int .u64 t792, .int .u64 t793, .int .u64 t794]) BK796.out hb; replace HM := a_ (IsM.below (isS_ HM.out) hb); replace HB := stepB_ hb; (try clear hb); (try clear hk)) | ((with_reducible refine gate_dst (N := 19) rfl ?_); (try (refine gate_guard (by rfl) ?_; dsimp only)); refine boxE_ (cs := #[.int .i64 0, .int .i64 0]) (t := 100) ?_; intro gb802 hg w68 hbox hb; replace HO_13 := a_ (Kd.R_below (Kd.R_elderB (kdU_ HO_13.out) gb802 (Nat.le_of_eq hg.symm)) hb); replace HO_14 := rb_ HO_14.out hb; have BK802 := a_ (hbox); replace HM := a_ (IsM.below (isS_ HM.out) hb); have NM802 := a_ (IsM.ne HM.out BK802.out); have GW802 := sizeB_ hg; replace HB := stepB_ hb; obtain ⟨NB790_802, NB802_790⟩ := ne2_ BK790.out hg; replace BK790 := bb_ BK790.out hb; obtain ⟨NB796_802, NB802_796⟩ := ne2_ BK796.out hg; replace BK796 := bb_ BK796.out hb; clear hb hbox hg) | ((with_reducible refine gate_dst (N := 20) rfl ?_); (try (refine gate_guard (by rfl) ?_; dsimp only)); refine boxE_ (cs := #[.int .i64 0, .int .i64 0]) (t := 100) ?_; intro gb803 hg w69 hbox hb; replace HO_13 := a_ (Kd.R_below (Kd.R_elderB (kdU_ HO_13.out) gb803 (Nat.le_of_eq hg.symm)) hb); replace HO_14 := rb_ HO_14.out hb; have BK803 := a_ (hbox); replace HM := a_ (IsM.below (isS_ HM.out) hb); have NM803 := a_ (IsM.ne HM.out BK803.out); have GW803 := sizeB_ hg; replace HB := stepB_ hb; obtain ⟨NB790_803, NB803_790⟩ := ne2_ BK790.out hg; replace BK790 := bb_ BK790.out hb; obtain ⟨NB796_803, NB803_796⟩ := ne2_ BK796.out hg; replace BK796 := bb_ BK796.out hb; obtain ⟨NB802_803, NB803_802⟩ := ne2_ BK802.out hg; replace BK802 := bb_ BK802.out hb; clear hb hbox hg; have hnb70 := NB802_790.out; have hnc70 := NB790_802.out; have hnb71 := NB802_796.out; have hnc71 := NB796_802.out; have hnb72 := NB802_803.out; have hnc72 := NB803_802.out; obtain ⟨z73_0, z73_1, f73_0, f73_1⟩ := cz2_ BK802.out; have hnb74 := NB803_790.out; have hnc74 := NB790_803.out; have hnb75 := NB803_796.out; have hnc75 := NB796_803.out; obtain ⟨z76_0, z76_1, f76_0, f76_1⟩ := cz2_ BK803.out; obtain ⟨z77_0, z77_1, f77_0, f77_1⟩ := cz2_ BK790.out) | (refine gcL_ 70 (some 88) Try.func70 #[.map (some gm_), .agg #[.int .i64 t800, .int .i64 t801]] ?_; (with_reducible refine (impl_digestBy.calls k2 t786 t800 t801 t804 t805 t806 t807 _ gm_ gn_ (isS_ HM.out) A59.out).mono ?_); rintro e w78 ⟨rfl, hb⟩; refine ⟨_, rfl, ?_⟩; replace HO_13 := a_ (Kd.R_below (by (with_reducible repeat (first | apply Kd.R_alloc | apply Kd.R_drewN | apply Kd.R_drew)); exact (Kd.R_mono (Kd.R_mono (Kd.R_mono (Kd.R_far (p := ⟨gb790, 1, none⟩) (Kd.R_far (p := ⟨gb790, 0, none⟩) (Kd.R_far (p := ⟨gb803, 1, none⟩) (Kd.R_far (p := ⟨gb803, 0, none⟩) (Kd.R_far (p := ⟨gb802, 1, none⟩) (Kd.R_far (p := ⟨gb802, 0, none⟩) (Kd.R_mono (Kd.R_mono (Kd.R_mono HO_13.out (fun k_ hk => (⟨hk, hk.1.2⟩ : _ ∧ k_ ≠ gb802))) (fun k_ hk => (⟨hk, hk.1.2⟩ : _ ∧ k_ ≠ gb803))) (fun k_ hk => (⟨hk, hk.1.1.1.1⟩ : _ ∧ k_ ≠ gb790))) (fun _ hk => hk.1.1.2) (.int .i64 t798)) (fun _ hk => hk.1.1.2) (.int .i64 t799)) (fun _ hk => hk.1.2) (.int .i64 t800)) (fun _ hk => hk.1.2) (.int .i64 t801)) (fun _ hk => hk.2) (.int .i64 t798)) (fun _ hk => hk.2) (.int .i64 t799)) (fun _ h_ => h_.1)) (fun _ h_ => h_.1)) (fun _ h_ => h_.1))) hb); replace HO_14 := a_ (Kd.R_below (by (with_reducible repeat (first | apply Kd.R_alloc | apply Kd.R_drewN | apply Kd.R_drew)); exact (Kd.R_mono (Kd.R_mono (Kd.R_mono (Kd.R_far (p := ⟨gb790, 1, none⟩) (Kd.R_far (p := ⟨gb790, 0, none⟩) (Kd.R_far (p := ⟨gb803, 1, none⟩) (Kd.R_far (p := ⟨gb803, 0, none⟩) (Kd.R_far (p := ⟨gb802, 1, none⟩) (Kd.R_far (p := ⟨gb802, 0, none⟩) (Kd.R_types (Kd.R_types (Kd.R_types HO_14.out BK802.out (by decide)) BK803.out (by decide)) BK790.out (by decide)) (fun _ hk => hk.1.1.2) (.int .i64 t798)) (fun _ hk => hk.1.1.2) (.int .i64 t799)) (fun _ hk => hk.1.2) (.int .i64 t800)) (fun _ hk => hk.1.2) (.int .i64 t801)) (fun _ hk => hk.2) (.int .i64 t798)) (fun _ hk => hk.2) (.int .i64 t799)) (fun _ h_ => h_.1)) (fun _ h_ => h_.1)) (fun _ h_ => h_.1))) hb); replace BK790 := blkPB_ (cs := #[.int .i64 t798, .int .i64 t799]) BK790.out hb; replace BK796 := bb_ BK796.out hb; replace BK802 := blkPB_ (cs := #[.int .i64 t798, .int .i64 t799]) BK802.out hb; replace BK803 := blkPB_ (cs := #[.int .i64 t800, .int .i64 t801]) BK803.out hb; replace HM := a_ (IsM.below (isS_ HM.out) hb); replace HB := stepB_ hb; (try clear hb); (try clear hk)) | ((with_reducible refine gate_builtin (b := .append) (xs := #[.tmp 85, .tmp 89]) rfl ?_); (try (refine gate_guard (by rfl) ?_; dsimp only)); at_builtin; refine Kd.R_append k29 (w0 := w) w.heap.size rfl (.tmp 85) (.tmp 89) 49 29 (.agg #[(.int .u64 0), (.int .u64 0), (.int .u64 0), (.int .u64 0)]) 32 rfl Try.underlying49 info29 rfl (by decide) (by omega) u14 x14_2 (⟨t804, t805, t806, t807⟩ : S29) [.int .u64 t804, .int .u64 t805, .int .u64 t806, .int .u64 t807] (fun k_ => k_ ≠ gb796) (fun _ => False) rfl rfl ?aP (fun _ hk => hk.elim) ?aF ?aO ?aB ?aS ?aL ?_; (case aP => exact k29_mkM _ _ _ (⟨t804, t805, t806, t807⟩ : S29)); (case aB => exact bel_); (case aF => exact (fun k_ hk => Kd.freshB (g := gb796) (o := .cells #[.int .u64 t791, .int .u64 t792, .int .u64 t793, .int .u64 t794] 29 (0, 0)) (blkU_ BK796.out) k_ hk)); (case aO => exact (by (with_reducible repeat (first | apply Kd.R_alloc | apply Kd.R_drewN | apply Kd.R_drew)); exact Kd.R_mono HO_14.out (fun _ hk => hk.2))); (case aS => exact (below_size bel_)); (case aL => have := LMc60.out; omega); intro v809 w79 ho hb hg hat; rw [← Ny808.out] at ho; replace HO_13 := a_ (Kd.R_over' (kdU_ HO_13.out) (Kd.R_typed (kdU_ HO_14.out)) (by decide) hg); replace BK790 := a_ (blk_grown (g := gb790) (o := .cells #[.int .i64 t798, .int .i64 t799] 100 (0, 0)) (blkU_ BK790.out) hg (Kd.R_ne HO_14.out BK790.out (by decide))); replace BK796 := a_ (blk_grown (g := gb796) (o := .cells #[.int .u64 t791, .int .u64 t792, .int .u64 t793, .int .u64 t794] 29 (0, 0)) (blkU_ BK796.out) hg (Kd.R_away HO_14.out (fun _ hk => hk.2))); replace BK802 := a_ (blk_grown (g := gb802) (o := .cells #[.int .i64 t798, .int .i64 t799] 100 (0, 0)) (blkU_ BK802.out) hg (Kd.R_ne HO_14.out BK802.out (by decide))); replace BK803 := a_ (blk_grown (g := gb803) (o := .cells #[.int .i64 t800, .int .i64 t801] 100 (0, 0)) (blkU_ BK803.out) hg (Kd.R_ne HO_14.out BK803.out (by decide))); replace HM := a_ (IsM.grown (isS_ HM.out) hg (fun e_ => ((R_map HO_14.out HM.out).1 gm_ e_.symm).2 rfl)); replace HB := a_ (hb); have HO810 := a_ (ho); clear HO_14; clear ho hb hg hat))
            go_roundg k2
            case measure => have := HJ5.out; have := HK2.out; omega
            case rel => exact ⟨(y808), (wrap64 (x16_2 + 1)), (t798), (t799), rl_, H', ⟨by have := HJ5.out; have := HK2.out; omega⟩, ⟨by (with_reducible repeat (first | apply Kd.R_alloc | apply Kd.R_drewN | apply Kd.R_drew)); exact Kd.R_mono HO_13.out (fun _ hk => hk.1.1)⟩, ⟨by (with_reducible repeat (first | apply Kd.R_alloc | apply Kd.R_drewN | apply Kd.R_drew)); exact Kd.R_mono HO810.out (fun _ hk => trivial)⟩, ⟨blkU_ BK790.out⟩, ⟨isS_ HM.out⟩, ⟨bel_⟩⟩
           ·rw [if_neg c60] at H
            exact absurd H (by simp)
          ·rw [if_neg c58] at H
           have c58b0 := decide_eq_false c58
           clear c58
           obtain ⟨⟨t811, t812, t813, t814⟩, A80, H⟩ := bnd_ H
           dsimp only at H
           by_cases c81 : x14_2.length < 4398046511104
           ·rw [if_pos c81] at H
            have LMc81 := Aside0.mk c81
            clear c81
            obtain ⟨y815, hy815⟩ : ∃ y_ : List (S29), y_ = (x14_2 ++ [(⟨t811, t812, t813, t814⟩ : S29)]) := ⟨_, rfl⟩
            replace H : (impl_GrowthLift.l0 k2 a2 l3 t786 t787 y815 (wrap64 (x16_2 + 1)) t800 t801) = some (r1, r2) := rpl_ hy815 H
            have Ny815 := Aside0.mk hy815
            clear hy815
            have H' := Aside0.mk H
            clear H
            obtain ⟨z82_0, z82_1, f82_0, f82_1⟩ := cz2_ BK790.out
            go_wp2_with (first | ((with_reducible refine gate_dst (N := 68) rfl ?_); refine goLook_ (isS_ HM.out) A30.out ?_; intro w83 hb; replace HO_13 := rb_ HO_13.out hb; replace HO_14 := rb_ HO_14.out hb; replace BK790 := bb_ BK790.out hb; replace HM := a_ (IsM.below (isS_ HM.out) hb); replace HB := stepB_ hb; (try clear hb); (try clear hk)) | ((with_reducible refine gate_dst (N := 17) rfl ?_); (try (refine gate_guard (by rfl) ?_; dsimp only)); refine boxE_ (cs := #[.int .u64 0, .int .u64 0, .int .u64 0, .int .u64 0]) (t := 29) ?_; intro gb796 hg w84 hbox hb; replace HO_13 := rb_ HO_13.out hb; replace HO_14 := a_ (Kd.R_below (Kd.R_elderB (kdU_ HO_14.out) gb796 (Nat.le_of_eq hg.symm)) hb); have BK796 := a_ (hbox); replace HM := a_ (IsM.below (isS_ HM.out) hb); have NM796 := a_ (IsM.ne HM.out BK796.out); have GW796 := sizeB_ hg; replace HB := stepB_ hb; obtain ⟨NB790_796, NB796_790⟩ := ne2_ BK790.out hg; replace BK790 := bb_ BK790.out hb; clear hb hbox hg; have hnb85 := NB796_790.out; have hnc85 := NB790_796.out; obtain ⟨z86_0, z86_1, z86_2, z86_3, f86_0, f86_1, f86_2, f86_3⟩ := cz4_ BK796.out; obtain ⟨Ao87, co87, eo87⟩ := Kd.R_slice HO_13.out; subst eo87; have p797 : 0 ≤ (x16_2 : Int) := ofd_; have q797 : x16_2 < (t787.length : Int) := ofd_; obtain ⟨ad797, e797, hx797_0, hx797_1⟩ := at_T100 (Kd.R_reads' HO_13.out).2.2 x16_2 p797 q797; cases e797; have hn797_0 : ad797.block ≠ gb796 := Kd.own_blk (Kd.R_ne HO_13.out BK796.out (by decide)); have hn797_1 : ad797.block ≠ gb796 := Kd.own_blk (Kd.R_ne HO_13.out BK796.out (by decide)); have hn797_2 : ad797.block ≠ gb796 := Kd.own_blk (Kd.R_ne HO_13.out BK796.out (by decide)); have hn797_3 : ad797.block ≠ gb796 := Kd.own_blk (Kd.R_ne HO_13.out BK796.out (by decide)); replace hx797_0 := (cell_far (p := ⟨gb796, 0, none⟩) (na_ hn797_0) (.int .u64 t791)).trans hx797_0; replace hx797_1 := (cell_far (p := ⟨gb796, 0, none⟩) (na_ hn797_0) (.int .u64 t791)).trans hx797_1; replace hx797_0 := (cell_far (p := ⟨gb796, 1, none⟩) (na_ hn797_1) (.int .u64 t792)).trans hx797_0; replace hx797_1 := (cell_far (p := ⟨gb796, 1, none⟩) (na_ hn797_1) (.int .u64 t792)).trans hx797_1; replace hx797_0 := (cell_far (p := ⟨gb796, 2, none⟩) (na_ hn797_2) (.int .u64 t793)).trans hx797_0; replace hx797_1 := (cell_far (p := ⟨gb796, 2, none⟩) (na_ hn797_2) (.int .u64 t793)).trans hx797_1; replace hx797_0 := (cell_far (p := ⟨gb796, 3, none⟩) (na_ hn797_3) (.int .u64 t794)).trans hx797_0; replace hx797_1 := (cell_far (p := ⟨gb796, 3, none⟩) (na_ hn797_3) (.int .u64 t794)).trans hx797_1; clear hn797_0; clear hn797_1; clear hn797_2; clear hn797_3; replace p797 := eq_true p797; replace q797 := eq_true q797) | (refine gcL_ 77 (some 77) Try.func77 #[.agg #[.int .i64 ((rd_T100 t787 x16_2).f0), .int .i64 ((rd_T100 t787 x16_2).f1)]] ?_; (with_reducible refine (impl_node_halves.calls k2 ((rd_T100 t787 x16_2).f0) ((rd_T100 t787 x16_2).f1) t798 t799 t800 t801 _ A57.out).mono ?_); rintro e w88 ⟨rfl, hb⟩; refine ⟨_, rfl, ?_⟩; replace HO_13 := a_ (Kd.R_below (by (with_reducible repeat (first | apply Kd.R_alloc | apply Kd.R_drewN | apply Kd.R_drew)); exact (Kd.R_mono (Kd.R_far (p := ⟨gb796, 3, none⟩) (Kd.R_far (p := ⟨gb796, 2, none⟩) (Kd.R_far (p := ⟨gb796, 1, none⟩) (Kd.R_far (p := ⟨gb796, 0, none⟩) (Kd.R_types HO_13.out BK796.out (by decide)) (fun _ hk => hk.2) (.int .u64 t791)) (fun _ hk => hk.2) (.int .u64 t792)) (fun _ hk => hk.2) (.int .u64 t793)) (fun _ hk => hk.2) (.int .u64 t794)) (fun _ h_ => h_.1))) hb); replace HO_14 := a_ (Kd.R_below (by (with_reducible repeat (first | apply Kd.R_alloc | apply Kd.R_drewN | apply Kd.R_drew)); exact (Kd.R_mono (Kd.R_far (p := ⟨gb796, 3, none⟩) (Kd.R_far (p := ⟨gb796, 2, none⟩) (Kd.R_far (p := ⟨gb796, 1, none⟩) (Kd.R_far (p := ⟨gb796, 0, none⟩) (Kd.R_mono HO_14.out (fun k_ hk => (⟨hk, hk.2⟩ : _ ∧ k_ ≠ gb796))) (fun _ hk => hk.2) (.int .u64 t791)) (fun _ hk => hk.2) (.int .u64 t792)) (fun _ hk => hk.2) (.int .u64 t793)) (fun _ hk => hk.2) (.int .u64 t794)) (fun _ h_ => h_.1))) hb); replace BK790 := bb_ BK790.out hb; replace BK796 := blkPB_ (cs := #[.int .u64 t791, .int .u64 t792, .int .u64 t793, .int .u64 t794]) BK796.out hb; replace HM := a_ (IsM.below (isS_ HM.out) hb); replace HB := stepB_ hb; (try clear hb); (try clear hk)) | ((with_reducible refine gate_dst (N := 19) rfl ?_); (try (refine gate_guard (by rfl) ?_; dsimp only)); refine boxE_ (cs := #[.int .i64 0, .int .i64 0]) (t := 100) ?_; intro gb802 hg w89 hbox hb; replace HO_13 := a_ (Kd.R_below (Kd.R_elderB (kdU_ HO_13.out) gb802 (Nat.le_of_eq hg.symm)) hb); replace HO_14 := rb_ HO_14.out hb; have BK802 := a_ (hbox); replace HM := a_ (IsM.below (isS_ HM.out) hb); have NM802 := a_ (IsM.ne HM.out BK802.out); have GW802 := sizeB_ hg; replace HB := stepB_ hb; obtain ⟨NB790_802, NB802_790⟩ := ne2_ BK790.out hg; replace BK790 := bb_ BK790.out hb; obtain ⟨NB796_802, NB802_796⟩ := ne2_ BK796.out hg; replace BK796 := bb_ BK796.out hb; clear hb hbox hg) | ((with_reducible refine gate_dst (N := 20) rfl ?_); (try (refine gate_guard (by rfl) ?_; dsimp only)); refine boxE_ (cs := #[.int .i64 0, .int .i64 0]) (t := 100) ?_; intro gb803 hg w90 hbox hb; replace HO_13 := a_ (Kd.R_below (Kd.R_elderB (kdU_ HO_13.out) gb803 (Nat.le_of_eq hg.symm)) hb); replace HO_14 := rb_ HO_14.out hb; have BK803 := a_ (hbox); replace HM := a_ (IsM.below (isS_ HM.out) hb); have NM803 := a_ (IsM.ne HM.out BK803.out); have GW803 := sizeB_ hg; replace HB := stepB_ hb; obtain ⟨NB790_803, NB803_790⟩ := ne2_ BK790.out hg; replace BK790 := bb_ BK790.out hb; obtain ⟨NB796_803, NB803_796⟩ := ne2_ BK796.out hg; replace BK796 := bb_ BK796.out hb; obtain ⟨NB802_803, NB803_802⟩ := ne2_ BK802.out hg; replace BK802 := bb_ BK802.out hb; clear hb hbox hg; have hnb91 := NB802_790.out; have hnc91 := NB790_802.out; have hnb92 := NB802_796.out; have hnc92 := NB796_802.out; have hnb93 := NB802_803.out; have hnc93 := NB803_802.out; obtain ⟨z94_0, z94_1, f94_0, f94_1⟩ := cz2_ BK802.out; have hnb95 := NB803_790.out; have hnc95 := NB790_803.out; have hnb96 := NB803_796.out; have hnc96 := NB796_803.out; obtain ⟨z97_0, z97_1, f97_0, f97_1⟩ := cz2_ BK803.out; obtain ⟨z98_0, z98_1, f98_0, f98_1⟩ := cz2_ BK790.out) | (refine gcL_ 70 (some 95) Try.func70 #[.map (some gm_), .agg #[.int .i64 t798, .int .i64 t799]] ?_; (with_reducible refine (impl_digestBy.calls k2 t786 t798 t799 t811 t812 t813 t814 _ gm_ gn_ (isS_ HM.out) A80.out).mono ?_); rintro e w99 ⟨rfl, hb⟩; refine ⟨_, rfl, ?_⟩; replace HO_13 := a_ (Kd.R_below (by (with_reducible repeat (first | apply Kd.R_alloc | apply Kd.R_drewN | apply Kd.R_drew)); exact (Kd.R_mono (Kd.R_mono (Kd.R_mono (Kd.R_far (p := ⟨gb790, 1, none⟩) (Kd.R_far (p := ⟨gb790, 0, none⟩) (Kd.R_far (p := ⟨gb803, 1, none⟩) (Kd.R_far (p := ⟨gb803, 0, none⟩) (Kd.R_far (p := ⟨gb802, 1, none⟩) (Kd.R_far (p := ⟨gb802, 0, none⟩) (Kd.R_mono (Kd.R_mono (Kd.R_mono HO_13.out (fun k_ hk => (⟨hk, hk.1.2⟩ : _ ∧ k_ ≠ gb802))) (fun k_ hk => (⟨hk, hk.1.2⟩ : _ ∧ k_ ≠ gb803))) (fun k_ hk => (⟨hk, hk.1.1.1.1⟩ : _ ∧ k_ ≠ gb790))) (fun _ hk => hk.1.1.2) (.int .i64 t798)) (fun _ hk => hk.1.1.2) (.int .i64 t799)) (fun _ hk => hk.1.2) (.int .i64 t800)) (fun _ hk => hk.1.2) (.int .i64 t801)) (fun _ hk => hk.2) (.int .i64 t800)) (fun _ hk => hk.2) (.int .i64 t801)) (fun _ h_ => h_.1)) (fun _ h_ => h_.1)) (fun _ h_ => h_.1))) hb); replace HO_14 := a_ (Kd.R_below (by (with_reducible repeat (first | apply Kd.R_alloc | apply Kd.R_drewN | apply Kd.R_drew)); exact (Kd.R_mono (Kd.R_mono (Kd.R_mono (Kd.R_far (p := ⟨gb790, 1, none⟩) (Kd.R_far (p := ⟨gb790, 0, none⟩) (Kd.R_far (p := ⟨gb803, 1, none⟩) (Kd.R_far (p := ⟨gb803, 0, none⟩) (Kd.R_far (p := ⟨gb802, 1, none⟩) (Kd.R_far (p := ⟨gb802, 0, none⟩) (Kd.R_types (Kd.R_types (Kd.R_types HO_14.out BK802.out (by decide)) BK803.out (by decide)) BK790.out (by decide)) (fun _ hk => hk.1.1.2) (.int .i64 t798)) (fun _ hk => hk.1.1.2) (.int .i64 t799)) (fun _ hk => hk.1.2) (.int .i64 t800)) (fun _ hk => hk.1.2) (.int .i64 t801)) (fun _ hk => hk.2) (.int .i64 t800)) (fun _ hk => hk.2) (.int .i64 t801)) (fun _ h_ => h_.1)) (fun _ h_ => h_.1)) (fun _ h_ => h_.1))) hb); replace BK790 := blkPB_ (cs := #[.int .i64 t800, .int .i64 t801]) BK790.out hb; replace BK796 := bb_ BK796.out hb; replace BK802 := blkPB_ (cs := #[.int .i64 t798, .int .i64 t799]) BK802.out hb; replace BK803 := blkPB_ (cs := #[.int .i64 t800, .int .i64 t801]) BK803.out hb; replace HM := a_ (IsM.below (isS_ HM.out) hb); replace HB := stepB_ hb; (try clear hb); (try clear hk)) | ((with_reducible refine gate_builtin (b := .append) (xs := #[.tmp 92, .tmp 96]) rfl ?_); (try (refine gate_guard (by rfl) ?_; dsimp only)); at_builtin; refine Kd.R_append k29 (w0 := w) w.heap.size rfl (.tmp 92) (.tmp 96) 49 29 (.agg #[(.int .u64 0), (.int .u64 0), (.int .u64 0), (.int .u64 0)]) 32 rfl Try.underlying49 info29 rfl (by decide) (by omega) u14 x14_2 (⟨t811, t812, t813, t814⟩ : S29) [.int .u64 t811, .int .u64 t812, .int .u64 t813, .int .u64 t814] (fun k_ => k_ ≠ gb796) (fun _ => False) rfl rfl ?aP (fun _ hk => hk.elim) ?aF ?aO ?aB ?aS ?aL ?_; (case aP => exact k29_mkM _ _ _ (⟨t811, t812, t813, t814⟩ : S29)); (case aB => exact bel_); (case aF => exact (fun k_ hk => Kd.freshB (g := gb796) (o := .cells #[.int .u64 t791, .int .u64 t792, .int .u64 t793, .int .u64 t794] 29 (0, 0)) (blkU_ BK796.out) k_ hk)); (case aO => exact (by (with_reducible repeat (first | apply Kd.R_alloc | apply Kd.R_drewN | apply Kd.R_drew)); exact Kd.R_mono HO_14.out (fun _ hk => hk.2))); (case aS => exact (below_size bel_)); (case aL => have := LMc81.out; omega); intro v816 w100 ho hb hg hat; rw [← Ny815.out] at ho; replace HO_13 := a_ (Kd.R_over' (kdU_ HO_13.out) (Kd.R_typed (kdU_ HO_14.out)) (by decide) hg); replace BK790 := a_ (blk_grown (g := gb790) (o := .cells #[.int .i64 t800, .int .i64 t801] 100 (0, 0)) (blkU_ BK790.out) hg (Kd.R_ne HO_14.out BK790.out (by decide))); replace BK796 := a_ (blk_grown (g := gb796) (o := .cells #[.int .u64 t791, .int .u64 t792, .int .u64 t793, .int .u64 t794] 29 (0, 0)) (blkU_ BK796.out) hg (Kd.R_away HO_14.out (fun _ hk => hk.2))); replace BK802 := a_ (blk_grown (g := gb802) (o := .cells #[.int .i64 t798, .int .i64 t799] 100 (0, 0)) (blkU_ BK802.out) hg (Kd.R_ne HO_14.out BK802.out (by decide))); replace BK803 := a_ (blk_grown (g := gb803) (o := .cells #[.int .i64 t800, .int .i64 t801] 100 (0, 0)) (blkU_ BK803.out) hg (Kd.R_ne HO_14.out BK803.out (by decide))); replace HM := a_ (IsM.grown (isS_ HM.out) hg (fun e_ => ((R_map HO_14.out HM.out).1 gm_ e_.symm).2 rfl)); replace HB := a_ (hb); have HO817 := a_ (ho); clear HO_14; clear ho hb hg hat))
            go_roundg k2
            case measure => have := HJ5.out; have := HK2.out; omega
            case rel => exact ⟨(y815), (wrap64 (x16_2 + 1)), (t800), (t801), rl_, H', ⟨by have := HJ5.out; have := HK2.out; omega⟩, ⟨by (with_reducible repeat (first | apply Kd.R_alloc | apply Kd.R_drewN | apply Kd.R_drew)); exact Kd.R_mono HO_13.out (fun _ hk => hk.1.1)⟩, ⟨by (with_reducible repeat (first | apply Kd.R_alloc | apply Kd.R_drewN | apply Kd.R_drew)); exact Kd.R_mono HO817.out (fun _ hk => trivial)⟩, ⟨blkU_ BK790.out⟩, ⟨isS_ HM.out⟩, ⟨bel_⟩⟩
           ·rw [if_neg c81] at H
            exact absurd H (by simp)
         ·rw [if_neg c56] at H
          exact absurd H (by simp)
        ·rw [if_neg c55] at H
         exact absurd H (by simp)
end
end Go.Proofs.Ytflckegggopdnaa.B
