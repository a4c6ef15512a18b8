/- What the Go functions loop.example/belfry/impl.digestBy do is what the Lean functions .f of their names here say; condition: .f gives an answer. (Written by the session's program pp.py over the kit's print; Lean checks it.) -/
import Derived.Test.YtflckegggopdnaaZCEK
import Derived.Test.YtflckegggopdnaaZCEM
import Derived.Test.YtflckegggopdnaaZCEGImplPair1
import Derived.Test.YtflckegggopdnaaZCEGWay1
import Derived.Test.YtflckegggopdnaaZCEHLook
namespace Go.Proofs.Ytflckegggopdnaa.B
open Go.RowKit Go.Proofs.YtflckegggopdnaaW.PrintWords Go.Proofs.YtflckegggopdnaaW.PrintLast Go.Proofs.YtflckegggopdnaaW.PrintMore
attribute [local go_sem] max2_int min2_int max_two min_two max_three min_three max_four min_four
set_option linter.unusedVariables false
set_option linter.unusedSimpArgs false
section
def impl_digestBy.f : Nat → MapD → Int → Int → Option (Int × Int × Int × Int)
  | 0, _, _, _ => none
  | k + 1, a0, a1_0, a1_1 => (impl_lookAt.f a0 a1_0 a1_1).bind fun bt421 => (if bt421.2.2.2.2 = true then (some (bt421.1, bt421.2.1, bt421.2.2.1, bt421.2.2.2.1)) else ((impl_node_halves.f k a1_0 a1_1).bind fun bt427 => ((impl_digestBy.f k a0 bt427.1 bt427.2.1).bind fun bt433 => ((impl_digestBy.f k a0 bt427.2.2.1 bt427.2.2.2).bind fun bt437 => ((impl_HashPair.f k bt433.1 bt433.2.1 bt433.2.2.1 bt433.2.2.2 bt437.1 bt437.2.1 bt437.2.2.1 bt437.2.2.2).bind fun bt441 => (some (bt441.1, bt441.2.1, bt441.2.2.1, bt441.2.2.2)))))))
def impl_digestBy.T5 : Bool × List (List Nat × List Nat) := (true, [([], []), ([], []), ([0, 1], [0, 1]), ([], []), ([], []), ([3, 4, 2], [3, 4]), ([2, 5, 5], [2, 5]), ([6, 6, 0, 1, 2, 3, 4, 5, 6], [6])])
def impl_digestBy.B5 : List Nat := [0, 0, 3, 0, 0, 31, 63, 127]
theorem impl_digestBy.tab5 : rtab .any (opsOf Try.f70 5) = impl_digestBy.T5 := by kernel_rfl
theorem impl_digestBy.bits5 : waitsOk impl_digestBy.T5.2 impl_digestBy.B5 = true := by kernel_rfl
set_option maxHeartbeats 8000000 in
set_option maxRecDepth 100000 in
theorem impl_digestBy.calls (k : Nat) : ∀ (a0 : MapD) (a1_0 : Int) (a1_1 : Int) (r1 : Int) (r2 : Int) (r3 : Int) (r4 : Int) (w : World) (mb_ mn_ : Nat) (hI : IsM w mb_ mn_ a0) (h : impl_digestBy.f k a0 a1_0 a1_1 = some (r1, r2, r3, r4)),
    Calls Try.prog 70 #[.map (some mb_), .agg #[.int .i64 a1_0, .int .i64 a1_1]] w fun e w' => e = .returned (.agg #[.int .u64 r1, .int .u64 r2, .int .u64 r3, .int .u64 r4]) ∧ Below w.heap.size w w' := by
  induction k using Nat.strongRecOn with
  | _ k ih =>
  intro a0 a1_0 a1_1 r1 r2 r3 r4 w mb_ mn_ hI h
  cases k with
  | zero => exact absurd h (by simp [impl_digestBy.f])
  | succ k =>
  simp only [impl_digestBy.f] at h
  have hu100 := Try.underlying100
  have hu29 := Try.underlying29
  have HB := Aside0.mk (Below.refl w.heap.size w)
  have H : ((impl_lookAt.f a0 a1_0 a1_1).bind fun bt421 => (if bt421.2.2.2.2 = true then (some (bt421.1, bt421.2.1, bt421.2.2.1, bt421.2.2.2.1)) else ((impl_node_halves.f k a1_0 a1_1).bind fun bt427 => ((impl_digestBy.f k a0 bt427.1 bt427.2.1).bind fun bt433 => ((impl_digestBy.f k a0 bt427.2.2.1 bt427.2.2.2).bind fun bt437 => ((impl_HashPair.f k bt433.1 bt433.2.1 bt433.2.2.1 bt433.2.2.2 bt437.1 bt437.2.1 bt437.2.2.1 bt437.2.2.2).bind fun bt441 => (some (bt441.1, bt441.2.1, bt441.2.2.1, bt441.2.2.2)))))))) = some (r1, r2, r3, r4) := h
  clear h
  obtain ⟨⟨t421, t422, t423, t424, t425⟩, A3, H⟩ := bnd_ H
  dsimp only at H
  by_cases c4 : t425 = true
  · subst c4
    rw [if_pos rfl] at H
    simp only [Option.some.injEq, Prod.mk.injEq] at H
    obtain ⟨rfl, rfl, rfl, rfl⟩ := H
    go_enter Try.func70, Try.ntmps70
    go_wp2_with (first | ((with_reducible refine gate_dst (N := 3) rfl ?_); refine boxE_ (cs := #[.int .i64 a1_0, .int .i64 a1_1]) (t := 100) ?_; intro gb419 hg w5 hbox hb; have BK419 := Aside0.mk (hbox); have GW419 := sizeB_ hg; have GE419 := sizeB_ hg; replace HB := stepB_ hb; clear hb hbox hg) | ((with_reducible refine gate_dst (N := 4) rfl ?_); refine boxE_ (cs := #[.int .u64 0, .int .u64 0, .int .u64 0, .int .u64 0]) (t := 29) ?_; intro gb420 hg w6 hbox hb; have BK420 := Aside0.mk (hbox); have GW420 := sizeB_ hg; have GE420 := sizeB_ hg; replace HB := stepB_ hb; have NB419_420 := neL_ BK419.out hg; have NB420_419 := neG_ BK419.out hg; replace BK419 := blkBel_ BK419.out hb; clear hb hbox hg; have hnb7 := NB419_420.out; have hnc7 := NB420_419.out; obtain ⟨hcz8_0, hcz8_1, hfz8_0, hfz8_1⟩ := cz2_ BK419.out) | ((with_reducible refine gate_dst (N := 12) rfl ?_); refine goLook_ (IsM.below hI bel_) A3.out ?_; intro w9 hb; replace BK419 := blkBel_ BK419.out hb; replace BK420 := blkBel_ BK420.out hb; replace HB := stepB_ hb; (try clear hb)) | ((with_reducible refine gate_dst (N := 5) rfl ?_); refine boxE_ (cs := #[.int .u64 0, .int .u64 0, .int .u64 0, .int .u64 0]) (t := 29) ?_; intro gb426 hg w10 hbox hb; have BK426 := Aside0.mk (hbox); have GW426 := sizeB_ hg; have GE426 := sizeB_ hg; replace HB := stepB_ hb; have NB419_426 := neL_ BK419.out hg; have NB426_419 := neG_ BK419.out hg; replace BK419 := blkBel_ BK419.out hb; have NB420_426 := neL_ BK420.out hg; have NB426_420 := neG_ BK420.out hg; replace BK420 := blkBel_ BK420.out hb; clear hb hbox hg; have hnb11 := NB426_419.out; have hnc11 := NB419_426.out; have hnb12 := NB426_420.out; have hnc12 := NB420_426.out; obtain ⟨hcz13_0, hcz13_1, hcz13_2, hcz13_3, hfz13_0, hfz13_1, hfz13_2, hfz13_3⟩ := cz4_ BK426.out; obtain ⟨hcz14_0, hcz14_1, hcz14_2, hcz14_3, hfz14_0, hfz14_1, hfz14_2, hfz14_3⟩ := cz4_ BK420.out))
    refine bodyPost_ret (results_cell_row rfl _ _ gb420 29 #[.int .u64 t421, .int .u64 t422, .int .u64 t423, .int .u64 t424] (0, 0) _ rfl (blkF_ BK420.out) Try.underlying29 rfl (by kernel_rfl)) rfl ?_
    exact ⟨rfl_, bel_⟩
  · replace c4 := Bool.eq_false_iff.mpr c4
    subst c4
    rw [if_neg (show ¬ (false = true) by decide)] at H
    obtain ⟨⟨t427, t428, t429, t430⟩, A15, H⟩ := bnd_ H
    dsimp only at H
    obtain ⟨⟨t433, t434, t435, t436⟩, A16, H⟩ := bnd_ H
    dsimp only at H
    obtain ⟨⟨t437, t438, t439, t440⟩, A17, H⟩ := bnd_ H
    dsimp only at H
    obtain ⟨⟨t441, t442, t443, t444⟩, A18, H⟩ := bnd_ H
    dsimp only at H
    simp only [Option.some.injEq, Prod.mk.injEq] at H
    obtain ⟨rfl, rfl, rfl, rfl⟩ := H
    go_enter Try.func70, Try.ntmps70
    try go_wp2_with (first | ((with_reducible refine gate_dst (N := 3) rfl ?_); refine boxE_ (cs := #[.int .i64 a1_0, .int .i64 a1_1]) (t := 100) ?_; intro gb419 hg w19 hbox hb; have BK419 := Aside0.mk (hbox); have GW419 := sizeB_ hg; have GE419 := sizeB_ hg; replace HB := stepB_ hb; clear hb hbox hg) | ((with_reducible refine gate_dst (N := 4) rfl ?_); refine boxE_ (cs := #[.int .u64 0, .int .u64 0, .int .u64 0, .int .u64 0]) (t := 29) ?_; intro gb420 hg w20 hbox hb; have BK420 := Aside0.mk (hbox); have GW420 := sizeB_ hg; have GE420 := sizeB_ hg; replace HB := stepB_ hb; have NB419_420 := neL_ BK419.out hg; have NB420_419 := neG_ BK419.out hg; replace BK419 := blkBel_ BK419.out hb; clear hb hbox hg; have hnb21 := NB419_420.out; have hnc21 := NB420_419.out; obtain ⟨hcz22_0, hcz22_1, hfz22_0, hfz22_1⟩ := cz2_ BK419.out) | ((with_reducible refine gate_dst (N := 12) rfl ?_); refine goLook_ (IsM.below hI bel_) A3.out ?_; intro w23 hb; replace BK419 := blkBel_ BK419.out hb; replace BK420 := blkBel_ BK420.out hb; replace HB := stepB_ hb; (try clear hb)) | ((with_reducible refine gate_dst (N := 5) rfl ?_); refine boxE_ (cs := #[.int .u64 0, .int .u64 0, .int .u64 0, .int .u64 0]) (t := 29) ?_; intro gb426 hg w24 hbox hb; have BK426 := Aside0.mk (hbox); have GW426 := sizeB_ hg; have GE426 := sizeB_ hg; replace HB := stepB_ hb; have NB419_426 := neL_ BK419.out hg; have NB426_419 := neG_ BK419.out hg; replace BK419 := blkBel_ BK419.out hb; have NB420_426 := neL_ BK420.out hg; have NB426_420 := neG_ BK420.out hg; replace BK420 := blkBel_ BK420.out hb; clear hb hbox hg; have hnb25 := NB426_419.out; have hnc25 := NB419_426.out; have hnb26 := NB426_420.out; have hnc26 := NB420_426.out; obtain ⟨hcz27_0, hcz27_1, hcz27_2, hcz27_3, hfz27_0, hfz27_1, hfz27_2, hfz27_3⟩ := cz4_ BK426.out; obtain ⟨hcz28_0, hcz28_1, hfz28_0, hfz28_1⟩ := cz2_ BK419.out) | ((with_reducible refine gate_callee (f := 77) rfl ?_); refine goL_ (some 19) Try.func77 #[.agg #[.int .i64 a1_0, .int .i64 a1_1]] ?_; (with_reducible refine (impl_node_halves.calls k a1_0 a1_1 t427 t428 t429 t430 _ A15.out).mono ?_); rintro e w29 ⟨rfl, hb⟩; refine ⟨_, rfl, ?_⟩; replace BK419 := blkBel_ BK419.out hb; replace BK420 := blkBel_ BK420.out hb; replace BK426 := blkPB_ (cs := #[.int .u64 t421, .int .u64 t422, .int .u64 t423, .int .u64 t424]) BK426.out hb; replace HB := stepB_ hb; (try clear hb)) | ((with_reducible refine gate_dst (N := 7) rfl ?_); refine boxE_ (cs := #[.int .i64 0, .int .i64 0]) (t := 100) ?_; intro gb431 hg w30 hbox hb; have BK431 := Aside0.mk (hbox); have GW431 := sizeB_ hg; have GE431 := sizeB_ hg; replace HB := stepB_ hb; have NB419_431 := neL_ BK419.out hg; have NB431_419 := neG_ BK419.out hg; replace BK419 := blkBel_ BK419.out hb; have NB420_431 := neL_ BK420.out hg; have NB431_420 := neG_ BK420.out hg; replace BK420 := blkBel_ BK420.out hb; have NB426_431 := neL_ BK426.out hg; have NB431_426 := neG_ BK426.out hg; replace BK426 := blkBel_ BK426.out hb; clear hb hbox hg) | ((with_reducible refine gate_dst (N := 8) rfl ?_); refine boxE_ (cs := #[.int .i64 0, .int .i64 0]) (t := 100) ?_; intro gb432 hg w31 hbox hb; have BK432 := Aside0.mk (hbox); have GW432 := sizeB_ hg; have GE432 := sizeB_ hg; replace HB := stepB_ hb; have NB419_432 := neL_ BK419.out hg; have NB432_419 := neG_ BK419.out hg; replace BK419 := blkBel_ BK419.out hb; have NB420_432 := neL_ BK420.out hg; have NB432_420 := neG_ BK420.out hg; replace BK420 := blkBel_ BK420.out hb; have NB426_432 := neL_ BK426.out hg; have NB432_426 := neG_ BK426.out hg; replace BK426 := blkBel_ BK426.out hb; have NB431_432 := neL_ BK431.out hg; have NB432_431 := neG_ BK431.out hg; replace BK431 := blkBel_ BK431.out hb; clear hb hbox hg; have hnb32 := NB431_419.out; have hnc32 := NB419_431.out; have hnb33 := NB431_420.out; have hnc33 := NB420_431.out; have hnb34 := NB431_426.out; have hnc34 := NB426_431.out; have hnb35 := NB431_432.out; have hnc35 := NB432_431.out; obtain ⟨hcz36_0, hcz36_1, hfz36_0, hfz36_1⟩ := cz2_ BK431.out; have hnb37 := NB432_419.out; have hnc37 := NB419_432.out; have hnb38 := NB432_420.out; have hnc38 := NB420_432.out; have hnb39 := NB432_426.out; have hnc39 := NB426_432.out; obtain ⟨hcz40_0, hcz40_1, hfz40_0, hfz40_1⟩ := cz2_ BK432.out))
    have n0_ : Aside0 (((((w31.setCell ⟨gb431, 0, none⟩ (.int .i64 t427)).setCell ⟨gb431, 1, none⟩ (.int .i64 t428)).setCell ⟨gb432, 0, none⟩ (.int .i64 t429)).setCell ⟨gb432, 1, none⟩ (.int .i64 t430)).heap[gb419]? = some (.cells #[.int .i64 a1_0, .int .i64 a1_1] 100 (0, 0))) := ⟨blkU_ BK419.out⟩
    have n1_ : Aside0 (((((w31.setCell ⟨gb431, 0, none⟩ (.int .i64 t427)).setCell ⟨gb431, 1, none⟩ (.int .i64 t428)).setCell ⟨gb432, 0, none⟩ (.int .i64 t429)).setCell ⟨gb432, 1, none⟩ (.int .i64 t430)).heap[gb420]? = some (.cells #[.int .u64 0, .int .u64 0, .int .u64 0, .int .u64 0] 29 (0, 0))) := ⟨blkU_ BK420.out⟩
    have n2_ : Aside0 (((((w31.setCell ⟨gb431, 0, none⟩ (.int .i64 t427)).setCell ⟨gb431, 1, none⟩ (.int .i64 t428)).setCell ⟨gb432, 0, none⟩ (.int .i64 t429)).setCell ⟨gb432, 1, none⟩ (.int .i64 t430)).heap[gb426]? = some (.cells #[.int .u64 t421, .int .u64 t422, .int .u64 t423, .int .u64 t424] 29 (0, 0))) := ⟨blkU_ BK426.out⟩
    have n3_ : Aside0 (((((w31.setCell ⟨gb431, 0, none⟩ (.int .i64 t427)).setCell ⟨gb431, 1, none⟩ (.int .i64 t428)).setCell ⟨gb432, 0, none⟩ (.int .i64 t429)).setCell ⟨gb432, 1, none⟩ (.int .i64 t430)).heap[gb431]? = some (.cells #[.int .i64 t427, .int .i64 t428] 100 (0, 0))) := ⟨blkF_ BK431.out⟩
    have n4_ : Aside0 (((((w31.setCell ⟨gb431, 0, none⟩ (.int .i64 t427)).setCell ⟨gb431, 1, none⟩ (.int .i64 t428)).setCell ⟨gb432, 0, none⟩ (.int .i64 t429)).setCell ⟨gb432, 1, none⟩ (.int .i64 t430)).heap[gb432]? = some (.cells #[.int .i64 t429, .int .i64 t430] 100 (0, 0))) := ⟨blkF_ BK432.out⟩
    have n5_ : Aside0 (Below w.heap.size w ((((w31.setCell ⟨gb431, 0, none⟩ (.int .i64 t427)).setCell ⟨gb431, 1, none⟩ (.int .i64 t428)).setCell ⟨gb432, 0, none⟩ (.int .i64 t429)).setCell ⟨gb432, 1, none⟩ (.int .i64 t430))) := ⟨bel_⟩
    (try clear BK419); (try clear BK420); (try clear BK426); (try clear BK431); (try clear BK432); (try clear HB)
    generalize ((((w31.setCell ⟨gb431, 0, none⟩ (.int .i64 t427)).setCell ⟨gb431, 1, none⟩ (.int .i64 t428)).setCell ⟨gb432, 0, none⟩ (.int .i64 t429)).setCell ⟨gb432, 1, none⟩ (.int .i64 t430)) = w41 at n0_ n1_ n2_ n3_ n4_ n5_ ⊢
    have BK419 := n0_
    have BK420 := n1_
    have BK426 := n2_
    have BK431 := n3_
    have BK432 := n4_
    have HB := n5_
    clear n0_ n1_ n2_ n3_ n4_ n5_
    replace BK419 := Aside0.mk (blk_drew BK419.out)
    replace BK420 := Aside0.mk (blk_drew BK420.out)
    replace BK426 := Aside0.mk (blk_drew BK426.out)
    replace BK431 := Aside0.mk (blk_drew BK431.out)
    replace BK432 := Aside0.mk (blk_drew BK432.out)
    replace HB := Aside0.mk (below_drew1 HB.out)
    refine start_ (n := 8) (S := fun w' => w'.cell? ⟨gb431, 0, none⟩ = some (.int .i64 t427) ∧ w'.cell? ⟨gb431, 1, none⟩ = some (.int .i64 t428) ∧ w'.cell? ⟨gb432, 0, none⟩ = some (.int .i64 t429) ∧ w'.cell? ⟨gb432, 1, none⟩ = some (.int .i64 t430)) (ds := []) #[false, false, false, false, false, false, false, false] (by kernel_rfl) rfl rfl ⟨(blk_cell BK431.out 0).trans rfl, (blk_cell BK431.out 1).trans rfl, (blk_cell BK432.out 0).trans rfl, (blk_cell BK432.out 1).trans rfl⟩ (fun hHeld => ?_); refine with_tabW impl_digestBy.tab5 impl_digestBy.bits5 (fun HT_ HW_ => ?_)
    generalize w41.drew = w42 at BK419 BK420 BK426 BK431 BK432 HB hHeld ⊢
    refine pureP_ 0 (some 22) #[true, false, false, false, false, false, false, false] HT_ ?_
    refine pureP_ 3 (some 25) #[true, false, false, true, false, false, false, false] HT_ ?_
    refine takeP_ 1 (some 23) #[true, true, false, true, false, false, false, false] HT_ HW_ hHeld ?_
    refine takeP_ 4 (some 26) #[true, true, false, true, true, false, false, false] HT_ HW_ hHeld ?_
    refine oneP_ 2 (some 24) #[true, true, true, true, true, false, false, false] HT_ (fun K hK => ?_)
    refine goN_ Try.func70 #[.map (some mb_), .agg #[.int .i64 t427, .int .i64 t428]] ?_
    with_reducible refine (ih k (by omega) a0 t427 t428 t433 t434 t435 t436 _ mb_ mn_ (IsM.below hI bel_) A16.out).mono ?_
    rintro e w43 ⟨rfl, hb⟩
    refine ⟨_, rfl, ?_⟩
    replace BK419 := blkBel_ BK419.out hb
    replace BK420 := blkBel_ BK420.out hb
    replace BK426 := blkBel_ BK426.out hb
    replace BK431 := blkBel_ BK431.out hb
    replace BK432 := blkBel_ BK432.out hb
    replace HB := stepB_ hb
    (try clear hb)
    refine hK.out _ _ ⟨(blk_cell BK431.out 0).trans rfl, (blk_cell BK431.out 1).trans rfl, (blk_cell BK432.out 0).trans rfl, (blk_cell BK432.out 1).trans rfl⟩ (fun hHeld => ?_)
    clear hK K
    refine norm_ (a' := ?_) ?_ ?_
    rotate_left
    · show Act.put _ (some 24) _ = _
      simp only [Act.put, List.setIfInBounds_toArray, List.set_cons_zero, List.set_cons_succ, i64_w, i32_w]
      rfl
    refine oneP_ 5 (some 27) #[true, true, true, true, true, true, false, false] HT_ (fun K hK => ?_)
    refine goN_ Try.func70 #[.map (some mb_), .agg #[.int .i64 t429, .int .i64 t430]] ?_
    with_reducible refine (ih k (by omega) a0 t429 t430 t437 t438 t439 t440 _ mb_ mn_ (IsM.below hI bel_) A17.out).mono ?_
    rintro e w44 ⟨rfl, hb⟩
    refine ⟨_, rfl, ?_⟩
    replace BK419 := blkBel_ BK419.out hb
    replace BK420 := blkBel_ BK420.out hb
    replace BK426 := blkBel_ BK426.out hb
    replace BK431 := blkBel_ BK431.out hb
    replace BK432 := blkBel_ BK432.out hb
    replace HB := stepB_ hb
    (try clear hb)
    refine hK.out _ _ ⟨(blk_cell BK431.out 0).trans rfl, (blk_cell BK431.out 1).trans rfl, (blk_cell BK432.out 0).trans rfl, (blk_cell BK432.out 1).trans rfl⟩ (fun hHeld => ?_)
    clear hK K
    refine norm_ (a' := ?_) ?_ ?_
    rotate_left
    · show Act.put _ (some 27) _ = _
      simp only [Act.put, List.setIfInBounds_toArray, List.set_cons_zero, List.set_cons_succ, i64_w, i32_w]
      rfl
    refine oneP_ 6 (some 28) #[true, true, true, true, true, true, true, false] HT_ (fun K hK => ?_)
    refine goN_ Try.func110 #[.agg #[.int .u64 t433, .int .u64 t434, .int .u64 t435, .int .u64 t436], .agg #[.int .u64 t437, .int .u64 t438, .int .u64 t439, .int .u64 t440]] ?_
    with_reducible refine (impl_HashPair.calls k t433 t434 t435 t436 t437 t438 t439 t440 t441 t442 t443 t444 _ A18.out).mono ?_
    rintro e w45 ⟨rfl, hb⟩
    refine ⟨_, rfl, ?_⟩
    replace BK419 := blkBel_ BK419.out hb
    replace BK420 := blkBel_ BK420.out hb
    replace BK426 := blkBel_ BK426.out hb
    replace BK431 := blkBel_ BK431.out hb
    replace BK432 := blkBel_ BK432.out hb
    replace HB := stepB_ hb
    (try clear hb)
    refine hK.out _ _ ⟨(blk_cell BK431.out 0).trans rfl, (blk_cell BK431.out 1).trans rfl, (blk_cell BK432.out 0).trans rfl, (blk_cell BK432.out 1).trans rfl⟩ (fun hHeld => ?_)
    clear hK K
    refine norm_ (a' := ?_) ?_ ?_
    rotate_left
    · show Act.put _ (some 28) _ = _
      simp only [Act.put, List.setIfInBounds_toArray, List.set_cons_zero, List.set_cons_succ, i64_w, i32_w]
      rfl
    refine oneP_ 7 none #[true, true, true, true, true, true, true, true] HT_ (fun K hK => ?_)
    have hs46 : w45.cell? ⟨gb420, 0, none⟩ = some (.int .u64 0) := (blk_cell BK420.out 0).trans rfl
    have hfs46 := blk_frozen BK420.out 0
    have hns46_0 := NB419_420.out
    have hns46_2 := NB426_420.out
    have hns46_3 := NB431_420.out
    have hns46_4 := NB432_420.out
    have hms46_0 := NB420_419.out
    have hms46_2 := NB420_426.out
    have hms46_3 := NB420_431.out
    have hms46_4 := NB420_432.out
    have hs47 : w45.cell? ⟨gb420, 1, none⟩ = some (.int .u64 0) := (blk_cell BK420.out 1).trans rfl
    have hfs47 := blk_frozen BK420.out 1
    have hns47_0 := NB419_420.out
    have hns47_2 := NB426_420.out
    have hns47_3 := NB431_420.out
    have hns47_4 := NB432_420.out
    have hms47_0 := NB420_419.out
    have hms47_2 := NB420_426.out
    have hms47_3 := NB420_431.out
    have hms47_4 := NB420_432.out
    have hs48 : w45.cell? ⟨gb420, 2, none⟩ = some (.int .u64 0) := (blk_cell BK420.out 2).trans rfl
    have hfs48 := blk_frozen BK420.out 2
    have hns48_0 := NB419_420.out
    have hns48_2 := NB426_420.out
    have hns48_3 := NB431_420.out
    have hns48_4 := NB432_420.out
    have hms48_0 := NB420_419.out
    have hms48_2 := NB420_426.out
    have hms48_3 := NB420_431.out
    have hms48_4 := NB420_432.out
    have hs49 : w45.cell? ⟨gb420, 3, none⟩ = some (.int .u64 0) := (blk_cell BK420.out 3).trans rfl
    have hfs49 := blk_frozen BK420.out 3
    have hns49_0 := NB419_420.out
    have hns49_2 := NB426_420.out
    have hns49_3 := NB431_420.out
    have hns49_4 := NB432_420.out
    have hms49_0 := NB420_419.out
    have hms49_2 := NB420_426.out
    have hms49_3 := NB420_431.out
    have hms49_4 := NB420_432.out
    refine skip_ (w1 := ?_) (by rfl) rfl ?_ ?_
    rotate_left
    · go_simp
      rfl
    refine hK.out _ _ ⟨((cell_far (p := ⟨gb420, _, none⟩) NB431_420.out _).trans (((cell_far (p := ⟨gb420, _, none⟩) NB431_420.out _).trans (((cell_far (p := ⟨gb420, _, none⟩) NB431_420.out _).trans (((cell_far (p := ⟨gb420, _, none⟩) NB431_420.out _).trans (hHeld.1)))))))), ((cell_far (p := ⟨gb420, _, none⟩) NB431_420.out _).trans (((cell_far (p := ⟨gb420, _, none⟩) NB431_420.out _).trans (((cell_far (p := ⟨gb420, _, none⟩) NB431_420.out _).trans (((cell_far (p := ⟨gb420, _, none⟩) NB431_420.out _).trans (hHeld.2.1)))))))), ((cell_far (p := ⟨gb420, _, none⟩) NB432_420.out _).trans (((cell_far (p := ⟨gb420, _, none⟩) NB432_420.out _).trans (((cell_far (p := ⟨gb420, _, none⟩) NB432_420.out _).trans (((cell_far (p := ⟨gb420, _, none⟩) NB432_420.out _).trans (hHeld.2.2.1)))))))), ((cell_far (p := ⟨gb420, _, none⟩) NB432_420.out _).trans (((cell_far (p := ⟨gb420, _, none⟩) NB432_420.out _).trans (((cell_far (p := ⟨gb420, _, none⟩) NB432_420.out _).trans (((cell_far (p := ⟨gb420, _, none⟩) NB432_420.out _).trans (hHeld.2.2.2))))))))⟩ (fun hHeld => ?_)
    clear hK K
    refine done_ (done_of HT_.out (by kernel_rfl)) ?_
    try go_wp2
    refine bodyPost_ret (results_cell_row rfl _ _ gb420 29 #[.int .u64 t441, .int .u64 t442, .int .u64 t443, .int .u64 t444] (0, 0) _ rfl (blkF_ BK420.out) Try.underlying29 rfl (by kernel_rfl)) rfl ?_
    exact ⟨rfl_, bel_⟩
end
end Go.Proofs.Ytflckegggopdnaa.B
