/- Texts that this claim's law leans on, without what nothing names. What each says stands at its theorems; conditions stand in them. (Put together by the session's program shake.py; Lean checks it.) -/
import Derived.Test.YtflckegggopdnaaZCHP0
import Derived.Test.YtflckegggopdnaaZCHP4
import Derived.Test.YtflckegggopdnaaZCHP2
import Derived.Test.YtflckegggopdnaaZCHP10
import Derived.Test.YtflckegggopdnaaZCHGUp1
import Derived.Test.YtflckegggopdnaaZCHGUp2
namespace Go.Proofs.Ytflckegggopdnaa.B
section
open Go.RowKit Go.Proofs.YtflckegggopdnaaW.PrintWords Go.Proofs.YtflckegggopdnaaW.PrintLast Go.Proofs.YtflckegggopdnaaW.PrintMore
attribute [local go_sem] max2_int min2_int max_two min_two max_three min_three max_four min_four
set_option linter.unusedVariables false
set_option maxHeartbeats 8000000
set_option maxRecDepth 100000
set_option linter.unusedSimpArgs false
section
def impl_digestBy.f : Nat → MapD → Int → Int → Option (Int × Int × Int × Int)
 | 0, _, _, _ => none
 | k + 1, a0, a1_0, a1_1 => (impl_lookAt.f a0 a1_0 a1_1).bind fun bt421 => (if bt421.2.2.2.2 = true then (some (bt421.1, bt421.2.1, bt421.2.2.1, bt421.2.2.2.1)) else ((impl_node_halves.f k a1_0 a1_1).bind fun bt427 => ((impl_digestBy.f k a0 bt427.1 bt427.2.1).bind fun bt433 => ((impl_digestBy.f k a0 bt427.2.2.1 bt427.2.2.2).bind fun bt437 => ((impl_HashPair.f k bt433.1 bt433.2.1 bt433.2.2.1 bt433.2.2.2 bt437.1 bt437.2.1 bt437.2.2.1 bt437.2.2.2).bind fun bt441 => (some (bt441.1, bt441.2.1, bt441.2.2.1, bt441.2.2.2)))))))
def impl_digestBy.T5 : Bool × List (List Nat × List Nat) := (true, [([], []), ([], []), ([0, 1], [0, 1]), ([], []), ([], []), ([3, 4, 2], [3, 4]), ([2, 5, 5], [2, 5]), ([6, 6, 0, 1, 2, 3, 4, 5, 6], [6])])
def impl_digestBy.B5 : List Nat := [0, 0, 3, 0, 0, 31, 63, 127]
theorem impl_digestBy.tab5 : rtab .any (opsOf Try.f70 5) = impl_digestBy.T5 := by kernel_rfl
theorem impl_digestBy.bits5 : waitsOk impl_digestBy.T5.2 impl_digestBy.B5 = true := by kernel_rfl
theorem impl_digestBy.calls (k : Nat) : ∀ (a0 : MapD) (a1_0 a1_1 : Int) (r1 r2 : Int) (r3 r4 : Int) (w : World) (mb_ mn_ : Nat) (hI : IsM w mb_ mn_ a0) (h : impl_digestBy.f k a0 a1_0 a1_1 = some (r1, r2, r3, r4)),
  Calls Try.prog 70 #[.map (some mb_), .agg #[.int .i64 a1_0, .int .i64 a1_1]] w fun e w' => e = .returned (.agg #[.int .u64 r1, .int .u64 r2, .int .u64 r3, .int .u64 r4]) ∧ Below w.heap.size w w' := by
 induction k using Nat.strongRecOn with
 | _ k ih =>
 intro a0 a1_0 a1_1 r1 r2 r3 r4 w mb_ mn_ hI h
 cases k with
 | zero => exact absurd h (by simp [impl_digestBy.f])
 | succ k =>
 simp only [impl_digestBy.f] at h
 have hu100 := Try.underlying100
 have hu29 := Try.underlying29
 have HB := a_ (Below.refl w.heap.size w)
 have H : ((impl_lookAt.f a0 a1_0 a1_1).bind fun bt421 => (if bt421.2.2.2.2 = true then (some (bt421.1, bt421.2.1, bt421.2.2.1, bt421.2.2.2.1)) else ((impl_node_halves.f k a1_0 a1_1).bind fun bt427 => ((impl_digestBy.f k a0 bt427.1 bt427.2.1).bind fun bt433 => ((impl_digestBy.f k a0 bt427.2.2.1 bt427.2.2.2).bind fun bt437 => ((impl_HashPair.f k bt433.1 bt433.2.1 bt433.2.2.1 bt433.2.2.2 bt437.1 bt437.2.1 bt437.2.2.1 bt437.2.2.2).bind fun bt441 => (some (bt441.1, bt441.2.1, bt441.2.2.1, bt441.2.2.2)))))))) = some (r1, r2, r3, r4) := h
 clear h
 obtain ⟨⟨t421, t422, t423, t424, t425⟩, A3, H⟩ := bnd_ H
 dsimp only at H
 by_cases c4 : t425 = true
 ·subst c4
  rw [if_pos rfl] at H
  simp only [Option.some.injEq, Prod.mk.injEq] at H
  obtain ⟨rfl, rfl, rfl, rfl⟩ := H
  go_enter Try.func70, Try.ntmps70
  go_wp2_with (first | ((with_reducible refine gate_dst (N := 3) rfl ?_); refine boxE_ (cs := #[.int .i64 a1_0, .int .i64 a1_1]) (t := 100) ?_; intro gb419 hg w5 hbox hb; have BK419 := a_ (hbox); have GW419 := sizeB_ hg; replace HB := stepB_ hb; clear hb hbox hg) | ((with_reducible refine gate_dst (N := 4) rfl ?_); refine boxE_ (cs := #[.int .u64 0, .int .u64 0, .int .u64 0, .int .u64 0]) (t := 29) ?_; intro gb420 hg w6 hbox hb; have BK420 := a_ (hbox); have GW420 := sizeB_ hg; replace HB := stepB_ hb; obtain ⟨NB419_420, NB420_419⟩ := ne2_ BK419.out hg; replace BK419 := bb_ BK419.out hb; clear hb hbox hg; have hnb7 := NB419_420.out; have hnc7 := NB420_419.out; obtain ⟨z8_0, z8_1, f8_0, f8_1⟩ := cz2_ BK419.out) | ((with_reducible refine gate_dst (N := 12) rfl ?_); refine goLook_ (IsM.below hI bel_) A3.out ?_; intro w9 hb; replace BK419 := bb_ BK419.out hb; replace BK420 := bb_ BK420.out hb; replace HB := stepB_ hb; (try clear hb)) | ((with_reducible refine gate_dst (N := 5) rfl ?_); refine boxE_ (cs := #[.int .u64 0, .int .u64 0, .int .u64 0, .int .u64 0]) (t := 29) ?_; intro gb426 hg w10 hbox hb; have BK426 := a_ (hbox); have GW426 := sizeB_ hg; replace HB := stepB_ hb; obtain ⟨NB419_426, NB426_419⟩ := ne2_ BK419.out hg; replace BK419 := bb_ BK419.out hb; obtain ⟨NB420_426, NB426_420⟩ := ne2_ BK420.out hg; replace BK420 := bb_ BK420.out hb; clear hb hbox hg; have hnb11 := NB426_419.out; have hnc11 := NB419_426.out; have hnb12 := NB426_420.out; have hnc12 := NB420_426.out; obtain ⟨z13_0, z13_1, z13_2, z13_3, f13_0, f13_1, f13_2, f13_3⟩ := cz4_ BK426.out; obtain ⟨z14_0, z14_1, z14_2, z14_3, f14_0, f14_1, f14_2, f14_3⟩ := cz4_ BK420.out))
  refine bodyPost_ret (results_cell_row rfl _ _ gb420 29 #[.int .u64 t421, .int .u64 t422, .int .u64 t423, .int .u64 t424] (0, 0) _ rfl (blkF_ BK420.out) Try.underlying29 rfl (by kernel_rfl)) rfl ?_
  exact ⟨rfl_, bel_⟩
 ·replace c4 := Bool.eq_false_iff.mpr c4
  subst c4
  rw [if_neg (show ¬ (false = true) by decide)] at H
  obtain ⟨⟨t427, t428, t429, t430⟩, A15, H⟩ := bnd_ H
  dsimp only at H
  obtain ⟨⟨t433, t434, t435, t436⟩, A16, H⟩ := bnd_ H
  dsimp only at H
  obtain ⟨⟨t437, t438, t439, t440⟩, A17, H⟩ := bnd_ H
  dsimp only at H
  obtain ⟨⟨t441, t442, t443, t444⟩, A18, H⟩ := bnd_ H
  dsimp only at H
  simp only [Option.some.injEq, Prod.mk.injEq] at H
  obtain ⟨rfl, rfl, rfl, rfl⟩ := H
  go_enter Try.func70, Try.ntmps70
  try go_wp2_with (first | ((with_reducible refine gate_dst (N := 3) rfl ?_); refine boxE_ (cs := #[.int .i64 a1_0, .int .i64 a1_1]) (t := 100) ?_; intro gb419 hg w19 hbox hb; have BK419 := a_ (hbox); have GW419 := sizeB_ hg; replace HB := stepB_ hb; clear hb hbox hg) | ((with_reducible refine gate_dst (N := 4) rfl ?_); refine boxE_ (cs := #[.int .u64 0, .int .u64 0, .int .u64 0, .int .u64 0]) (t := 29) ?_; intro gb420 hg w20 hbox hb; have BK420 := a_ (hbox); have GW420 := sizeB_ hg; replace HB := stepB_ hb; obtain ⟨NB419_420, NB420_419⟩ := ne2_ BK419.out hg; replace BK419 := bb_ BK419.out hb; clear hb hbox hg; have hnb21 := NB419_420.out; have hnc21 := NB420_419.out; obtain ⟨z22_0, z22_1, f22_0, f22_1⟩ := cz2_ BK419.out) | ((with_reducible refine gate_dst (N := 12) rfl ?_); refine goLook_ (IsM.below hI bel_) A3.out ?_; intro w23 hb; replace BK419 := bb_ BK419.out hb; replace BK420 := bb_ BK420.out hb; replace HB := stepB_ hb; (try clear hb)) | ((with_reducible refine gate_dst (N := 5) rfl ?_); refine boxE_ (cs := #[.int .u64 0, .int .u64 0, .int .u64 0, .int .u64 0]) (t := 29) ?_; intro gb426 hg w24 hbox hb; have BK426 := a_ (hbox); have GW426 := sizeB_ hg; replace HB := stepB_ hb; obtain ⟨NB419_426, NB426_419⟩ := ne2_ BK419.out hg; replace BK419 := bb_ BK419.out hb; obtain ⟨NB420_426, NB426_420⟩ := ne2_ BK420.out hg; replace BK420 := bb_ BK420.out hb; clear hb hbox hg; have hnb25 := NB426_419.out; have hnc25 := NB419_426.out; have hnb26 := NB426_420.out; have hnc26 := NB420_426.out; obtain ⟨z27_0, z27_1, z27_2, z27_3, f27_0, f27_1, f27_2, f27_3⟩ := cz4_ BK426.out; obtain ⟨z28_0, z28_1, f28_0, f28_1⟩ := cz2_ BK419.out) | (refine gcL_ 77 (some 19) Try.func77 #[.agg #[.int .i64 a1_0, .int .i64 a1_1]] ?_; (with_reducible refine (impl_node_halves.calls k a1_0 a1_1 t427 t428 t429 t430 _ A15.out).mono ?_); rintro e w29 ⟨rfl, hb⟩; refine ⟨_, rfl, ?_⟩; replace BK419 := bb_ BK419.out hb; replace BK420 := bb_ BK420.out hb; replace BK426 := blkPB_ (cs := #[.int .u64 t421, .int .u64 t422, .int .u64 t423, .int .u64 t424]) BK426.out hb; replace HB := stepB_ hb; (try clear hb)) | ((with_reducible refine gate_dst (N := 7) rfl ?_); refine boxE_ (cs := #[.int .i64 0, .int .i64 0]) (t := 100) ?_; intro gb431 hg w30 hbox hb; have BK431 := a_ (hbox); have GW431 := sizeB_ hg; replace HB := stepB_ hb; obtain ⟨NB419_431, NB431_419⟩ := ne2_ BK419.out hg; replace BK419 := bb_ BK419.out hb; obtain ⟨NB420_431, NB431_420⟩ := ne2_ BK420.out hg; replace BK420 := bb_ BK420.out hb; obtain ⟨NB426_431, NB431_426⟩ := ne2_ BK426.out hg; replace BK426 := bb_ BK426.out hb; clear hb hbox hg) | ((with_reducible refine gate_dst (N := 8) rfl ?_); refine boxE_ (cs := #[.int .i64 0, .int .i64 0]) (t := 100) ?_; intro gb432 hg w31 hbox hb; have BK432 := a_ (hbox); have GW432 := sizeB_ hg; replace HB := stepB_ hb; obtain ⟨NB419_432, NB432_419⟩ := ne2_ BK419.out hg; replace BK419 := bb_ BK419.out hb; obtain ⟨NB420_432, NB432_420⟩ := ne2_ BK420.out hg; replace BK420 := bb_ BK420.out hb; obtain ⟨NB426_432, NB432_426⟩ := ne2_ BK426.out hg; replace BK426 := bb_ BK426.out hb; obtain ⟨NB431_432, NB432_431⟩ := ne2_ BK431.out hg; replace BK431 := bb_ BK431.out hb; clear hb hbox hg; have hnb32 := NB431_419.out; have hnc32 := NB419_431.out; have hnb33 := NB431_420.out; have hnc33 := NB420_431.out; have hnb34 := NB431_426.out; have hnc34 := NB426_431.out; have hnb35 := NB431_432.out; have hnc35 := NB432_431.out; obtain ⟨z36_0, z36_1, f36_0, f36_1⟩ := cz2_ BK431.out; have hnb37 := NB432_419.out; have hnc37 := NB419_432.out; have hnb38 := NB432_420.out; have hnc38 := NB420_432.out; have hnb39 := NB432_426.out; have hnc39 := NB426_432.out; obtain ⟨z40_0, z40_1, f40_0, f40_1⟩ := cz2_ BK432.out))
  have n0_ : Aside0 (((((w31.setCell ⟨gb431, 0, none⟩ (.int .i64 t427)).setCell ⟨gb431, 1, none⟩ (.int .i64 t428)).setCell ⟨gb432, 0, none⟩ (.int .i64 t429)).setCell ⟨gb432, 1, none⟩ (.int .i64 t430)).heap[gb419]? = some (.cells #[.int .i64 a1_0, .int .i64 a1_1] 100 (0, 0))) := ⟨blkU_ BK419.out⟩
  have n1_ : Aside0 (((((w31.setCell ⟨gb431, 0, none⟩ (.int .i64 t427)).setCell ⟨gb431, 1, none⟩ (.int .i64 t428)).setCell ⟨gb432, 0, none⟩ (.int .i64 t429)).setCell ⟨gb432, 1, none⟩ (.int .i64 t430)).heap[gb420]? = some (.cells #[.int .u64 0, .int .u64 0, .int .u64 0, .int .u64 0] 29 (0, 0))) := ⟨blkU_ BK420.out⟩
  have n2_ : Aside0 (((((w31.setCell ⟨gb431, 0, none⟩ (.int .i64 t427)).setCell ⟨gb431, 1, none⟩ (.int .i64 t428)).setCell ⟨gb432, 0, none⟩ (.int .i64 t429)).setCell ⟨gb432, 1, none⟩ (.int .i64 t430)).heap[gb426]? = some (.cells #[.int .u64 t421, .int .u64 t422, .int .u64 t423, .int .u64 t424] 29 (0, 0))) := ⟨blkU_ BK426.out⟩
  have n3_ : Aside0 (((((w31.setCell ⟨gb431, 0, none⟩ (.int .i64 t427)).setCell ⟨gb431, 1, none⟩ (.int .i64 t428)).setCell ⟨gb432, 0, none⟩ (.int .i64 t429)).setCell ⟨gb432, 1, none⟩ (.int .i64 t430)).heap[gb431]? = some (.cells #[.int .i64 t427, .int .i64 t428] 100 (0, 0))) := ⟨blkF_ BK431.out⟩
  have n4_ : Aside0 (((((w31.setCell ⟨gb431, 0, none⟩ (.int .i64 t427)).setCell ⟨gb431, 1, none⟩ (.int .i64 t428)).setCell ⟨gb432, 0, none⟩ (.int .i64 t429)).setCell ⟨gb432, 1, none⟩ (.int .i64 t430)).heap[gb432]? = some (.cells #[.int .i64 t429, .int .i64 t430] 100 (0, 0))) := ⟨blkF_ BK432.out⟩
  have n5_ : Aside0 (Below w.heap.size w ((((w31.setCell ⟨gb431, 0, none⟩ (.int .i64 t427)).setCell ⟨gb431, 1, none⟩ (.int .i64 t428)).setCell ⟨gb432, 0, none⟩ (.int .i64 t429)).setCell ⟨gb432, 1, none⟩ (.int .i64 t430))) := ⟨bel_⟩
  (try clear BK419); (try clear BK420); (try clear BK426); (try clear BK431); (try clear BK432); (try clear HB)
  generalize ((((w31.setCell ⟨gb431, 0, none⟩ (.int .i64 t427)).setCell ⟨gb431, 1, none⟩ (.int .i64 t428)).setCell ⟨gb432, 0, none⟩ (.int .i64 t429)).setCell ⟨gb432, 1, none⟩ (.int .i64 t430)) = w41 at n0_ n1_ n2_ n3_ n4_ n5_ ⊢
  have BK419 := n0_
  have BK420 := n1_
  have BK426 := n2_
  have BK431 := n3_
  have BK432 := n4_
  have HB := n5_
  clear n0_ n1_ n2_ n3_ n4_ n5_
  replace BK419 := a_ (blk_drew BK419.out)
  replace BK420 := a_ (blk_drew BK420.out)
  replace BK426 := a_ (blk_drew BK426.out)
  replace BK431 := a_ (blk_drew BK431.out)
  replace BK432 := a_ (blk_drew BK432.out)
  replace HB := a_ (below_drew1 HB.out)
  refine start_ (n := 8) (S := fun w' => w'.cell? ⟨gb431, 0, none⟩ = some (.int .i64 t427) ∧ w'.cell? ⟨gb431, 1, none⟩ = some (.int .i64 t428) ∧ w'.cell? ⟨gb432, 0, none⟩ = some (.int .i64 t429) ∧ w'.cell? ⟨gb432, 1, none⟩ = some (.int .i64 t430)) (ds := []) #[false, false, false, false, false, false, false, false] (by kernel_rfl) rfl rfl (hcc2_ BK431.out (hc2_ BK432.out)) (fun hHeld => ?_); refine with_tabW impl_digestBy.tab5 impl_digestBy.bits5 (fun HT HW_ => ?_)
  generalize w41.drew = w42 at BK419 BK420 BK426 BK431 BK432 HB hHeld ⊢
  refine pP_ 0 (some 22) (b_ 8 1) HT ?_
  refine pP_ 3 (some 25) (b_ 8 9) HT ?_
  refine takeP_ 1 (some 23) (b_ 8 11) HT HW_ hHeld ?_
  refine takeP_ 4 (some 26) (b_ 8 27) HT HW_ hHeld ?_
  refine oneP_ 2 (some 24) (b_ 8 31) HT (fun K hK => ?_)
  refine goN_ Try.func70 #[.map (some mb_), .agg #[.int .i64 t427, .int .i64 t428]] ?_
  with_reducible refine (ih k (by omega) a0 t427 t428 t433 t434 t435 t436 _ mb_ mn_ (IsM.below hI bel_) A16.out).mono ?_
  rintro e w43 ⟨rfl, hb⟩
  refine ⟨_, rfl, ?_⟩
  replace BK419 := bb_ BK419.out hb
  replace BK420 := bb_ BK420.out hb
  replace BK426 := bb_ BK426.out hb
  replace BK431 := bb_ BK431.out hb
  replace BK432 := bb_ BK432.out hb
  replace HB := stepB_ hb
  (try clear hb)
  refine hK.out _ _ (hcc2_ BK431.out (hc2_ BK432.out)) (fun hHeld => ?_)
  clear hK K
  refine normP_ (some 24) ?_
  refine oneP_ 5 (some 27) (b_ 8 63) HT (fun K hK => ?_)
  refine goN_ Try.func70 #[.map (some mb_), .agg #[.int .i64 t429, .int .i64 t430]] ?_
  with_reducible refine (ih k (by omega) a0 t429 t430 t437 t438 t439 t440 _ mb_ mn_ (IsM.below hI bel_) A17.out).mono ?_
  rintro e w44 ⟨rfl, hb⟩
  refine ⟨_, rfl, ?_⟩
  replace BK419 := bb_ BK419.out hb
  replace BK420 := bb_ BK420.out hb
  replace BK426 := bb_ BK426.out hb
  replace BK431 := bb_ BK431.out hb
  replace BK432 := bb_ BK432.out hb
  replace HB := stepB_ hb
  (try clear hb)
  refine hK.out _ _ (hcc2_ BK431.out (hc2_ BK432.out)) (fun hHeld => ?_)
  clear hK K
  refine normP_ (some 27) ?_
  refine oneP_ 6 (some 28) (b_ 8 127) HT (fun K hK => ?_)
  refine goN_ Try.func110 #[.agg #[.int .u64 t433, .int .u64 t434, .int .u64 t435, .int .u64 t436], .agg #[.int .u64 t437, .int .u64 t438, .int .u64 t439, .int .u64 t440]] ?_
  with_reducible refine (impl_HashPair.calls k t433 t434 t435 t436 t437 t438 t439 t440 t441 t442 t443 t444 _ A18.out).mono ?_
  rintro e w45 ⟨rfl, hb⟩
  refine ⟨_, rfl, ?_⟩
  replace BK419 := bb_ BK419.out hb
  replace BK420 := bb_ BK420.out hb
  replace BK426 := bb_ BK426.out hb
  replace BK431 := bb_ BK431.out hb
  replace BK432 := bb_ BK432.out hb
  replace HB := stepB_ hb
  (try clear hb)
  refine hK.out _ _ (hcc2_ BK431.out (hc2_ BK432.out)) (fun hHeld => ?_)
  clear hK K
  refine normP_ (some 28) ?_
  refine oneP_ 7 none (b_ 8 255) HT (fun K hK => ?_)
  have hs46 : w45.cell? ⟨gb420, 0, none⟩ = some (.int .u64 0) := (blk_cell BK420.out 0).trans rfl
  have hfs46 := blk_frozen BK420.out 0
  have hns46_0 := NB419_420.out
  have hns46_2 := NB426_420.out
  have hns46_3 := NB431_420.out
  have hns46_4 := NB432_420.out
  have hms46_0 := NB420_419.out
  have hms46_2 := NB420_426.out
  have hms46_3 := NB420_431.out
  have hms46_4 := NB420_432.out
  have hs47 : w45.cell? ⟨gb420, 1, none⟩ = some (.int .u64 0) := (blk_cell BK420.out 1).trans rfl
  have hfs47 := blk_frozen BK420.out 1
  have hns47_0 := NB419_420.out
  have hns47_2 := NB426_420.out
  have hns47_3 := NB431_420.out
  have hns47_4 := NB432_420.out
  have hms47_0 := NB420_419.out
  have hms47_2 := NB420_426.out
  have hms47_3 := NB420_431.out
  have hms47_4 := NB420_432.out
  have hs48 : w45.cell? ⟨gb420, 2, none⟩ = some (.int .u64 0) := (blk_cell BK420.out 2).trans rfl
  have hfs48 := blk_frozen BK420.out 2
  have hns48_0 := NB419_420.out
  have hns48_2 := NB426_420.out
  have hns48_3 := NB431_420.out
  have hns48_4 := NB432_420.out
  have hms48_0 := NB420_419.out
  have hms48_2 := NB420_426.out
  have hms48_3 := NB420_431.out
  have hms48_4 := NB420_432.out
  have hs49 : w45.cell? ⟨gb420, 3, none⟩ = some (.int .u64 0) := (blk_cell BK420.out 3).trans rfl
  have hfs49 := blk_frozen BK420.out 3
  have hns49_0 := NB419_420.out
  have hns49_2 := NB426_420.out
  have hns49_3 := NB431_420.out
  have hns49_4 := NB432_420.out
  have hms49_0 := NB420_419.out
  have hms49_2 := NB420_426.out
  have hms49_3 := NB420_431.out
  have hms49_4 := NB420_432.out
  refine skip_ (w1 := ?_) (by rfl) rfl ?_ ?_
  rotate_left
  ·go_simp
   rfl
  refine hK.out _ _ ⟨((cell_far (p := ⟨gb420, _, none⟩) NB431_420.out _).trans (((cell_far (p := ⟨gb420, _, none⟩) NB431_420.out _).trans ((cf2_ NB431_420.out hHeld.1))))), ((cell_far (p := ⟨gb420, _, none⟩) NB431_420.out _).trans (((cell_far (p := ⟨gb420, _, none⟩) NB431_420.out _).trans ((cf2_ NB431_420.out hHeld.2.1))))), ((cell_far (p := ⟨gb420, _, none⟩) NB432_420.out _).trans (((cell_far (p := ⟨gb420, _, none⟩) NB432_420.out _).trans ((cf2_ NB432_420.out hHeld.2.2.1))))), ((cell_far (p := ⟨gb420, _, none⟩) NB432_420.out _).trans (((cell_far (p := ⟨gb420, _, none⟩) NB432_420.out _).trans ((cf2_ NB432_420.out hHeld.2.2.2)))))⟩ (fun hHeld => ?_)
  clear hK K
  refine done_ (done_of HT.out (by kernel_rfl)) ?_
  try go_wp2
  refine bodyPost_ret (results_cell_row rfl _ _ gb420 29 #[.int .u64 t441, .int .u64 t442, .int .u64 t443, .int .u64 t444] (0, 0) _ rfl (blkF_ BK420.out) Try.underlying29 rfl (by kernel_rfl)) rfl ?_
  exact ⟨rfl_, bel_⟩
end
section
def spec_PeaksCount.l0 : Nat → Int → Int → Option (Int)
 | 0, _, _ => none
 | k + 1, x0, x3 => if x0 > 0 then (spec_PeaksCount.l0 k (wrap64 (Int.tdiv x0 2)) (wrap64 (x3 + (Int.tmod x0 2)))) else (some x3)
def spec_PeaksCount.f (k : Nat) (a0 : Int) : Option (Int) := (spec_l1In.f a0 0 256).bind fun t105 => (if t105 = true then (spec_PeaksCount.l0 k a0 0) else (some 0))
theorem spec_PeaksCount.calls (k : Nat) (a0 r : Int) (w : World) (h : spec_PeaksCount.f k a0 = some r) :
  Calls Try.prog 50 #[.int .i64 a0] w fun e w' => e = .returned (.int .i64 r) ∧ Drawn0 w w' := by
 have H := h
 unfold spec_PeaksCount.f at H
 clear h
 obtain ⟨t105, A2, H⟩ := bnd_ H
 by_cases c3 : t105 = true
 ·subst c3
  rw [if_pos rfl] at H
  have H' := Aside0.mk H
  clear H
  go_enter Try.func50, Try.ntmps50
  go_wp2_with (first | (refine gcL_ 94 (some 5) Try.func94 #[.int .i64 a0, .int .i64 0, .int .i64 256] ?_; (with_reducible refine (spec_l1In.calls a0 0 256 true _ A2.out).mono ?_); rintro e w' ⟨rfl, ⟨nd, rfl⟩⟩; refine ⟨_, rfl, ?_⟩))
  go_loopg [0, 3] k (fun kq v0 v3 w' => ∃ (x0_1 x3_1 : Int), v0 = .int .i64 x0_1 ∧ v3 = .int .i64 x3_1 ∧ Aside0 (spec_PeaksCount.l0 kq x0_1 x3_1 = some r) ∧ Aside0 (kq ≤ k) ∧ Drawn0 w w')
  case atStart => exact ⟨(a0), (0), rl_, rl_, H', ⟨Nat.le_refl _⟩, by repeat (first | exact Drawn0.refl _ | apply Drawn0.step)⟩
  case round =>
   clear H'
   (try clear c3)
   obtain ⟨x0_1, x3_1, rfl, rfl, HA, HK1, ⟨m1, rfl⟩⟩ := hrel
   cases gk with
   | zero => exact absurd HA.out (by simp [spec_PeaksCount.l0])
   | succ k1 =>
    have H := HA.out
    clear HA
    simp only [spec_PeaksCount.l0] at H
    by_cases c4 : x0_1 > 0
    ·rw [if_pos c4] at H
     have c4b0 : decide (0 < x0_1) = true := decide_eq_true c4
     clear c4
     have H' := Aside0.mk H
     clear H
     go_wp2
     go_roundg k1
     case measure => have := HK1.out; omega
     case rel => exact ⟨(wrap64 (Int.tdiv x0_1 2)), (wrap64 (x3_1 + (Int.tmod x0_1 2))), rl_, rl_, H', ⟨by have := HK1.out; omega⟩, by repeat (first | exact Drawn0.refl _ | apply Drawn0.step)⟩
    ·rw [if_neg c4] at H
     have c4b0 : decide (0 < x0_1) = false := decide_eq_false c4
     clear c4
     obtain rfl := Option.some.inj H
     go_wp2
     go_ret
     exact ⟨rl_, dr_⟩
 ·replace c3 := Bool.eq_false_iff.mpr c3
  subst c3
  rw [if_neg (show ¬ (false = true) by decide)] at H
  obtain rfl := Option.some.inj H
  go_enter Try.func50, Try.ntmps50
  go_wp2_with (first | (refine gcL_ 94 (some 5) Try.func94 #[.int .i64 a0, .int .i64 0, .int .i64 256] ?_; (with_reducible refine (spec_l1In.calls a0 0 256 false _ A2.out).mono ?_); rintro e w' ⟨rfl, ⟨nd, rfl⟩⟩; refine ⟨_, rfl, ?_⟩))
  go_ret
  exact ⟨rl_, dr_⟩
end
section
def bits_OnesCount64.f (a0 : Int) : Option (Int) := some (Go.bits .and .i64 (wrap64 (IntKind.u64.wrap ((IntKind.u64.wrap ((IntKind.u64.wrap ((Go.bits .and .u64 (IntKind.u64.wrap (((IntKind.u64.wrap ((Go.bits .and .u64 ((IntKind.u64.wrap ((Go.bits .and .u64 (a0 / 2) 6148914691236517205) + (Go.bits .and .u64 a0 6148914691236517205))) / 4) 3689348814741910323) + (Go.bits .and .u64 (IntKind.u64.wrap ((Go.bits .and .u64 (a0 / 2) 6148914691236517205) + (Go.bits .and .u64 a0 6148914691236517205))) 3689348814741910323))) / 16) + (IntKind.u64.wrap ((Go.bits .and .u64 ((IntKind.u64.wrap ((Go.bits .and .u64 (a0 / 2) 6148914691236517205) + (Go.bits .and .u64 a0 6148914691236517205))) / 4) 3689348814741910323) + (Go.bits .and .u64 (IntKind.u64.wrap ((Go.bits .and .u64 (a0 / 2) 6148914691236517205) + (Go.bits .and .u64 a0 6148914691236517205))) 3689348814741910323))))) 1085102592571150095) + ((Go.bits .and .u64 (IntKind.u64.wrap (((IntKind.u64.wrap ((Go.bits .and .u64 ((IntKind.u64.wrap ((Go.bits .and .u64 (a0 / 2) 6148914691236517205) + (Go.bits .and .u64 a0 6148914691236517205))) / 4) 3689348814741910323) + (Go.bits .and .u64 (IntKind.u64.wrap ((Go.bits .and .u64 (a0 / 2) 6148914691236517205) + (Go.bits .and .u64 a0 6148914691236517205))) 3689348814741910323))) / 16) + (IntKind.u64.wrap ((Go.bits .and .u64 ((IntKind.u64.wrap ((Go.bits .and .u64 (a0 / 2) 6148914691236517205) + (Go.bits .and .u64 a0 6148914691236517205))) / 4) 3689348814741910323) + (Go.bits .and .u64 (IntKind.u64.wrap ((Go.bits .and .u64 (a0 / 2) 6148914691236517205) + (Go.bits .and .u64 a0 6148914691236517205))) 3689348814741910323))))) 1085102592571150095) / 256))) + ((IntKind.u64.wrap ((Go.bits .and .u64 (IntKind.u64.wrap (((IntKind.u64.wrap ((Go.bits .and .u64 ((IntKind.u64.wrap ((Go.bits .and .u64 (a0 / 2) 6148914691236517205) + (Go.bits .and .u64 a0 6148914691236517205))) / 4) 3689348814741910323) + (Go.bits .and .u64 (IntKind.u64.wrap ((Go.bits .and .u64 (a0 / 2) 6148914691236517205) + (Go.bits .and .u64 a0 6148914691236517205))) 3689348814741910323))) / 16) + (IntKind.u64.wrap ((Go.bits .and .u64 ((IntKind.u64.wrap ((Go.bits .and .u64 (a0 / 2) 6148914691236517205) + (Go.bits .and .u64 a0 6148914691236517205))) / 4) 3689348814741910323) + (Go.bits .and .u64 (IntKind.u64.wrap ((Go.bits .and .u64 (a0 / 2) 6148914691236517205) + (Go.bits .and .u64 a0 6148914691236517205))) 3689348814741910323))))) 1085102592571150095) + ((Go.bits .and .u64 (IntKind.u64.wrap (((IntKind.u64.wrap ((Go.bits .and .u64 ((IntKind.u64.wrap ((Go.bits .and .u64 (a0 / 2) 6148914691236517205) + (Go.bits .and .u64 a0 6148914691236517205))) / 4) 3689348814741910323) + (Go.bits .and .u64 (IntKind.u64.wrap ((Go.bits .and .u64 (a0 / 2) 6148914691236517205) + (Go.bits .and .u64 a0 6148914691236517205))) 3689348814741910323))) / 16) + (IntKind.u64.wrap ((Go.bits .and .u64 ((IntKind.u64.wrap ((Go.bits .and .u64 (a0 / 2) 6148914691236517205) + (Go.bits .and .u64 a0 6148914691236517205))) / 4) 3689348814741910323) + (Go.bits .and .u64 (IntKind.u64.wrap ((Go.bits .and .u64 (a0 / 2) 6148914691236517205) + (Go.bits .and .u64 a0 6148914691236517205))) 3689348814741910323))))) 1085102592571150095) / 256))) / 65536))) + ((IntKind.u64.wrap ((IntKind.u64.wrap ((Go.bits .and .u64 (IntKind.u64.wrap (((IntKind.u64.wrap ((Go.bits .and .u64 ((IntKind.u64.wrap ((Go.bits .and .u64 (a0 / 2) 6148914691236517205) + (Go.bits .and .u64 a0 6148914691236517205))) / 4) 3689348814741910323) + (Go.bits .and .u64 (IntKind.u64.wrap ((Go.bits .and .u64 (a0 / 2) 6148914691236517205) + (Go.bits .and .u64 a0 6148914691236517205))) 3689348814741910323))) / 16) + (IntKind.u64.wrap ((Go.bits .and .u64 ((IntKind.u64.wrap ((Go.bits .and .u64 (a0 / 2) 6148914691236517205) + (Go.bits .and .u64 a0 6148914691236517205))) / 4) 3689348814741910323) + (Go.bits .and .u64 (IntKind.u64.wrap ((Go.bits .and .u64 (a0 / 2) 6148914691236517205) + (Go.bits .and .u64 a0 6148914691236517205))) 3689348814741910323))))) 1085102592571150095) + ((Go.bits .and .u64 (IntKind.u64.wrap (((IntKind.u64.wrap ((Go.bits .and .u64 ((IntKind.u64.wrap ((Go.bits .and .u64 (a0 / 2) 6148914691236517205) + (Go.bits .and .u64 a0 6148914691236517205))) / 4) 3689348814741910323) + (Go.bits .and .u64 (IntKind.u64.wrap ((Go.bits .and .u64 (a0 / 2) 6148914691236517205) + (Go.bits .and .u64 a0 6148914691236517205))) 3689348814741910323))) / 16) + (IntKind.u64.wrap ((Go.bits .and .u64 ((IntKind.u64.wrap ((Go.bits .and .u64 (a0 / 2) 6148914691236517205) + (Go.bits .and .u64 a0 6148914691236517205))) / 4) 3689348814741910323) + (Go.bits .and .u64 (IntKind.u64.wrap ((Go.bits .and .u64 (a0 / 2) 6148914691236517205) + (Go.bits .and .u64 a0 6148914691236517205))) 3689348814741910323))))) 1085102592571150095) / 256))) + ((IntKind.u64.wrap ((Go.bits .and .u64 (IntKind.u64.wrap (((IntKind.u64.wrap ((Go.bits .and .u64 ((IntKind.u64.wrap ((Go.bits .and .u64 (a0 / 2) 6148914691236517205) + (Go.bits .and .u64 a0 6148914691236517205))) / 4) 3689348814741910323) + (Go.bits .and .u64 (IntKind.u64.wrap ((Go.bits .and .u64 (a0 / 2) 6148914691236517205) + (Go.bits .and .u64 a0 6148914691236517205))) 3689348814741910323))) / 16) + (IntKind.u64.wrap ((Go.bits .and .u64 ((IntKind.u64.wrap ((Go.bits .and .u64 (a0 / 2) 6148914691236517205) + (Go.bits .and .u64 a0 6148914691236517205))) / 4) 3689348814741910323) + (Go.bits .and .u64 (IntKind.u64.wrap ((Go.bits .and .u64 (a0 / 2) 6148914691236517205) + (Go.bits .and .u64 a0 6148914691236517205))) 3689348814741910323))))) 1085102592571150095) + ((Go.bits .and .u64 (IntKind.u64.wrap (((IntKind.u64.wrap ((Go.bits .and .u64 ((IntKind.u64.wrap ((Go.bits .and .u64 (a0 / 2) 6148914691236517205) + (Go.bits .and .u64 a0 6148914691236517205))) / 4) 3689348814741910323) + (Go.bits .and .u64 (IntKind.u64.wrap ((Go.bits .and .u64 (a0 / 2) 6148914691236517205) + (Go.bits .and .u64 a0 6148914691236517205))) 3689348814741910323))) / 16) + (IntKind.u64.wrap ((Go.bits .and .u64 ((IntKind.u64.wrap ((Go.bits .and .u64 (a0 / 2) 6148914691236517205) + (Go.bits .and .u64 a0 6148914691236517205))) / 4) 3689348814741910323) + (Go.bits .and .u64 (IntKind.u64.wrap ((Go.bits .and .u64 (a0 / 2) 6148914691236517205) + (Go.bits .and .u64 a0 6148914691236517205))) 3689348814741910323))))) 1085102592571150095) / 256))) / 65536))) / 4294967296)))) 127)
theorem bits_OnesCount64.calls (a0 r : Int) (w : World) (h : bits_OnesCount64.f a0 = some r) :
  Calls Try.prog 125 #[.int .u64 a0] w fun e w' => e = .returned (.int .i64 r) ∧ Drawn0 w w' := by
 have H := h
 unfold bits_OnesCount64.f at H
 clear h
 obtain rfl := Option.some.inj H
 go_enter Try.func125, Try.ntmps125
 go_wp2
 go_ret
 exact ⟨rl_, dr_⟩
end
section
def bits_OnesCount.f (a0 : Int) : Option (Int) := (bits_OnesCount64.f a0).bind fun t321 => (some t321)
theorem bits_OnesCount.calls (a0 r : Int) (w : World) (h : bits_OnesCount.f a0 = some r) :
  Calls Try.prog 101 #[.int .u64 a0] w fun e w' => e = .returned (.int .i64 r) ∧ Drawn0 w w' := by
 have H := h
 unfold bits_OnesCount.f at H
 clear h
 obtain ⟨t321, A2, H⟩ := bnd_ H
 obtain rfl := Option.some.inj H
 go_enter Try.func101, Try.ntmps101
 go_wp2_with (first | (refine gcL_ 125 (some 7) Try.func125 #[.int .u64 a0] ?_; (with_reducible refine (bits_OnesCount64.calls a0 t321 _ A2.out).mono ?_); rintro e w' ⟨rfl, ⟨nd, rfl⟩⟩; refine ⟨_, rfl, ?_⟩))
 go_ret
 exact ⟨rl_, dr_⟩
end
section
def impl_PeaksCount.f (a0 : Int) : Option (Int) := (impl_in.f a0 0 256).bind fun t322 => (if t322 = true then ((bits_OnesCount.f (IntKind.u64.wrap (a0))).bind fun t323 => (some t323)) else (some 0))
theorem impl_PeaksCount.calls (a0 r : Int) (w : World) (h : impl_PeaksCount.f a0 = some r) :
  Calls Try.prog 55 #[.int .i64 a0] w fun e w' => e = .returned (.int .i64 r) ∧ Drawn0 w w' := by
 have H := h
 unfold impl_PeaksCount.f at H
 clear h
 obtain ⟨t322, A2, H⟩ := bnd_ H
 by_cases c3 : t322 = true
 ·subst c3
  rw [if_pos rfl] at H
  obtain ⟨t323, A4, H⟩ := bnd_ H
  obtain rfl := Option.some.inj H
  go_enter Try.func55, Try.ntmps55
  go_wp2_with (first | (refine gcL_ 75 (some 4) Try.func75 #[.int .i64 a0, .int .i64 0, .int .i64 256] ?_; (with_reducible refine (impl_in.calls a0 0 256 true _ A2.out).mono ?_); rintro e w' ⟨rfl, ⟨nd, rfl⟩⟩; refine ⟨_, rfl, ?_⟩) | (refine gcL_ 101 (some 8) Try.func101 #[.int .u64 (IntKind.u64.wrap (a0))] ?_; (with_reducible refine (bits_OnesCount.calls (IntKind.u64.wrap (a0)) t323 _ A4.out).mono ?_); rintro e w' ⟨rfl, ⟨nd, rfl⟩⟩; refine ⟨_, rfl, ?_⟩))
  go_ret
  exact ⟨rl_, dr_⟩
 ·replace c3 := Bool.eq_false_iff.mpr c3
  subst c3
  rw [if_neg (show ¬ (false = true) by decide)] at H
  obtain rfl := Option.some.inj H
  go_enter Try.func55, Try.ntmps55
  go_wp2_with (first | (refine gcL_ 75 (some 4) Try.func75 #[.int .i64 a0, .int .i64 0, .int .i64 256] ?_; (with_reducible refine (impl_in.calls a0 0 256 false _ A2.out).mono ?_); rintro e w' ⟨rfl, ⟨nd, rfl⟩⟩; refine ⟨_, rfl, ?_⟩))
  go_ret
  exact ⟨rl_, dr_⟩
end
section
mutual
def impl_peaksRow.l0 : Nat → Int → Int → List (S29) → List ByteArray → Int → Int → Option (List ByteArray)
 | 0, _, _, _, _, _, _ => none
 | k + 1, x0, x1, x2, x7, x8, x9 => if (wrap64 (x9 + 1)) < (x2.length : Int) then (impl_peaksRow.j1 k x0 x1 x2 x7 x8 x9 (decide (x1 ≥ x8))) else (impl_peaksRow.j1 k x0 x1 x2 x7 x8 x9 false)
def impl_peaksRow.j1 : Nat → Int → Int → List (S29) → List ByteArray → Int → Int → Bool → Option (List ByteArray)
 | 0, _, _, _, _, _, _, _ => none
 | k + 1, x0, x1, x2, x7, x8, x9, x21 => if x21 = true then (if 0 ≤ x9 then (if x9 < (x2.length : Int) then (if 0 ≤ (wrap64 (x9 + 1)) then (if (wrap64 (x9 + 1)) ≤ (x2.length : Int) then ((impl_PeaksRoot.f k (x2.drop ((wrap64 (x9 + 1)) : Int).toNat)).bind fun bt923 => ((impl_pairText.f k ((rd_T29 x2 x9).f0) ((rd_T29 x2 x9).f1) ((rd_T29 x2 x9).f2) ((rd_T29 x2 x9).f3) bt923.1 bt923.2.1 bt923.2.2.1 bt923.2.2.2).bind fun t927 => (if x7.length < 8796093022208 then (impl_peaksRow.l1 k x0 x1 x2 (x7 ++ [t927]) x8 x9 (wrap64 (x0 - x8)) 1) else (none)))) else (none)) else (none)) else (none)) else (none)) else (some x7)
def impl_peaksRow.l1 : Nat → Int → Int → List (S29) → List ByteArray → Int → Int → Int → Int → Option (List ByteArray)
 | 0, _, _, _, _, _, _, _, _ => none
 | k + 1, x0, x1, x2, x7, x8, x9, x10, x11 => if (wrap64 (2 * x11)) ≤ x10 then (impl_peaksRow.l1 k x0 x1 x2 x7 x8 x9 x10 (wrap64 (x11 * 2))) else (impl_peaksRow.l0 k x0 x1 x2 x7 (wrap64 (x8 + x11)) (wrap64 (x9 + 1)))
end
def impl_peaksRow.f (k : Nat) (a0 a1 : Int) (l2 : List (S29)) : Option (List ByteArray) := impl_peaksRow.l0 k a0 a1 l2 ([] : List ByteArray) 0 0
def impl_peaksRow.T6 : Bool × List (List Nat × List Nat) := (true, [([], []), ([], []), ([], []), ([1, 2], [1, 2]), ([3], [3]), ([], []), ([], []), ([6], [6]), ([5, 7], [5, 7]), ([8], [8]), ([4, 9, 9], [4, 9]), ([10], [10]), ([0, 11, 10], [0, 11]), ([12, 12, 0, 1, 2, 3, 4, 5, 6, 7, 8, 9, 10, 11, 12], [0, 12])])
def impl_peaksRow.B6 : List Nat := [0, 0, 0, 6, 14, 0, 0, 64, 224, 480, 1022, 2046, 4095, 8191]
theorem impl_peaksRow.tab6 : rtab .any (opsOf Try.f54 6) = impl_peaksRow.T6 := by kernel_rfl
theorem impl_peaksRow.bits6 : waitsOk impl_peaksRow.T6.2 impl_peaksRow.B6 = true := by kernel_rfl
theorem impl_peaksRow.calls (k : Nat) (a0 a1 : Int) (A2 : Option Addr) (c2 : Nat) (l2 : List (S29)) (r : List ByteArray) (w : World) (hr2 : Kd.C k29 w A2 l2.length l2) (hc2 : l2.length ≤ c2) (h : impl_peaksRow.f k a0 a1 l2 = some r) :
  Calls Try.prog 54 #[.int .i64 a0, .int .i64 a1, .slice A2 l2.length c2] w fun e w' => ∃ v0_ : Value, e = .returned (v0_) ∧ Kd.R Kd.string 9 w' w.heap.size (fun _ => True) v0_ r ∧ Below w.heap.size w w' := by
 have hu29 := Try.underlying29
 have HR2 := Aside0.mk hr2
 have HC2 := Aside0.mk hc2
 clear hr2 hc2
 have HB := a_ (Below.refl w.heap.size w)
 have H := h
 unfold impl_peaksRow.f at H
 clear h
 have H' := Aside0.mk H
 clear H
 go_enter Try.func54, Try.ntmps54
 go_wp2
 go_loopg [7, 8, 9] k (fun kq v7 v8 v9 w' => ∃ (x7_1 : List ByteArray) (x8_1 x9_1 : Int), v8 = .int .i64 x8_1 ∧ v9 = .int .i64 x9_1 ∧ Aside0 (impl_peaksRow.l0 kq a0 a1 l2 x7_1 x8_1 x9_1 = some r) ∧ Aside0 (kq ≤ k) ∧ Aside0 (Kd.R Kd.string 9 w' w.heap.size (fun _ => True) v7 x7_1) ∧ Aside0 (Below w.heap.size w w'))
 case atStart => exact ⟨(([] : List ByteArray)), (0), (0), rl_, rl_, H', ⟨Nat.le_refl _⟩, ⟨by first | exact Kd.R_nil _ _ _ _ _ | exact Kd.N_nil _ _ _ _ _ | exact Kd.V_nil _ _ _ _ _ | exact Kd.Q_nil _ _ _ _ _ | exact Kd.S_nil _ _ _ _ _⟩, ⟨bel_⟩⟩
 case round =>
  clear H'
  (try clear c2)
  obtain ⟨x7_1, x8_1, x9_1, rfl, rfl, HA, HK1, HO_7, HB⟩ := hrel
  cases gk with
  | zero => exact absurd HA.out (by simp [impl_peaksRow.l0])
  | succ k1 =>
   have H := HA.out
   clear HA
   simp only [impl_peaksRow.l0] at H
   have HC4 := Aside0.mk H
   clear H
   go_upto_region 4 with (fail)
   go_cut [21] (fun v21 wc => ∃ (kq : Nat) (x21_3 : Bool), v21 = .bool x21_3 ∧ Aside0 (impl_peaksRow.j1 kq a0 a1 l2 x7_1 x8_1 x9_1 x21_3 = some r) ∧ Aside0 (kq ≤ k1) ∧ Aside0 (Kd.R Kd.string 9 wc w.heap.size (fun _ => True) u7 x7_1) ∧ Aside0 (Below w.heap.size w wc))
   case first =>
    have H := HC4.out
    clear HC4
    by_cases c5 : (wrap64 (x9_1 + 1)) < (l2.length : Int)
    ·rw [if_pos c5] at H
     have c5b0 := decide_eq_true c5
     clear c5
     (first | rw [c5b0] | (simp only [i64_w, i32_w]; rw [c5b0]) | skip)
     have H' := Aside0.mk H
     clear H
     go_wp2
     go_meet
     case rel => exact ⟨_, (decide (a1 ≥ x8_1)), rl_, H', ⟨by have := HK1.out; first | omega | exact Nat.le_refl _⟩, ⟨kdU_ HO_7.out⟩, ⟨bel_⟩⟩
    ·rw [if_neg c5] at H
     have c5b0 := decide_eq_false c5
     clear c5
     (first | rw [c5b0] | (simp only [i64_w, i32_w]; rw [c5b0]) | skip)
     have H' := Aside0.mk H
     clear H
     go_wp2
     go_meet
     case rel => exact ⟨_, (false), rl_, H', ⟨by have := HK1.out; first | omega | exact Nat.le_refl _⟩, ⟨kdU_ HO_7.out⟩, ⟨bel_⟩⟩
   case rest =>
    clear HC4
    (try clear c2); (try clear c5); (try clear c5b0)
    obtain ⟨kq, x21_3, rfl, HA, HJ3, HO_7, HB⟩ := hcut
    cases kq with
    | zero => exact absurd HA.out (by simp [impl_peaksRow.j1])
    | succ kj3 =>
     have H := HA.out
     clear HA
     simp only [impl_peaksRow.j1] at H
     by_cases c6 : x21_3 = true
     ·subst c6
      rw [if_pos rfl] at H
      by_cases c7 : 0 ≤ x9_1
      ·rw [if_pos c7] at H
       have c7b0 := decide_eq_true c7
       clear c7
       by_cases c8 : x9_1 < (l2.length : Int)
       ·rw [if_pos c8] at H
        have c8b0 := decide_eq_true c8
        clear c8
        obtain ⟨ji9, hji9⟩ : ∃ j_ : Int, (wrap64 (x9_1 + 1)) = j_ := ⟨_, rfl⟩
        replace H : (if 0 ≤ (ji9) then (if (ji9) ≤ (l2.length : Int) then ((impl_PeaksRoot.f kj3 (l2.drop ((ji9) : Int).toNat)).bind fun bt923 => ((impl_pairText.f kj3 ((rd_T29 l2 x9_1).f0) ((rd_T29 l2 x9_1).f1) ((rd_T29 l2 x9_1).f2) ((rd_T29 l2 x9_1).f3) bt923.1 bt923.2.1 bt923.2.2.1 bt923.2.2.2).bind fun t927 => (if x7_1.length < 8796093022208 then (impl_peaksRow.l1 kj3 a0 a1 l2 (x7_1 ++ [t927]) x8_1 x9_1 (wrap64 (a0 - x8_1)) 1) else (none)))) else (none)) else (none)) = some r := by first | (rw [hji9] at H; exact H) | (simp only [hji9] at H ⊢; exact H)
        have hji9w : (IntKind.i64.wrap (x9_1 + 1)) = ji9 := (i64_w _).trans hji9
        by_cases c10 : 0 ≤ (ji9)
        ·rw [if_pos c10] at H
         have c10b0 := eq_true c10
         have c10b1 := decide_eq_true c10
         clear c10
         by_cases c11 : (ji9) ≤ (l2.length : Int)
         ·rw [if_pos c11] at H
          have c11b0 := eq_true c11
          have c11b1 := decide_eq_true c11
          clear c11
          obtain ⟨y919, hy919⟩ : ∃ y_ : List (S29), y_ = (l2.drop ((ji9) : Int).toNat) := ⟨_, rfl⟩
          replace H : ((impl_PeaksRoot.f kj3 y919).bind fun bt923 => ((impl_pairText.f kj3 ((rd_T29 l2 x9_1).f0) ((rd_T29 l2 x9_1).f1) ((rd_T29 l2 x9_1).f2) ((rd_T29 l2 x9_1).f3) bt923.1 bt923.2.1 bt923.2.2.1 bt923.2.2.2).bind fun t927 => (if x7_1.length < 8796093022208 then (impl_peaksRow.l1 kj3 a0 a1 l2 (x7_1 ++ [t927]) x8_1 x9_1 (wrap64 (a0 - x8_1)) 1) else (none)))) = some r := rpl_ hy919 H
          have Ny919 := Aside0.mk hy919
          clear hy919
          obtain ⟨⟨t923, t924, t925, t926⟩, A12, H⟩ := bnd_ H
          dsimp only at H
          obtain ⟨t927, A13, H⟩ := bnd_ H
          by_cases c14 : x7_1.length < 8796093022208
          ·rw [if_pos c14] at H
           have LMc14 := Aside0.mk c14
           clear c14
           obtain ⟨y928, hy928⟩ : ∃ y_ : List ByteArray, y_ = (x7_1 ++ [t927]) := ⟨_, rfl⟩
           replace H : (impl_peaksRow.l1 kj3 a0 a1 l2 y928 x8_1 x9_1 (wrap64 (a0 - x8_1)) 1) = some r := rpl_ hy928 H
           have Ny928 := Aside0.mk hy928
           clear hy928
           have H' := Aside0.mk H
           clear H
           try go_wp2
           replace HO_7 := a_ (Kd.R_drew HO_7.out)
           replace HB := a_ (below_drew1 HB.out)
           have p918 : 0 ≤ (x9_1 : Int) := ofd_
           have q918 : x9_1 < (l2.length : Int) := ofd_
           obtain ⟨ad918, e918, hx918_0, hx918_1, hx918_2, hx918_3⟩ := at_T29 HR2.out x9_1 p918 q918
           have hw918_3 := hx918_3
           have hw918_2 := hx918_2
           have hw918_1 := hx918_1
           have hw918_0 := hx918_0
           cases e918
           replace hx918_0 := pc_ HB.out hx918_0
           replace hx918_1 := pc_ HB.out hx918_1
           replace hx918_2 := pc_ HB.out hx918_2
           replace hx918_3 := pc_ HB.out hx918_3
           replace p918 := eq_true p918
           replace q918 := eq_true q918
           have q16 : ((ji9) : Int) ≤ ((l2.length : Int) : Int) := ofd_
           obtain ⟨i016, hi016, _, hsz16, _⟩ := info_parts info29
           have hroom16 : l2.length ≤ c2 := HC2.out
           have hC16 : Kd.C k29 _ (some ad918) l2.length l2 := HR2.out
           have q016 : (0 : Int) ≤ ((ji9) : Int) := ofd_
           have hcut16 := cut_from (P := Try.prog) 49 29 .i64 Try.underlying49 hi016 4 hsz16 (some ad918) l2.length c2 (ji9) q016 q16
           have hr16 := Kd.C_drop (m := ((ji9) : Int).toNat) (c := c2) hC16 (by omega) hroom16
           obtain ⟨A16, hA16⟩ : ∃ A1, A1 = (if c2 = ((ji9) : Int).toNat then (some ad918) else ((some ad918) : Option Addr).map (·.add (((ji9) : Int).toNat * 4))) := ⟨_, rfl⟩
           obtain ⟨c16, hc16⟩ : ∃ c1, c1 = c2 - ((ji9) : Int).toNat := ⟨_, rfl⟩
           have hy16 : y919.length = l2.length - ((ji9) : Int).toNat := (by rw [Ny919.out, List.length_drop] <;> omega)
           rw [show (l2).drop ((ji9) : Int).toNat = y919 from Ny919.out.symm] at hr16
           replace hr16 : Kd.C k29 _ A16 y919.length y919 := (by rw [hA16]; exact hr16)
           rw [← hy16, ← hA16, ← hc16] at hcut16
           have HR922 := Aside0.mk hr16
           have HC922 := a_ (show y919.length ≤ c16 from by rw [hy16, hc16]; exact Nat.sub_le_sub_right hroom16 _)
           clear hr16 hC16 hroom16 hi016 hsz16 hc16
           have KY16 := Aside0.mk hy16
           have KA16 := Aside0.mk hA16
           clear hy16 hA16
           replace q16 := eq_true q16
           refine start_ (n := 14) (S := fun w' => w'.cell? (ad918.add ((x9_1).toNat * 4)) = some (.int .u64 ((rd_T29 l2 x9_1).f0)) ∧ w'.cell? ⟨(ad918.add ((x9_1).toNat * 4)).block, (ad918.add ((x9_1).toNat * 4)).off + 1, none⟩ = some (.int .u64 ((rd_T29 l2 x9_1).f1)) ∧ w'.cell? ⟨(ad918.add ((x9_1).toNat * 4)).block, (ad918.add ((x9_1).toNat * 4)).off + 2, none⟩ = some (.int .u64 ((rd_T29 l2 x9_1).f2)) ∧ w'.cell? ⟨(ad918.add ((x9_1).toNat * 4)).block, (ad918.add ((x9_1).toNat * 4)).off + 3, none⟩ = some (.int .u64 ((rd_T29 l2 x9_1).f3))) (ds := []) #[false, false, false, false, false, false, false, false, false, false, false, false, false, false] (by kernel_rfl) rfl rfl ⟨(pc_ HB.out hw918_0), (pc_ HB.out hw918_1), (pc_ HB.out hw918_2), (pc_ HB.out hw918_3)⟩ (fun hHeld => ?_); refine with_tabW impl_peaksRow.tab6 impl_peaksRow.bits6 (fun HT HW_ => ?_)
           generalize wc.drew = w15 at HO_7 HB HR922 hx918_0 hx918_1 hx918_2 hx918_3 hHeld ⊢
           refine pP_ 0 (some 24) (b_ 14 1) HT ?_
           refine pP_ 1 (some 25) (b_ 14 3) HT ?_
           refine pP_ 2 (some 26) (b_ 14 7) HT ?_
           refine pP_ 3 (some 27) (b_ 14 15) HT ?_
           refine pP_ 5 (some 29) (b_ 14 47) HT ?_
           refine pP_ 6 (some 30) (b_ 14 111) HT ?_
           refine pP_ 7 (some 31) (b_ 14 239) HT ?_
           refine pP_ 8 (some 32) (b_ 14 495) HT ?_
           refine takeP_ 4 (some 28) (b_ 14 511) HT HW_ hHeld ?_
           refine oneP_ 9 (some 33) (b_ 14 1023) HT (fun K hK => ?_)
           refine goN_ Try.func69 #[.slice A16 y919.length c16] ?_
           with_reducible refine (impl_PeaksRoot.calls kj3 _ _ y919 t923 t924 t925 t926 _ ?side1 ?side2 A12.out).mono ?_
           (case side1 => exact cU_ (Kd.C_below HR922.out HB.out))
           (case side2 => exact HC922.out)
           rintro e w17 ⟨rfl, hb⟩
           refine ⟨_, rfl, ?_⟩
           replace HO_7 := rb_ HO_7.out hb
           replace HB := stepB_ hb
           (try clear hb)
           refine hK.out _ _ ⟨(pc_ HB.out hw918_0), (pc_ HB.out hw918_1), (pc_ HB.out hw918_2), (pc_ HB.out hw918_3)⟩ (fun hHeld => ?_)
           clear hK K
           refine normP_ (some 33) ?_
           refine oneP_ 10 (some 34) (b_ 14 2047) HT (fun K hK => ?_)
           refine goN_ Try.func98 #[.agg #[.int .u64 ((rd_T29 l2 x9_1).f0), .int .u64 ((rd_T29 l2 x9_1).f1), .int .u64 ((rd_T29 l2 x9_1).f2), .int .u64 ((rd_T29 l2 x9_1).f3)], .agg #[.int .u64 t923, .int .u64 t924, .int .u64 t925, .int .u64 t926]] ?_
           with_reducible refine (impl_pairText.calls kj3 ((rd_T29 l2 x9_1).f0) ((rd_T29 l2 x9_1).f1) ((rd_T29 l2 x9_1).f2) ((rd_T29 l2 x9_1).f3) t923 t924 t925 t926 t927 _ A13.out).mono ?_
           rintro e w18 ⟨rfl, hb⟩
           refine ⟨_, rfl, ?_⟩
           replace HO_7 := rb_ HO_7.out hb
           replace HB := stepB_ hb
           (try clear hb)
           refine hK.out _ _ ⟨(pc_ HB.out hw918_0), (pc_ HB.out hw918_1), (pc_ HB.out hw918_2), (pc_ HB.out hw918_3)⟩ (fun hHeld => ?_)
           clear hK K
           refine normP_ (some 34) ?_
           refine oneP_ 11 (some 35) (b_ 14 4095) HT (fun K hK => ?_)
           refine value_ (w1 := ?_) (v := ?_) (by rfl) rfl ?_ ?_
           rotate_left 2
           ·go_simp
            constructor
            ·rfl
            ·rfl
           refine hK.out _ _ ⟨(World.cell?_alloc_lt _ _ _ (World.block_lt_of_cell? _ _ ((pc_ HB.out hw918_0)))).trans ((pc_ HB.out hw918_0)), (World.cell?_alloc_lt _ _ _ (World.block_lt_of_cell? _ _ ((pc_ HB.out hw918_1)))).trans ((pc_ HB.out hw918_1)), (World.cell?_alloc_lt _ _ _ (World.block_lt_of_cell? _ _ ((pc_ HB.out hw918_2)))).trans ((pc_ HB.out hw918_2)), (World.cell?_alloc_lt _ _ _ (World.block_lt_of_cell? _ _ ((pc_ HB.out hw918_3)))).trans ((pc_ HB.out hw918_3))⟩ (fun hHeld => ?_)
           clear hK K
           refine normP_ (some 35) ?_
           refine oneP_ 12 (some 36) (b_ 14 8191) HT (fun K hK => ?_)
           refine Kd.R_append_step Kd.string (w0 := w) w.heap.size (by rfl) (.tmp 24) (.tmp 35) 61 9 (.string ⟨#[]⟩) 16 rfl Try.underlying61 info9 rfl (by decide) (by omega) u7 x7_1 t927 [.string t927] (fun _ => True) (fun _ => False) rfl rfl ?aP (fun _ hk => hk.elim) ?aF ?aO ?aB ?aS ?aL ?_
           (case aP => exact rfl)
           (case aB => exact bel_)
           (case aF => exact (fun _ _ => trivial))
           (case aO => exact (kdU_ HO_7.out))
           (case aS => exact (below_size bel_))
           (case aL => have := LMc14.out; omega)
           intro v929 w19 ho hb hg hat
           rw [← Ny928.out] at ho
           replace HB := a_ (hb)
           have HO930 := a_ (ho)
           clear HO_7
           clear ho hb hg hat
           refine hK.out _ _ ⟨(pc_ HB.out hw918_0), (pc_ HB.out hw918_1), (pc_ HB.out hw918_2), (pc_ HB.out hw918_3)⟩ (fun hHeld => ?_)
           clear hK K
           refine normP_ (some 36) ?_
           refine pP_ 13 (some 7) (b_ 14 16383) HT ?_
           refine done_ (done_of HT.out (by kernel_rfl)) ?_
           try go_wp2
           go_loopg [11] kj3 (fun kq v11 w' => ∃ (x11_3 : Int), v11 = .int .i64 x11_3 ∧ Aside0 (impl_peaksRow.l1 kq a0 a1 l2 y928 x8_1 x9_1 (wrap64 (a0 - x8_1)) x11_3 = some r) ∧ Aside0 (kq ≤ kj3) ∧ Aside0 (Kd.R Kd.string 9 w' w.heap.size (fun _ => True) v929 y928) ∧ Aside0 (Below w.heap.size w w'))
           case atStart => exact ⟨(1), rl_, H', ⟨Nat.le_refl _⟩, ⟨kdU_ HO930.out⟩, ⟨bel_⟩⟩
           case round =>
            clear H'
            (try clear c1); (try clear c2); (try clear c5); (try clear c5b0); (try clear c6); (try clear c7); (try clear c7b0); (try clear c8); (try clear c8b0); (try clear c10); (try clear c10b0); (try clear c10b1); (try clear c11); (try clear c11b0); (try clear c11b1); (try clear c14); (try clear c16); (try clear q16); (try clear hx918_0); (try clear hx918_1); (try clear hx918_2); (try clear hx918_3); (try clear p918); (try clear q016); (try clear q918)
            obtain ⟨x11_3, rfl, HA, HK3, HO_7, HB⟩ := hrel
            cases gk with
            | zero => exact absurd HA.out (by simp [impl_peaksRow.l1])
            | succ k3 =>
             have H := HA.out
             clear HA
             simp only [impl_peaksRow.l1] at H
             by_cases c20 : (wrap64 (2 * x11_3)) ≤ (wrap64 (a0 - x8_1))
             ·rw [if_pos c20] at H
              have c20b0 := decide_eq_true c20
              clear c20
              have H' := Aside0.mk H
              clear H
              go_wp2
              go_roundg k3
              case measure => have := HK1.out; have := HJ3.out; have := HK3.out; omega
              case rel => exact ⟨(wrap64 (x11_3 * 2)), rl_, H', ⟨by have := HK1.out; have := HJ3.out; have := HK3.out; omega⟩, ⟨kdU_ HO_7.out⟩, ⟨bel_⟩⟩
             ·rw [if_neg c20] at H
              have c20b0 := decide_eq_false c20
              clear c20
              have H' := Aside0.mk H
              clear H
              go_wp2
              go_roundg k3
              case measure => have := HK1.out; have := HJ3.out; have := HK3.out; omega
              case rel => exact ⟨(y928), (wrap64 (x8_1 + x11_3)), (wrap64 (x9_1 + 1)), rl_, rl_, H', ⟨by have := HK1.out; have := HJ3.out; have := HK3.out; omega⟩, ⟨kdU_ HO_7.out⟩, ⟨bel_⟩⟩
          ·rw [if_neg c14] at H
           exact absurd H (by simp)
         ·rw [if_neg c11] at H
          exact absurd H (by simp)
        ·rw [if_neg c10] at H
         exact absurd H (by simp)
       ·rw [if_neg c8] at H
        exact absurd H (by simp)
      ·rw [if_neg c7] at H
       exact absurd H (by simp)
     ·replace c6 := Bool.eq_false_iff.mpr c6
      subst c6
      rw [if_neg (show ¬ (false = true) by decide)] at H
      obtain rfl := Option.some.inj H
      go_wp2
      go_ret
      exact ⟨_, rfl_, by (with_reducible repeat (first | apply Kd.R_alloc | apply Kd.R_drewN | apply Kd.R_drew)); exact HO_7.out, bel_⟩
end
section
attribute [local go_sem high] eqA29
def spec_PathCheck.f (k : Nat) (a0_0 a0_1 : Int) (a0_2 a0_3 : Int) (a0_4 a1 : Int) (a2 : ByteArray) (l3 : List (S29)) : Option (Bool) := (spec_PathRoot.f k a0_0 a1 a2 l3).bind fun bt664 => (if bt664.2.2.2.2 = true then (some (bt664.1 == a0_1 && (bt664.2.1 == a0_2 && (bt664.2.2.1 == a0_3 && (bt664.2.2.2.1 == a0_4))))) else (some false))
theorem spec_PathCheck.calls (k : Nat) (a0_0 a0_1 : Int) (a0_2 a0_3 : Int) (a0_4 a1 : Int) (a2 : ByteArray) (A3 : Option Addr) (c3 : Nat) (l3 : List (S29)) (r : Bool) (w : World) (hr3 : Kd.C k29 w A3 l3.length l3) (hc3 : l3.length ≤ c3) (h : spec_PathCheck.f k a0_0 a0_1 a0_2 a0_3 a0_4 a1 a2 l3 = some r) :
  Calls Try.prog 46 #[.agg #[.int .i64 a0_0, .int .u64 a0_1, .int .u64 a0_2, .int .u64 a0_3, .int .u64 a0_4], .int .i64 a1, .string a2, .slice A3 l3.length c3] w fun e w' => e = .returned (.bool r) ∧ Below w.heap.size w w' := by
 have hu31 := Try.underlying31
 have hu29 := Try.underlying29
 have HR3 := Aside0.mk hr3
 have HC3 := Aside0.mk hc3
 clear hr3 hc3
 have HB := a_ (Below.refl w.heap.size w)
 have H := h
 unfold spec_PathCheck.f at H
 clear h
 obtain ⟨⟨t664, t665, t666, t667, t668⟩, A5, H⟩ := bnd_ H
 dsimp only at H
 by_cases c6 : t668 = true
 ·subst c6
  rw [if_pos rfl] at H
  obtain rfl := Option.some.inj H
  go_enter Try.func46, Try.ntmps46
  go_wp2_with (first | ((with_reducible refine gate_dst (N := 4) rfl ?_); refine boxE_ (cs := #[.int .i64 a0_0, .int .u64 a0_1, .int .u64 a0_2, .int .u64 a0_3, .int .u64 a0_4]) (t := 31) ?_; intro gb663 hg w7 hbox hb; have BK663 := a_ (hbox); have GW663 := sizeB_ hg; replace HB := stepB_ hb; clear hb hbox hg; obtain ⟨z8_0, z8_1, z8_2, z8_3, z8_4, f8_0, f8_1, f8_2, f8_3, f8_4⟩ := cz5_ BK663.out) | (refine gcL_ 86 (some 17) Try.func86 #[.int .i64 a0_0, .int .i64 a1, .string a2, .slice A3 l3.length c3] ?_; (with_reducible refine (spec_PathRoot.calls k a0_0 a1 a2 _ _ l3 t664 t665 t666 t667 true _ ?side1 ?side2 A5.out).mono ?_); (case side1 => exact cU_ (Kd.C_below HR3.out HB.out)); (case side2 => exact HC3.out); rintro e w9 ⟨rfl, hb⟩; refine ⟨_, rfl, ?_⟩; replace BK663 := bb_ BK663.out hb; replace HB := stepB_ hb; (try clear hb)) | ((with_reducible refine gate_dst (N := 9) rfl ?_); refine boxE_ (cs := #[.int .u64 0, .int .u64 0, .int .u64 0, .int .u64 0]) (t := 29) ?_; intro gb669 hg w10 hbox hb; have BK669 := a_ (hbox); have GW669 := sizeB_ hg; replace HB := stepB_ hb; obtain ⟨NB663_669, NB669_663⟩ := ne2_ BK663.out hg; replace BK663 := bb_ BK663.out hb; clear hb hbox hg; have hnb11 := NB669_663.out; have hnc11 := NB663_669.out; obtain ⟨z12_0, z12_1, z12_2, z12_3, f12_0, f12_1, f12_2, f12_3⟩ := cz4_ BK669.out; obtain ⟨z13_0, z13_1, z13_2, z13_3, z13_4, f13_0, f13_1, f13_2, f13_3, f13_4⟩ := cz5_ BK663.out))
  go_ret
  exact ⟨rfl_, bel_⟩
 ·replace c6 := Bool.eq_false_iff.mpr c6
  subst c6
  rw [if_neg (show ¬ (false = true) by decide)] at H
  obtain rfl := Option.some.inj H
  go_enter Try.func46, Try.ntmps46
  go_wp2_with (first | ((with_reducible refine gate_dst (N := 4) rfl ?_); refine boxE_ (cs := #[.int .i64 a0_0, .int .u64 a0_1, .int .u64 a0_2, .int .u64 a0_3, .int .u64 a0_4]) (t := 31) ?_; intro gb663 hg w14 hbox hb; have BK663 := a_ (hbox); have GW663 := sizeB_ hg; replace HB := stepB_ hb; clear hb hbox hg; obtain ⟨z15_0, z15_1, z15_2, z15_3, z15_4, f15_0, f15_1, f15_2, f15_3, f15_4⟩ := cz5_ BK663.out) | (refine gcL_ 86 (some 17) Try.func86 #[.int .i64 a0_0, .int .i64 a1, .string a2, .slice A3 l3.length c3] ?_; (with_reducible refine (spec_PathRoot.calls k a0_0 a1 a2 _ _ l3 t664 t665 t666 t667 false _ ?side1 ?side2 A5.out).mono ?_); (case side1 => exact cU_ (Kd.C_below HR3.out HB.out)); (case side2 => exact HC3.out); rintro e w16 ⟨rfl, hb⟩; refine ⟨_, rfl, ?_⟩; replace BK663 := bb_ BK663.out hb; replace HB := stepB_ hb; (try clear hb)) | ((with_reducible refine gate_dst (N := 9) rfl ?_); refine boxE_ (cs := #[.int .u64 0, .int .u64 0, .int .u64 0, .int .u64 0]) (t := 29) ?_; intro gb669 hg w17 hbox hb; have BK669 := a_ (hbox); have GW669 := sizeB_ hg; replace HB := stepB_ hb; obtain ⟨NB663_669, NB669_663⟩ := ne2_ BK663.out hg; replace BK663 := bb_ BK663.out hb; clear hb hbox hg; have hnb18 := NB669_663.out; have hnc18 := NB663_669.out; obtain ⟨z19_0, z19_1, z19_2, z19_3, f19_0, f19_1, f19_2, f19_3⟩ := cz4_ BK669.out))
  go_ret
  exact ⟨rfl_, bel_⟩
end
section
attribute [local go_sem high] eqA29
def impl_PathCheck.f (k : Nat) (a0_0 a0_1 : Int) (a0_2 a0_3 : Int) (a0_4 a1 : Int) (a2 : ByteArray) (l3 : List (S29)) : Option (Bool) := (impl_PathRoot.f k a0_0 a1 a2 l3).bind fun bt890 => (if bt890.2.2.2.2 = true then (some (bt890.1 == a0_1 && (bt890.2.1 == a0_2 && (bt890.2.2.1 == a0_3 && (bt890.2.2.2.1 == a0_4))))) else (some false))
theorem impl_PathCheck.calls (k : Nat) (a0_0 a0_1 : Int) (a0_2 a0_3 : Int) (a0_4 a1 : Int) (a2 : ByteArray) (A3 : Option Addr) (c3 : Nat) (l3 : List (S29)) (r : Bool) (w : World) (hr3 : Kd.C k29 w A3 l3.length l3) (hc3 : l3.length ≤ c3) (h : impl_PathCheck.f k a0_0 a0_1 a0_2 a0_3 a0_4 a1 a2 l3 = some r) :
  Calls Try.prog 51 #[.agg #[.int .i64 a0_0, .int .u64 a0_1, .int .u64 a0_2, .int .u64 a0_3, .int .u64 a0_4], .int .i64 a1, .string a2, .slice A3 l3.length c3] w fun e w' => e = .returned (.bool r) ∧ Below w.heap.size w w' := by
 have hu31 := Try.underlying31
 have hu29 := Try.underlying29
 have HR3 := Aside0.mk hr3
 have HC3 := Aside0.mk hc3
 clear hr3 hc3
 have HB := a_ (Below.refl w.heap.size w)
 have H := h
 unfold impl_PathCheck.f at H
 clear h
 obtain ⟨⟨t890, t891, t892, t893, t894⟩, A5, H⟩ := bnd_ H
 dsimp only at H
 by_cases c6 : t894 = true
 ·subst c6
  rw [if_pos rfl] at H
  obtain rfl := Option.some.inj H
  go_enter Try.func51, Try.ntmps51
  go_wp2_with (first | ((with_reducible refine gate_dst (N := 4) rfl ?_); refine boxE_ (cs := #[.int .i64 a0_0, .int .u64 a0_1, .int .u64 a0_2, .int .u64 a0_3, .int .u64 a0_4]) (t := 31) ?_; intro gb889 hg w7 hbox hb; have BK889 := a_ (hbox); have GW889 := sizeB_ hg; replace HB := stepB_ hb; clear hb hbox hg; obtain ⟨z8_0, z8_1, z8_2, z8_3, z8_4, f8_0, f8_1, f8_2, f8_3, f8_4⟩ := cz5_ BK889.out) | (refine gcL_ 95 (some 17) Try.func95 #[.int .i64 a0_0, .int .i64 a1, .string a2, .slice A3 l3.length c3] ?_; (with_reducible refine (impl_PathRoot.calls k a0_0 a1 a2 _ _ l3 t890 t891 t892 t893 true _ ?side1 ?side2 A5.out).mono ?_); (case side1 => exact cU_ (Kd.C_below HR3.out HB.out)); (case side2 => exact HC3.out); rintro e w9 ⟨rfl, hb⟩; refine ⟨_, rfl, ?_⟩; replace BK889 := bb_ BK889.out hb; replace HB := stepB_ hb; (try clear hb)) | ((with_reducible refine gate_dst (N := 9) rfl ?_); refine boxE_ (cs := #[.int .u64 0, .int .u64 0, .int .u64 0, .int .u64 0]) (t := 29) ?_; intro gb895 hg w10 hbox hb; have BK895 := a_ (hbox); have GW895 := sizeB_ hg; replace HB := stepB_ hb; obtain ⟨NB889_895, NB895_889⟩ := ne2_ BK889.out hg; replace BK889 := bb_ BK889.out hb; clear hb hbox hg; have hnb11 := NB895_889.out; have hnc11 := NB889_895.out; obtain ⟨z12_0, z12_1, z12_2, z12_3, f12_0, f12_1, f12_2, f12_3⟩ := cz4_ BK895.out; obtain ⟨z13_0, z13_1, z13_2, z13_3, z13_4, f13_0, f13_1, f13_2, f13_3, f13_4⟩ := cz5_ BK889.out))
  go_ret
  exact ⟨rfl_, bel_⟩
 ·replace c6 := Bool.eq_false_iff.mpr c6
  subst c6
  rw [if_neg (show ¬ (false = true) by decide)] at H
  obtain rfl := Option.some.inj H
  go_enter Try.func51, Try.ntmps51
  go_wp2_with (first | ((with_reducible refine gate_dst (N := 4) rfl ?_); refine boxE_ (cs := #[.int .i64 a0_0, .int .u64 a0_1, .int .u64 a0_2, .int .u64 a0_3, .int .u64 a0_4]) (t := 31) ?_; intro gb889 hg w14 hbox hb; have BK889 := a_ (hbox); have GW889 := sizeB_ hg; replace HB := stepB_ hb; clear hb hbox hg; obtain ⟨z15_0, z15_1, z15_2, z15_3, z15_4, f15_0, f15_1, f15_2, f15_3, f15_4⟩ := cz5_ BK889.out) | (refine gcL_ 95 (some 17) Try.func95 #[.int .i64 a0_0, .int .i64 a1, .string a2, .slice A3 l3.length c3] ?_; (with_reducible refine (impl_PathRoot.calls k a0_0 a1 a2 _ _ l3 t890 t891 t892 t893 false _ ?side1 ?side2 A5.out).mono ?_); (case side1 => exact cU_ (Kd.C_below HR3.out HB.out)); (case side2 => exact HC3.out); rintro e w16 ⟨rfl, hb⟩; refine ⟨_, rfl, ?_⟩; replace BK889 := bb_ BK889.out hb; replace HB := stepB_ hb; (try clear hb)) | ((with_reducible refine gate_dst (N := 9) rfl ?_); refine boxE_ (cs := #[.int .u64 0, .int .u64 0, .int .u64 0, .int .u64 0]) (t := 29) ?_; intro gb895 hg w17 hbox hb; have BK895 := a_ (hbox); have GW895 := sizeB_ hg; replace HB := stepB_ hb; obtain ⟨NB889_895, NB895_889⟩ := ne2_ BK889.out hg; replace BK889 := bb_ BK889.out hb; clear hb hbox hg; have hnb18 := NB895_889.out; have hnc18 := NB889_895.out; obtain ⟨z19_0, z19_1, z19_2, z19_3, f19_0, f19_1, f19_2, f19_3⟩ := cz4_ BK895.out))
  go_ret
  exact ⟨rfl_, bel_⟩
end
section
def spec_l3Depth.l0 : Nat → Int → Int → Option (Int)
 | 0, _, _ => none
 | k + 1, x0, x3 => if x0 > 1 then (spec_l3Depth.l0 k (wrap64 (Int.tdiv x0 2)) (wrap64 (x3 + 1))) else (some x3)
def spec_l3Depth.f (k : Nat) (a0 : Int) : Option (Int) := spec_l3Depth.l0 k a0 0
theorem spec_l3Depth.calls (k : Nat) (a0 r : Int) (w : World) (h : spec_l3Depth.f k a0 = some r) :
  Calls Try.prog 84 #[.int .i64 a0] w fun e w' => e = .returned (.int .i64 r) ∧ Drawn0 w w' := by
 have H := h
 unfold spec_l3Depth.f at H
 clear h
 have H' := Aside0.mk H
 clear H
 go_enter Try.func84, Try.ntmps84
 go_wp2
 go_loopg [0, 3] k (fun kq v0 v3 w' => ∃ (x0_1 x3_1 : Int), v0 = .int .i64 x0_1 ∧ v3 = .int .i64 x3_1 ∧ Aside0 (spec_l3Depth.l0 kq x0_1 x3_1 = some r) ∧ Aside0 (kq ≤ k) ∧ Drawn0 w w')
 case atStart => exact ⟨(a0), (0), rl_, rl_, H', ⟨Nat.le_refl _⟩, by repeat (first | exact Drawn0.refl _ | apply Drawn0.step)⟩
 case round =>
  clear H'
  obtain ⟨x0_1, x3_1, rfl, rfl, HA, HK1, ⟨m1, rfl⟩⟩ := hrel
  cases gk with
  | zero => exact absurd HA.out (by simp [spec_l3Depth.l0])
  | succ k1 =>
   have H := HA.out
   clear HA
   simp only [spec_l3Depth.l0] at H
   by_cases c2 : x0_1 > 1
   ·rw [if_pos c2] at H
    have c2b0 : decide (1 < x0_1) = true := decide_eq_true c2
    clear c2
    have H' := Aside0.mk H
    clear H
    go_wp2
    go_roundg k1
    case measure => have := HK1.out; omega
    case rel => exact ⟨(wrap64 (Int.tdiv x0_1 2)), (wrap64 (x3_1 + 1)), rl_, rl_, H', ⟨by have := HK1.out; omega⟩, by repeat (first | exact Drawn0.refl _ | apply Drawn0.step)⟩
   ·rw [if_neg c2] at H
    have c2b0 : decide (1 < x0_1) = false := decide_eq_false c2
    clear c2
    obtain rfl := Option.some.inj H
    go_wp2
    go_ret
    exact ⟨rl_, dr_⟩
end
end
end Go.Proofs.Ytflckegggopdnaa.B
