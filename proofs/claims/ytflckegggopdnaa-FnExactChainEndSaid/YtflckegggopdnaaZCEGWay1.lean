/- What the Go functions (loop.example/belfry/impl.node).halves, loop.example/belfry/spec.l3Place, loop.example/belfry/spec.PathLen, loop.example/belfry/impl.way, loop.example/belfry/impl.PathLen do is what the Lean functions .f of their names here say; condition: .f gives an answer. (Written by the session's program pp.py over the kit's print; Lean checks it.) -/
import Derived.Test.YtflckegggopdnaaZCEK
import Derived.Test.YtflckegggopdnaaZCEM
import Derived.Test.YtflckegggopdnaaZCEGSplit1
namespace Go.Proofs.Ytflckegggopdnaa.B
open Go.RowKit Go.Proofs.YtflckegggopdnaaW.PrintWords Go.Proofs.YtflckegggopdnaaW.PrintLast Go.Proofs.YtflckegggopdnaaW.PrintMore
attribute [local go_sem] max2_int min2_int max_two min_two max_three min_three max_four min_four
set_option linter.unusedVariables false
set_option linter.unusedSimpArgs false
section
def impl_node_halves.f (k : Nat) (a0_0 : Int) (a0_1 : Int) : Option (Int × Int × Int × Int) := (impl_TreeSplit.f k (wrap64 (a0_1 - a0_0))).bind fun t282 => (some (a0_0, wrap64 (a0_0 + t282), wrap64 (a0_0 + t282), a0_1))
def impl_node_halves.T1 : Bool × List (List Nat × List Nat) := (true, [([], []), ([0], [0]), ([], []), ([2], [2]), ([], []), ([4], [4]), ([3, 5], [3, 5]), ([6], [6]), ([1, 7], [1, 7]), ([8, 7, 0, 1, 2, 3, 4, 5, 6, 7, 8], [8])])
def impl_node_halves.B1 : List Nat := [0, 1, 0, 4, 0, 16, 60, 124, 255, 511]
theorem impl_node_halves.tab1 : rtab .any (opsOf Try.f77 1) = impl_node_halves.T1 := by kernel_rfl
theorem impl_node_halves.bits1 : waitsOk impl_node_halves.T1.2 impl_node_halves.B1 = true := by kernel_rfl
def impl_node_halves.T2 : Bool × List (List Nat × List Nat) := (true, [([], []), ([0], [0]), ([], []), ([1, 2], [1, 2]), ([], []), ([], []), ([5], [5]), ([4, 6], [4, 6]), ([3, 0, 1, 2, 3], [3]), ([7, 8, 0, 1, 2, 3, 4, 5, 6, 7, 8], [7])])
def impl_node_halves.B2 : List Nat := [0, 1, 0, 7, 0, 0, 32, 112, 15, 511]
theorem impl_node_halves.tab2 : rtab .any (opsOf Try.f77 2) = impl_node_halves.T2 := by kernel_rfl
theorem impl_node_halves.bits2 : waitsOk impl_node_halves.T2.2 impl_node_halves.B2 = true := by kernel_rfl
set_option maxHeartbeats 8000000 in
set_option maxRecDepth 100000 in
theorem impl_node_halves.calls (k : Nat) (a0_0 : Int) (a0_1 : Int) (r1 : Int) (r2 : Int) (r3 : Int) (r4 : Int) (w : World) (h : impl_node_halves.f k a0_0 a0_1 = some (r1, r2, r3, r4)) :
    Calls Try.prog 77 #[.agg #[.int .i64 a0_0, .int .i64 a0_1]] w fun e w' => e = .returned (.tuple #[.agg #[.int .i64 r1, .int .i64 r2], .agg #[.int .i64 r3, .int .i64 r4]]) ∧ Below w.heap.size w w' := by
  have hu100 := Try.underlying100
  have HB := Aside0.mk (Below.refl w.heap.size w)
  have H : ((impl_TreeSplit.f k (wrap64 (a0_1 - a0_0))).bind fun t282 => (some (a0_0, wrap64 (a0_0 + t282), wrap64 (a0_0 + t282), a0_1))) = some (r1, r2, r3, r4) := h
  clear h
  obtain ⟨t282, A2, H⟩ := bnd_ H
  simp only [Option.some.injEq, Prod.mk.injEq] at H
  obtain ⟨rfl, rfl, rfl, rfl⟩ := H
  go_enter Try.func77, Try.ntmps77
  try go_wp2_with (first | ((with_reducible refine gate_dst (N := 1) rfl ?_); refine boxE_ (cs := #[.int .i64 a0_0, .int .i64 a0_1]) (t := 100) ?_; intro gb279 hg w3 hbox hb; have BK279 := Aside0.mk (hbox); have GW279 := sizeB_ hg; have GE279 := sizeB_ hg; replace HB := stepB_ hb; clear hb hbox hg) | ((with_reducible refine gate_dst (N := 2) rfl ?_); refine boxE_ (cs := #[.int .i64 0, .int .i64 0]) (t := 100) ?_; intro gb280 hg w4 hbox hb; have BK280 := Aside0.mk (hbox); have GW280 := sizeB_ hg; have GE280 := sizeB_ hg; replace HB := stepB_ hb; have NB279_280 := neL_ BK279.out hg; have NB280_279 := neG_ BK279.out hg; replace BK279 := blkBel_ BK279.out hb; clear hb hbox hg) | ((with_reducible refine gate_dst (N := 3) rfl ?_); refine boxE_ (cs := #[.int .i64 0, .int .i64 0]) (t := 100) ?_; intro gb281 hg w5 hbox hb; have BK281 := Aside0.mk (hbox); have GW281 := sizeB_ hg; have GE281 := sizeB_ hg; replace HB := stepB_ hb; have NB279_281 := neL_ BK279.out hg; have NB281_279 := neG_ BK279.out hg; replace BK279 := blkBel_ BK279.out hb; have NB280_281 := neL_ BK280.out hg; have NB281_280 := neG_ BK280.out hg; replace BK280 := blkBel_ BK280.out hb; clear hb hbox hg))
  replace BK279 := Aside0.mk (blk_drew BK279.out)
  replace BK280 := Aside0.mk (blk_drew BK280.out)
  replace BK281 := Aside0.mk (blk_drew BK281.out)
  replace HB := Aside0.mk (below_drew1 HB.out)
  refine start_ (n := 10) (S := fun w' => w'.cell? ⟨gb279, 0, none⟩ = some (.int .i64 a0_0) ∧ w'.cell? ⟨gb279, 1, none⟩ = some (.int .i64 a0_1)) (ds := []) #[false, false, false, false, false, false, false, false, false, false] (by kernel_rfl) rfl rfl ⟨(blk_cell BK279.out 0).trans rfl, (blk_cell BK279.out 1).trans rfl⟩ (fun hHeld => ?_); refine with_tabW impl_node_halves.tab1 impl_node_halves.bits1 (fun HT_ HW_ => ?_)
  generalize w5.drew = w6 at BK279 BK280 BK281 HB hHeld ⊢
  refine pureP_ 0 (some 5) #[true, false, false, false, false, false, false, false, false, false] HT_ ?_
  refine pureP_ 2 (some 7) #[true, false, true, false, false, false, false, false, false, false] HT_ ?_
  refine pureP_ 4 (some 9) #[true, false, true, false, true, false, false, false, false, false] HT_ ?_
  refine takeP_ 1 (some 6) #[true, true, true, false, true, false, false, false, false, false] HT_ HW_ hHeld ?_
  refine takeP_ 3 (some 8) #[true, true, true, true, true, false, false, false, false, false] HT_ HW_ hHeld ?_
  refine takeP_ 5 (some 10) #[true, true, true, true, true, true, false, false, false, false] HT_ HW_ hHeld ?_
  refine pureP_ 6 (some 11) #[true, true, true, true, true, true, true, false, false, false] HT_ ?_
  refine oneP_ 7 (some 12) #[true, true, true, true, true, true, true, true, false, false] HT_ (fun K hK => ?_)
  refine goN_ Try.func109 #[.int .i64 (wrap64 (a0_1 - a0_0))] ?_
  with_reducible refine (impl_TreeSplit.calls k (wrap64 (a0_1 - a0_0)) t282 _ A2.out).mono ?_
  rintro e w' ⟨rfl, ⟨nd, rfl⟩⟩
  refine ⟨_, rfl, ?_⟩
  refine hK.out _ _ ⟨(blk_cell BK279.out 0).trans rfl, (blk_cell BK279.out 1).trans rfl⟩ (fun hHeld => ?_)
  clear hK K
  refine norm_ (a' := ?_) ?_ ?_
  rotate_left
  · show Act.put _ (some 12) _ = _
    simp only [Act.put, List.setIfInBounds_toArray, List.set_cons_zero, List.set_cons_succ, i64_w, i32_w]
    rfl
  refine pureP_ 8 (some 13) #[true, true, true, true, true, true, true, true, true, false] HT_ ?_
  refine pureP_ 9 (some 4) #[true, true, true, true, true, true, true, true, true, true] HT_ ?_
  refine done_ (done_of HT_.out (by kernel_rfl)) ?_
  try go_wp2
  (try (rw [drewN_self w6]; generalize hq_ : World.drewN w6 _ = w6; have n0_ : Aside0 (w6.heap[gb279]? = some (.cells #[.int .i64 a0_0, .int .i64 a0_1] 100 (0, 0))) := ⟨by rw [← hq_]; exact (blkU_ BK279.out)⟩; have n1_ : Aside0 (w6.heap[gb280]? = some (.cells #[.int .i64 0, .int .i64 0] 100 (0, 0))) := ⟨by rw [← hq_]; exact (blkU_ BK280.out)⟩; have n2_ : Aside0 (w6.heap[gb281]? = some (.cells #[.int .i64 0, .int .i64 0] 100 (0, 0))) := ⟨by rw [← hq_]; exact (blkU_ BK281.out)⟩; have n3_ : Aside0 (Below w.heap.size w w6) := ⟨by rw [← hq_]; exact bel_⟩; clear BK279 BK280 BK281 HB hq_; have BK279 := n0_; have BK280 := n1_; have BK281 := n2_; have HB := n3_; clear n0_ n1_ n2_ n3_))
  replace BK279 := Aside0.mk (blk_drew BK279.out)
  replace BK280 := Aside0.mk (blk_drew BK280.out)
  replace BK281 := Aside0.mk (blk_drew BK281.out)
  replace HB := Aside0.mk (below_drew1 HB.out)
  refine start_ (n := 10) (S := fun w' => w'.cell? ⟨gb279, 0, none⟩ = some (.int .i64 a0_0) ∧ w'.cell? ⟨gb279, 1, none⟩ = some (.int .i64 a0_1)) (ds := []) #[false, false, false, false, false, false, false, false, false, false] (by kernel_rfl) rfl rfl ⟨(blk_cell BK279.out 0).trans rfl, (blk_cell BK279.out 1).trans rfl⟩ (fun hHeld => ?_); refine with_tabW impl_node_halves.tab2 impl_node_halves.bits2 (fun HT_ HW_ => ?_)
  generalize w6.drew = w7 at BK279 BK280 BK281 HB hHeld ⊢
  refine pureP_ 0 (some 14) #[true, false, false, false, false, false, false, false, false, false] HT_ ?_
  refine pureP_ 2 (some 16) #[true, false, true, false, false, false, false, false, false, false] HT_ ?_
  refine pureP_ 4 (some 18) #[true, false, true, false, true, false, false, false, false, false] HT_ ?_
  refine pureP_ 5 (some 19) #[true, false, true, false, true, true, false, false, false, false] HT_ ?_
  refine takeP_ 1 (some 15) #[true, true, true, false, true, true, false, false, false, false] HT_ HW_ hHeld ?_
  refine pureP_ 3 (some 17) #[true, true, true, true, true, true, false, false, false, false] HT_ ?_
  refine takeP_ 6 (some 20) #[true, true, true, true, true, true, true, false, false, false] HT_ HW_ hHeld ?_
  refine pureP_ 7 (some 21) #[true, true, true, true, true, true, true, true, false, false] HT_ ?_
  refine oneP_ 8 none #[true, true, true, true, true, true, true, true, true, false] HT_ (fun K hK => ?_)
  have hs8 : w7.cell? ⟨gb280, 0, none⟩ = some (.int .i64 0) := (blk_cell BK280.out 0).trans rfl
  have hfs8 := blk_frozen BK280.out 0
  have hns8_0 := NB279_280.out
  have hns8_2 := NB281_280.out
  have hms8_0 := NB280_279.out
  have hms8_2 := NB280_281.out
  have hs9 : w7.cell? ⟨gb280, 1, none⟩ = some (.int .i64 0) := (blk_cell BK280.out 1).trans rfl
  have hfs9 := blk_frozen BK280.out 1
  have hns9_0 := NB279_280.out
  have hns9_2 := NB281_280.out
  have hms9_0 := NB280_279.out
  have hms9_2 := NB280_281.out
  refine skip_ (w1 := ?_) (by rfl) rfl ?_ ?_
  rotate_left
  · go_simp
    rfl
  refine hK.out _ _ ⟨((cell_far (p := ⟨gb280, _, none⟩) NB279_280.out _).trans (((cell_far (p := ⟨gb280, _, none⟩) NB279_280.out _).trans (hHeld.1)))), ((cell_far (p := ⟨gb280, _, none⟩) NB279_280.out _).trans (((cell_far (p := ⟨gb280, _, none⟩) NB279_280.out _).trans (hHeld.2))))⟩ (fun hHeld => ?_)
  clear hK K
  refine oneP_ 9 none #[true, true, true, true, true, true, true, true, true, true] HT_ (fun K hK => ?_)
  have hs10 : w7.cell? ⟨gb281, 0, none⟩ = some (.int .i64 0) := (blk_cell BK281.out 0).trans rfl
  have hfs10 := blk_frozen BK281.out 0
  have hns10_0 := NB279_281.out
  have hns10_1 := NB280_281.out
  have hms10_0 := NB281_279.out
  have hms10_1 := NB281_280.out
  have hs11 : w7.cell? ⟨gb281, 1, none⟩ = some (.int .i64 0) := (blk_cell BK281.out 1).trans rfl
  have hfs11 := blk_frozen BK281.out 1
  have hns11_0 := NB279_281.out
  have hns11_1 := NB280_281.out
  have hms11_0 := NB281_279.out
  have hms11_1 := NB281_280.out
  refine skip_ (w1 := ?_) (by rfl) rfl ?_ ?_
  rotate_left
  · go_simp
    rfl
  refine hK.out _ _ ⟨((cell_far (p := ⟨gb281, _, none⟩) NB279_281.out _).trans (((cell_far (p := ⟨gb281, _, none⟩) NB279_281.out _).trans (hHeld.1)))), ((cell_far (p := ⟨gb281, _, none⟩) NB279_281.out _).trans (((cell_far (p := ⟨gb281, _, none⟩) NB279_281.out _).trans (hHeld.2))))⟩ (fun hHeld => ?_)
  clear hK K
  refine done_ (done_of HT_.out (by kernel_rfl)) ?_
  try go_wp2
  refine bodyPost_ret (results_cc rfl _ _ gb280 gb281 100 100 #[.int .i64 a0_0, .int .i64 (wrap64 (a0_0 + t282))] #[.int .i64 (wrap64 (a0_0 + t282)), .int .i64 a0_1] (0, 0) (0, 0) _ _ rfl (blkF_ BK280.out) Try.underlying100 rfl (by kernel_rfl) rfl (blkF_ BK281.out) Try.underlying100 rfl (by kernel_rfl)) rfl ?_
  exact ⟨rfl_, bel_⟩
end
end Go.Proofs.Ytflckegggopdnaa.B
