/- What the Go functions (loop.example/belfry/impl.node).halves, loop.example/belfry/spec.l3Place, loop.example/belfry/spec.PathLen, loop.example/belfry/impl.way, loop.example/belfry/impl.PathLen do is what the Lean functions .f of their names here say; condition: .f gives an answer. (Written by the session's program pp.py over the kit's print; Lean checks it.) -/
import Derived.Test.YtemfciflhbhobaaK
import Derived.Test.YtemfciflhbhobaaM
import Derived.Test.YtemfciflhbhobaaGSplit1
namespace Go.Proofs.Ytemfciflhbhobaa.B
open Go.RowKit Go.Proofs.YtemfciflhbhobaaW.PrintWords Go.Proofs.YtemfciflhbhobaaW.PrintLast Go.Proofs.YtemfciflhbhobaaW.PrintMore
attribute [local go_sem] max2_int min2_int max_two min_two max_three min_three max_four min_four   -- for this text's walks alone
set_option linter.unusedVariables false
set_option linter.unusedSimpArgs false

section
/-! ### impl_node_halves: function 118 -/
def impl_node_halves.f (k : Nat) (a0_0 : Int) (a0_1 : Int) : Option (Int × Int × Int × Int) := (impl_TreeSplit.f k (wrap64 (a0_1 - a0_0))).bind fun t377 => (some (a0_0, wrap64 (a0_0 + t377), wrap64 (a0_0 + t377), a0_1))
theorem impl_node_halves.mono : ∀ a0 a1 k, LeO (impl_node_halves.f k a0 a1) (impl_node_halves.f (k + 1) a0 a1) := by
  intro a0 a1 k
  unfold impl_node_halves.f
  repeat' first | (with_reducible first | exact impl_TreeSplit.mono _ _ | exact LeO.refl _ | exact LeO.none _ | refine LeO.ite ?_ ?_ | refine LeO.bind ?_ (fun _ => ?_)) | exact LeO.none _ | refine LeO.ite ?_ ?_ | refine LeO.bind ?_ (fun _ => ?_)
def impl_node_halves.T1 : Bool × List (List Nat × List Nat) := (true, [([], []), ([0], [0]), ([], []), ([2], [2]), ([], []), ([4], [4]), ([3, 5], [3, 5]), ([6], [6]), ([1, 7], [1, 7]), ([8, 7, 0, 1, 2, 3, 4, 5, 6, 7, 8], [8])])
def impl_node_halves.B1 : List Nat := [0, 1, 0, 4, 0, 16, 60, 124, 255, 511]
theorem impl_node_halves.tab1 : rtab .any (opsOf Try.f118 1) = impl_node_halves.T1 := by kernel_rfl
theorem impl_node_halves.bits1 : waitsOk impl_node_halves.T1.2 impl_node_halves.B1 = true := by kernel_rfl
def impl_node_halves.T2 : Bool × List (List Nat × List Nat) := (true, [([], []), ([0], [0]), ([], []), ([1, 2], [1, 2]), ([], []), ([], []), ([5], [5]), ([4, 6], [4, 6]), ([3, 0, 1, 2, 3], [3]), ([7, 8, 0, 1, 2, 3, 4, 5, 6, 7, 8], [7])])
def impl_node_halves.B2 : List Nat := [0, 1, 0, 7, 0, 0, 32, 112, 15, 511]
theorem impl_node_halves.tab2 : rtab .any (opsOf Try.f118 2) = impl_node_halves.T2 := by kernel_rfl
theorem impl_node_halves.bits2 : waitsOk impl_node_halves.T2.2 impl_node_halves.B2 = true := by kernel_rfl
set_option maxHeartbeats 8000000 in
set_option maxRecDepth 100000 in
theorem impl_node_halves.calls (k : Nat) (a0_0 : Int) (a0_1 : Int) (r1 : Int) (r2 : Int) (r3 : Int) (r4 : Int) (w : World) (h : impl_node_halves.f k a0_0 a0_1 = some (r1, r2, r3, r4)) :
    Calls Try.prog 118 #[.agg #[.int .i64 a0_0, .int .i64 a0_1]] w fun e w' => e = .returned (.tuple #[.agg #[.int .i64 r1, .int .i64 r2], .agg #[.int .i64 r3, .int .i64 r4]]) ∧ Below w.heap.size w w' := by
  have hu120 := Try.underlying120
  have HB := Aside0.mk (Below.refl w.heap.size w)
  have H : ((impl_TreeSplit.f k (wrap64 (a0_1 - a0_0))).bind fun t377 => (some (a0_0, wrap64 (a0_0 + t377), wrap64 (a0_0 + t377), a0_1))) = some (r1, r2, r3, r4) := h
  clear h
  obtain ⟨t377, A2, H⟩ := bnd_ H
  simp only [Option.some.injEq, Prod.mk.injEq] at H
  obtain ⟨rfl, rfl, rfl, rfl⟩ := H
  go_enter Try.func118, Try.ntmps118
  try go_wp2_with (first | ((with_reducible refine gate_dst (N := 1) rfl ?_); refine boxE_ (cs := #[.int .i64 a0_0, .int .i64 a0_1]) (t := 120) ?_; intro gb374 hg w3 hbox hb; have BK374 := Aside0.mk (hbox); have GW374 := sizeB_ hg; have GE374 := sizeB_ hg; replace HB := stepB_ hb; clear hb hbox hg) | ((with_reducible refine gate_dst (N := 2) rfl ?_); refine boxE_ (cs := #[.int .i64 0, .int .i64 0]) (t := 120) ?_; intro gb375 hg w4 hbox hb; have BK375 := Aside0.mk (hbox); have GW375 := sizeB_ hg; have GE375 := sizeB_ hg; replace HB := stepB_ hb; have NB374_375 := neL_ BK374.out hg; have NB375_374 := neG_ BK374.out hg; replace BK374 := blkBel_ BK374.out hb; clear hb hbox hg) | ((with_reducible refine gate_dst (N := 3) rfl ?_); refine boxE_ (cs := #[.int .i64 0, .int .i64 0]) (t := 120) ?_; intro gb376 hg w5 hbox hb; have BK376 := Aside0.mk (hbox); have GW376 := sizeB_ hg; have GE376 := sizeB_ hg; replace HB := stepB_ hb; have NB374_376 := neL_ BK374.out hg; have NB376_374 := neG_ BK374.out hg; replace BK374 := blkBel_ BK374.out hb; have NB375_376 := neL_ BK375.out hg; have NB376_375 := neG_ BK375.out hg; replace BK375 := blkBel_ BK375.out hb; clear hb hbox hg))
  replace BK374 := Aside0.mk (blk_drew BK374.out)
  replace BK375 := Aside0.mk (blk_drew BK375.out)
  replace BK376 := Aside0.mk (blk_drew BK376.out)
  replace HB := Aside0.mk (below_drew1 HB.out)
  refine start_ (n := 10) (S := fun w' => w'.cell? ⟨gb374, 0, none⟩ = some (.int .i64 a0_0) ∧ w'.cell? ⟨gb374, 1, none⟩ = some (.int .i64 a0_1)) (ds := []) #[false, false, false, false, false, false, false, false, false, false] (by kernel_rfl) rfl rfl ⟨(blk_cell BK374.out 0).trans rfl, (blk_cell BK374.out 1).trans rfl⟩ (fun hHeld => ?_); refine with_tabW impl_node_halves.tab1 impl_node_halves.bits1 (fun HT_ HW_ => ?_)
  generalize w5.drew = w6 at BK374 BK375 BK376 HB hHeld ⊢
  refine pureP_ 0 (some 5) #[true, false, false, false, false, false, false, false, false, false] HT_ ?_
  refine pureP_ 2 (some 7) #[true, false, true, false, false, false, false, false, false, false] HT_ ?_
  refine pureP_ 4 (some 9) #[true, false, true, false, true, false, false, false, false, false] HT_ ?_
  refine takeP_ 1 (some 6) #[true, true, true, false, true, false, false, false, false, false] HT_ HW_ hHeld ?_
  refine takeP_ 3 (some 8) #[true, true, true, true, true, false, false, false, false, false] HT_ HW_ hHeld ?_
  refine takeP_ 5 (some 10) #[true, true, true, true, true, true, false, false, false, false] HT_ HW_ hHeld ?_
  refine pureP_ 6 (some 11) #[true, true, true, true, true, true, true, false, false, false] HT_ ?_
  refine oneP_ 7 (some 12) #[true, true, true, true, true, true, true, true, false, false] HT_ (fun K hK => ?_)
  refine goN_ Try.func54 #[.int .i64 (wrap64 (a0_1 - a0_0))] ?_
  with_reducible refine (impl_TreeSplit.calls k (wrap64 (a0_1 - a0_0)) t377 _ A2.out).mono ?_
  rintro e w' ⟨rfl, ⟨nd, rfl⟩⟩
  refine ⟨_, rfl, ?_⟩
  refine hK.out _ _ ⟨(blk_cell BK374.out 0).trans rfl, (blk_cell BK374.out 1).trans rfl⟩ (fun hHeld => ?_)
  clear hK K
  refine norm_ (a' := ?_) ?_ ?_
  rotate_left
  · show Act.put _ (some 12) _ = _
    simp only [Act.put, List.setIfInBounds_toArray, List.set_cons_zero, List.set_cons_succ, i64_w, i32_w]
    rfl
  refine pureP_ 8 (some 13) #[true, true, true, true, true, true, true, true, true, false] HT_ ?_
  refine pureP_ 9 (some 4) #[true, true, true, true, true, true, true, true, true, true] HT_ ?_
  refine done_ (done_of HT_.out (by kernel_rfl)) ?_
  try go_wp2
  (try (rw [drewN_self w6]; generalize hq_ : World.drewN w6 _ = w6; have n0_ : Aside0 (w6.heap[gb374]? = some (.cells #[.int .i64 a0_0, .int .i64 a0_1] 120 (0, 0))) := ⟨by rw [← hq_]; exact (blkU_ BK374.out)⟩; have n1_ : Aside0 (w6.heap[gb375]? = some (.cells #[.int .i64 0, .int .i64 0] 120 (0, 0))) := ⟨by rw [← hq_]; exact (blkU_ BK375.out)⟩; have n2_ : Aside0 (w6.heap[gb376]? = some (.cells #[.int .i64 0, .int .i64 0] 120 (0, 0))) := ⟨by rw [← hq_]; exact (blkU_ BK376.out)⟩; have n3_ : Aside0 (Below w.heap.size w w6) := ⟨by rw [← hq_]; exact bel_⟩; clear BK374 BK375 BK376 HB hq_; have BK374 := n0_; have BK375 := n1_; have BK376 := n2_; have HB := n3_; clear n0_ n1_ n2_ n3_))
  replace BK374 := Aside0.mk (blk_drew BK374.out)
  replace BK375 := Aside0.mk (blk_drew BK375.out)
  replace BK376 := Aside0.mk (blk_drew BK376.out)
  replace HB := Aside0.mk (below_drew1 HB.out)
  refine start_ (n := 10) (S := fun w' => w'.cell? ⟨gb374, 0, none⟩ = some (.int .i64 a0_0) ∧ w'.cell? ⟨gb374, 1, none⟩ = some (.int .i64 a0_1)) (ds := []) #[false, false, false, false, false, false, false, false, false, false] (by kernel_rfl) rfl rfl ⟨(blk_cell BK374.out 0).trans rfl, (blk_cell BK374.out 1).trans rfl⟩ (fun hHeld => ?_); refine with_tabW impl_node_halves.tab2 impl_node_halves.bits2 (fun HT_ HW_ => ?_)
  generalize w6.drew = w7 at BK374 BK375 BK376 HB hHeld ⊢
  refine pureP_ 0 (some 14) #[true, false, false, false, false, false, false, false, false, false] HT_ ?_
  refine pureP_ 2 (some 16) #[true, false, true, false, false, false, false, false, false, false] HT_ ?_
  refine pureP_ 4 (some 18) #[true, false, true, false, true, false, false, false, false, false] HT_ ?_
  refine pureP_ 5 (some 19) #[true, false, true, false, true, true, false, false, false, false] HT_ ?_
  refine takeP_ 1 (some 15) #[true, true, true, false, true, true, false, false, false, false] HT_ HW_ hHeld ?_
  refine pureP_ 3 (some 17) #[true, true, true, true, true, true, false, false, false, false] HT_ ?_
  refine takeP_ 6 (some 20) #[true, true, true, true, true, true, true, false, false, false] HT_ HW_ hHeld ?_
  refine pureP_ 7 (some 21) #[true, true, true, true, true, true, true, true, false, false] HT_ ?_
  refine oneP_ 8 none #[true, true, true, true, true, true, true, true, true, false] HT_ (fun K hK => ?_)
  have hs8 : w7.cell? ⟨gb375, 0, none⟩ = some (.int .i64 0) := (blk_cell BK375.out 0).trans rfl
  have hfs8 := blk_frozen BK375.out 0
  have hns8_0 := NB374_375.out
  have hns8_2 := NB376_375.out
  have hms8_0 := NB375_374.out
  have hms8_2 := NB375_376.out
  have hs9 : w7.cell? ⟨gb375, 1, none⟩ = some (.int .i64 0) := (blk_cell BK375.out 1).trans rfl
  have hfs9 := blk_frozen BK375.out 1
  have hns9_0 := NB374_375.out
  have hns9_2 := NB376_375.out
  have hms9_0 := NB375_374.out
  have hms9_2 := NB375_376.out
  refine skip_ (w1 := ?_) (by rfl) rfl ?_ ?_
  rotate_left
  · go_simp
    rfl
  refine hK.out _ _ ⟨((cell_far (p := ⟨gb375, _, none⟩) NB374_375.out _).trans (((cell_far (p := ⟨gb375, _, none⟩) NB374_375.out _).trans (hHeld.1)))), ((cell_far (p := ⟨gb375, _, none⟩) NB374_375.out _).trans (((cell_far (p := ⟨gb375, _, none⟩) NB374_375.out _).trans (hHeld.2))))⟩ (fun hHeld => ?_)
  clear hK K
  refine oneP_ 9 none #[true, true, true, true, true, true, true, true, true, true] HT_ (fun K hK => ?_)
  have hs10 : w7.cell? ⟨gb376, 0, none⟩ = some (.int .i64 0) := (blk_cell BK376.out 0).trans rfl
  have hfs10 := blk_frozen BK376.out 0
  have hns10_0 := NB374_376.out
  have hns10_1 := NB375_376.out
  have hms10_0 := NB376_374.out
  have hms10_1 := NB376_375.out
  have hs11 : w7.cell? ⟨gb376, 1, none⟩ = some (.int .i64 0) := (blk_cell BK376.out 1).trans rfl
  have hfs11 := blk_frozen BK376.out 1
  have hns11_0 := NB374_376.out
  have hns11_1 := NB375_376.out
  have hms11_0 := NB376_374.out
  have hms11_1 := NB376_375.out
  refine skip_ (w1 := ?_) (by rfl) rfl ?_ ?_
  rotate_left
  · go_simp
    rfl
  refine hK.out _ _ ⟨((cell_far (p := ⟨gb376, _, none⟩) NB374_376.out _).trans (((cell_far (p := ⟨gb376, _, none⟩) NB374_376.out _).trans (hHeld.1)))), ((cell_far (p := ⟨gb376, _, none⟩) NB374_376.out _).trans (((cell_far (p := ⟨gb376, _, none⟩) NB374_376.out _).trans (hHeld.2))))⟩ (fun hHeld => ?_)
  clear hK K
  refine done_ (done_of HT_.out (by kernel_rfl)) ?_
  try go_wp2
  refine bodyPost_ret (results_cc rfl _ _ gb375 gb376 120 120 #[.int .i64 a0_0, .int .i64 (wrap64 (a0_0 + t377))] #[.int .i64 (wrap64 (a0_0 + t377)), .int .i64 a0_1] (0, 0) (0, 0) _ _ rfl (blkF_ BK375.out) Try.underlying120 rfl (by kernel_rfl) rfl (blkF_ BK376.out) Try.underlying120 rfl (by kernel_rfl)) rfl ?_
  exact ⟨rfl_, bel_⟩

end
section
/-! ### spec_l3Place: function 100 -/
def spec_l3Place.f (a0 : Int) (a1 : Int) : Option (Bool) := (spec_l1In.f a0 1 256).bind fun t490 => (if t490 = true then ((spec_l1In.f a1 0 (wrap64 (a0 - 1))).bind fun t491 => (some t491)) else (some false))
set_option maxHeartbeats 8000000 in
set_option maxRecDepth 100000 in
theorem spec_l3Place.calls (a0 : Int) (a1 : Int) (r : Bool) (w : World) (h : spec_l3Place.f a0 a1 = some r) :
    Calls Try.prog 100 #[.int .i64 a0, .int .i64 a1] w fun e w' => e = .returned (.bool r) ∧ Drawn0 w w' := by
  have H : ((spec_l1In.f a0 1 256).bind fun t490 => (if t490 = true then ((spec_l1In.f a1 0 (wrap64 (a0 - 1))).bind fun t491 => (some t491)) else (some false))) = some r := h
  clear h
  obtain ⟨t490, A3, H⟩ := bnd_ H
  by_cases c4 : t490 = true
  · subst c4
    rw [if_pos rfl] at H
    obtain ⟨t491, A5, H⟩ := bnd_ H
    obtain rfl := Option.some.inj H
    go_enter Try.func100, Try.ntmps100
    go_wp2_with (first | ((with_reducible refine gate_callee (f := 109) rfl ?_); refine goL_ (some 6) Try.func109 #[.int .i64 a0, .int .i64 1, .int .i64 256] ?_; (with_reducible refine (spec_l1In.calls a0 1 256 true _ A3.out).mono ?_); rintro e w' ⟨rfl, ⟨nd, rfl⟩⟩; refine ⟨_, rfl, ?_⟩) | (go_at_call 109; (with_reducible refine (spec_l1In.calls a1 0 (wrap64 (a0 - 1)) t491 _ A5.out).mono ?_); rintro e w' ⟨rfl, ⟨nd, rfl⟩⟩))
    go_ret
    exact ⟨by first | rfl | (simp; done) | (simp [*]; done), by repeat (first | exact Drawn0.refl _ | apply Drawn0.step)⟩
  · replace c4 := Bool.eq_false_iff.mpr c4
    subst c4
    rw [if_neg (show ¬ (false = true) by decide)] at H
    obtain rfl := Option.some.inj H
    go_enter Try.func100, Try.ntmps100
    go_wp2_with (first | ((with_reducible refine gate_callee (f := 109) rfl ?_); refine goL_ (some 6) Try.func109 #[.int .i64 a0, .int .i64 1, .int .i64 256] ?_; (with_reducible refine (spec_l1In.calls a0 1 256 false _ A3.out).mono ?_); rintro e w' ⟨rfl, ⟨nd, rfl⟩⟩; refine ⟨_, rfl, ?_⟩))
    go_ret
    exact ⟨by first | rfl | (simp; done) | (simp [*]; done), by repeat (first | exact Drawn0.refl _ | apply Drawn0.step)⟩

end
section
/-! ### spec_PathLen: function 85 -/
def spec_PathLen.l0 : Nat → Int → Int → Int → Option (Int)
  | 0, _, _, _ => none
  | k + 1, x0, x1, x5 => if x0 > 1 then ((spec_TreeSplit.f k x0).bind fun t493 => (if x1 < t493 then (spec_PathLen.l0 k t493 x1 (wrap64 (x5 + 1))) else (spec_PathLen.l0 k (wrap64 (x0 - t493)) (wrap64 (x1 - t493)) (wrap64 (x5 + 1))))) else (some x5)
def spec_PathLen.f (k : Nat) (a0 : Int) (a1 : Int) : Option (Int) := (spec_l3Place.f a0 a1).bind fun t492 => (if t492 = true then (spec_PathLen.l0 k a0 a1 0) else (some (-1)))
theorem spec_PathLen.mono_l : ∀ k, (∀ y0 y1 y2, LeO (spec_PathLen.l0 k y0 y1 y2) (spec_PathLen.l0 (k + 1) y0 y1 y2))
  | 0 => fun _ _ _ r h => by simp [spec_PathLen.l0] at h
  | k + 1 => by
    have ih0 := spec_PathLen.mono_l k
    · intro y0 y1 y2
      unfold spec_PathLen.l0
      repeat' first | (with_reducible first | exact ih0 _ _ _ | exact spec_TreeSplit.mono _ _ | exact LeO.refl _ | exact LeO.none _ | refine LeO.ite ?_ ?_ | refine LeO.bind ?_ (fun _ => ?_)) | exact ih0 _ _ _ | exact LeO.none _ | refine LeO.ite ?_ ?_ | refine LeO.bind ?_ (fun _ => ?_)
theorem spec_PathLen.mono : ∀ a0 a1 k, LeO (spec_PathLen.f k a0 a1) (spec_PathLen.f (k + 1) a0 a1) := by
  intro a0 a1 k
  have ih0 := spec_PathLen.mono_l k
  unfold spec_PathLen.f
  repeat' first | (with_reducible first | exact ih0 _ _ _ | exact spec_TreeSplit.mono _ _ | exact LeO.refl _ | exact LeO.none _ | refine LeO.ite ?_ ?_ | refine LeO.bind ?_ (fun _ => ?_)) | exact ih0 _ _ _ | exact LeO.none _ | refine LeO.ite ?_ ?_ | refine LeO.bind ?_ (fun _ => ?_)
set_option maxHeartbeats 8000000 in
set_option maxRecDepth 100000 in
theorem spec_PathLen.calls (k : Nat) (a0 : Int) (a1 : Int) (r : Int) (w : World) (h : spec_PathLen.f k a0 a1 = some r) :
    Calls Try.prog 85 #[.int .i64 a0, .int .i64 a1] w fun e w' => e = .returned (.int .i64 r) ∧ Drawn0 w w' := by
  have H : ((spec_l3Place.f a0 a1).bind fun t492 => (if t492 = true then (spec_PathLen.l0 k a0 a1 0) else (some (-1)))) = some r := h
  clear h
  obtain ⟨t492, A3, H⟩ := bnd_ H
  by_cases c4 : t492 = true
  · subst c4
    rw [if_pos rfl] at H
    have H' := Aside0.mk H
    clear H
    go_enter Try.func85, Try.ntmps85
    go_wp2_with (first | ((with_reducible refine gate_callee (f := 100) rfl ?_); refine goL_ (some 9) Try.func100 #[.int .i64 a0, .int .i64 a1] ?_; (with_reducible refine (spec_l3Place.calls a0 a1 true _ A3.out).mono ?_); rintro e w' ⟨rfl, ⟨nd, rfl⟩⟩; refine ⟨_, rfl, ?_⟩))
    go_loopg [0, 1, 5] k (fun kq v0 v1 v5 w' => ∃ (x0_1 : Int) (x1_1 : Int) (x5_1 : Int), v0 = .int .i64 x0_1 ∧ v1 = .int .i64 x1_1 ∧ v5 = .int .i64 x5_1 ∧ Aside0 (spec_PathLen.l0 kq x0_1 x1_1 x5_1 = some r) ∧ Aside0 (kq ≤ k) ∧ Drawn0 w w')
    case atStart => exact ⟨(a0), (a1), (0), (by first | rfl | (simp; done) | (simp [*]; done)), (by first | rfl | (simp; done) | (simp [*]; done)), (by first | rfl | (simp; done) | (simp [*]; done)), H', ⟨Nat.le_refl _⟩, by repeat (first | exact Drawn0.refl _ | apply Drawn0.step)⟩
    case round =>
      clear H'
      (try clear c4)
      obtain ⟨x0_1, x1_1, x5_1, rfl, rfl, rfl, HA, HK1, ⟨m1, rfl⟩⟩ := hrel
      cases gk with
      | zero => exact absurd HA.out (by simp [spec_PathLen.l0])
      | succ k1 =>
        have H := HA.out
        clear HA
        simp only [spec_PathLen.l0] at H
        by_cases c5 : x0_1 > 1
        · rw [if_pos c5] at H
          have c5b0 : decide (1 < x0_1) = true := decide_eq_true c5
          clear c5
          obtain ⟨t493, A6, H⟩ := bnd_ H
          by_cases c7 : x1_1 < t493
          · rw [if_pos c7] at H
            have c7b0 : decide (x1_1 < t493) = true := decide_eq_true c7
            clear c7
            have H' := Aside0.mk H
            clear H
            go_wp2_with (first | ((with_reducible refine gate_callee (f := 55) rfl ?_); refine goL_ (some 14) Try.func55 #[.int .i64 x0_1] ?_; (with_reducible refine (spec_TreeSplit.calls k1 x0_1 t493 _ A6.out).mono ?_); rintro e w' ⟨rfl, ⟨nd, rfl⟩⟩; refine ⟨_, rfl, ?_⟩))
            go_roundg k1
            case measure => have := HK1.out; omega
            case rel => exact ⟨(t493), (x1_1), (wrap64 (x5_1 + 1)), (by first | rfl | (simp; done) | (simp [*]; done)), (by first | rfl | (simp; done) | (simp [*]; done)), (by first | rfl | (simp; done) | (simp [*]; done)), H', ⟨by have := HK1.out; omega⟩, by repeat (first | exact Drawn0.refl _ | apply Drawn0.step)⟩
          · rw [if_neg c7] at H
            have c7b0 : decide (x1_1 < t493) = false := decide_eq_false c7
            clear c7
            have H' := Aside0.mk H
            clear H
            go_wp2_with (first | ((with_reducible refine gate_callee (f := 55) rfl ?_); refine goL_ (some 14) Try.func55 #[.int .i64 x0_1] ?_; (with_reducible refine (spec_TreeSplit.calls k1 x0_1 t493 _ A6.out).mono ?_); rintro e w' ⟨rfl, ⟨nd, rfl⟩⟩; refine ⟨_, rfl, ?_⟩))
            go_roundg k1
            case measure => have := HK1.out; omega
            case rel => exact ⟨(wrap64 (x0_1 - t493)), (wrap64 (x1_1 - t493)), (wrap64 (x5_1 + 1)), (by first | rfl | (simp; done) | (simp [*]; done)), (by first | rfl | (simp; done) | (simp [*]; done)), (by first | rfl | (simp; done) | (simp [*]; done)), H', ⟨by have := HK1.out; omega⟩, by repeat (first | exact Drawn0.refl _ | apply Drawn0.step)⟩
        · rw [if_neg c5] at H
          have c5b0 : decide (1 < x0_1) = false := decide_eq_false c5
          clear c5
          obtain rfl := Option.some.inj H
          go_wp2
          go_ret
          exact ⟨by first | rfl | (simp; done) | (simp [*]; done), by repeat (first | exact Drawn0.refl _ | apply Drawn0.step)⟩
  · replace c4 := Bool.eq_false_iff.mpr c4
    subst c4
    rw [if_neg (show ¬ (false = true) by decide)] at H
    obtain rfl := Option.some.inj H
    go_enter Try.func85, Try.ntmps85
    go_wp2_with (first | ((with_reducible refine gate_callee (f := 100) rfl ?_); refine goL_ (some 9) Try.func100 #[.int .i64 a0, .int .i64 a1] ?_; (with_reducible refine (spec_l3Place.calls a0 a1 false _ A3.out).mono ?_); rintro e w' ⟨rfl, ⟨nd, rfl⟩⟩; refine ⟨_, rfl, ?_⟩))
    go_ret
    exact ⟨by first | rfl | (simp; done) | (simp [*]; done), by repeat (first | exact Drawn0.refl _ | apply Drawn0.step)⟩

end
section
/-! ### impl_way: function 117 -/
def impl_way.l0 : Nat → Int → List (S120) → Int → Int → Option ((List (S120)))
  | 0, _, _, _, _ => none
  | k + 1, x1, x5, x702000, x702001 => if (wrap64 (x702001 - x702000)) > 1 then (if x5.length < 8796093022208 then ((some (x5 ++ [(⟨x702000, x702001⟩ : S120)] : List (S120))).bind fun y702 => ((impl_node_halves.f k x702000 x702001).bind fun bt705 => (if x1 < bt705.2.1 then (impl_way.l0 k x1 y702 bt705.1 bt705.2.1) else (impl_way.l0 k x1 y702 bt705.2.2.1 bt705.2.2.2)))) else (none)) else (some x5)
def impl_way.f (k : Nat) (a0 : Int) (a1 : Int) : Option ((List (S120))) := impl_way.l0 k a1 ([] : List (S120)) 0 a0
theorem impl_way.mono_l : ∀ k, (∀ y0 y1 y2 y3, LeO (impl_way.l0 k y0 y1 y2 y3) (impl_way.l0 (k + 1) y0 y1 y2 y3))
  | 0 => fun _ _ _ _ r h => by simp [impl_way.l0] at h
  | k + 1 => by
    have ih0 := impl_way.mono_l k
    · intro y0 y1 y2 y3
      unfold impl_way.l0
      repeat' first | (with_reducible first | exact ih0 _ _ _ _ | exact impl_node_halves.mono _ _ _ | exact LeO.refl _ | exact LeO.none _ | refine LeO.ite ?_ ?_ | refine LeO.bind ?_ (fun _ => ?_)) | exact ih0 _ _ _ _ | exact LeO.none _ | refine LeO.ite ?_ ?_ | refine LeO.bind ?_ (fun _ => ?_)
theorem impl_way.mono : ∀ a0 a1 k, LeO (impl_way.f k a0 a1) (impl_way.f (k + 1) a0 a1) := by
  intro a0 a1 k
  have ih0 := impl_way.mono_l k
  unfold impl_way.f
  repeat' first | (with_reducible first | exact ih0 _ _ _ _ | exact impl_node_halves.mono _ _ _ | exact LeO.refl _ | exact LeO.none _ | refine LeO.ite ?_ ?_ | refine LeO.bind ?_ (fun _ => ?_)) | exact ih0 _ _ _ _ | exact LeO.none _ | refine LeO.ite ?_ ?_ | refine LeO.bind ?_ (fun _ => ?_)
set_option maxHeartbeats 8000000 in
set_option maxRecDepth 100000 in
theorem impl_way.calls (k : Nat) (a0 : Int) (a1 : Int) (r : List (S120)) (w : World) (h : impl_way.f k a0 a1 = some r) :
    Calls Try.prog 117 #[.int .i64 a0, .int .i64 a1] w fun e w' => ∃ v0_ : Value, e = .returned (v0_) ∧ Kd.R k120 120 w' w.heap.size (fun _ => True) v0_ r ∧ Below w.heap.size w w' := by
  have hu120 := Try.underlying120
  have HB := Aside0.mk (Below.refl w.heap.size w)
  have H : (impl_way.l0 k a1 ([] : List (S120)) 0 a0) = some r := h
  clear h
  have H' := Aside0.mk H
  clear H
  go_enter Try.func117, Try.ntmps117
  go_wp2_with (first | ((with_reducible refine gate_dst (N := 6) rfl ?_); refine boxE_ (cs := #[.int .i64 0, .int .i64 0]) (t := 120) ?_; intro gb701 hg w3 hbox hb; have BK701 := Aside0.mk (hbox); have GW701 := sizeB_ hg; have GE701 := sizeB_ hg; replace HB := stepB_ hb; clear hb hbox hg; obtain ⟨hcz4_0, hcz4_1, hfz4_0, hfz4_1⟩ := cz2_ BK701.out))
  go_loopg [5] k (fun kq v5 w' => ∃ (x5_1 : List (S120)) (x702000_1 : Int) (x702001_1 : Int), Aside0 (impl_way.l0 kq a1 x5_1 x702000_1 x702001_1 = some r) ∧ Aside0 (kq ≤ k) ∧ Aside0 (Kd.R k120 120 w' w.heap.size (fun k_ => k_ ≠ gb701) v5 x5_1) ∧ Aside0 (w'.heap[gb701]? = some (.cells #[.int .i64 x702000_1, .int .i64 x702001_1] 120 (0, 0))) ∧ Aside0 (Below w.heap.size w w'))
  case atStart => exact ⟨(([] : List (S120))), (0), (a0), H', ⟨Nat.le_refl _⟩, ⟨by first | exact Kd.R_nil _ _ _ _ _ | exact Kd.N_nil _ _ _ _ _ | exact Kd.V_nil _ _ _ _ _ | exact Kd.Q_nil _ _ _ _ _ | exact Kd.S_nil _ _ _ _ _⟩, ⟨blkF_ BK701.out⟩, ⟨bel_⟩⟩
  case round =>
    clear H'
    (try clear hcz4_0); (try clear hcz4_1); (try clear hfz4_0); (try clear hfz4_1)
    obtain ⟨x5_1, x702000_1, x702001_1, HA, HK1, HO_5, BK701, HB⟩ := hrel
    cases gk with
    | zero => exact absurd HA.out (by simp [impl_way.l0])
    | succ k1 =>
      have H := HA.out
      clear HA
      simp only [impl_way.l0] at H
      by_cases c5 : (wrap64 (x702001_1 - x702000_1)) > 1
      · rw [if_pos c5] at H
        have c5b0 : decide (1 < (wrap64 (x702001_1 - x702000_1))) = true := decide_eq_true c5
        clear c5
        by_cases c6 : x5_1.length < 8796093022208
        · rw [if_pos c6] at H
          have LMc6 := Aside0.mk c6
          clear c6
          obtain ⟨y702, hy702⟩ : ∃ y_ : List (S120), y_ = (x5_1 ++ [(⟨x702000_1, x702001_1⟩ : S120)]) := ⟨_, rfl⟩
          replace H : ((impl_node_halves.f k1 x702000_1 x702001_1).bind fun bt705 => (if a1 < bt705.2.1 then (impl_way.l0 k1 a1 y702 bt705.1 bt705.2.1) else (impl_way.l0 k1 a1 y702 bt705.2.2.1 bt705.2.2.2))) = some r := by first | (rw [hy702]; with_reducible exact H) | (have H2_ := (Option.bind_some _ _).symm.trans H; rw [hy702]; with_reducible exact H2_) | (have H2_ := (Option.bind_some _ _).symm.trans H; with_reducible exact H2_) | with_reducible exact H | (rw [hy702]; exact H) | exact H
          have Ny702 := Aside0.mk hy702
          clear hy702
          obtain ⟨⟨t705, t706, t707, t708⟩, A7, H⟩ := bnd_ H
          dsimp only at H
          by_cases c8 : a1 < t706
          · rw [if_pos c8] at H
            have c8b0 : decide (a1 < t706) = true := decide_eq_true c8
            clear c8
            have H' := Aside0.mk H
            clear H
            obtain ⟨hcz9_0, hcz9_1, hfz9_0, hfz9_1⟩ := cz2_ BK701.out
            go_wp2_with (first | ((with_reducible refine gate_builtin (b := .append) (xs := #[.tmp 17, .tmp 19]) rfl ?_); at_builtin; refine Kd.R_append k120 (w0 := w) w.heap.size rfl (.tmp 17) (.tmp 19) 117 120 (.agg #[(.int .i64 0), (.int .i64 0)]) 16 rfl Try.underlying117 info120 rfl (by decide) (by omega) u5 x5_1 (⟨x702000_1, x702001_1⟩ : S120) [.int .i64 x702000_1, .int .i64 x702001_1] (fun k_ => k_ ≠ gb701) (fun _ => False) rfl rfl ?aP (fun _ hk => hk.elim) ?aF ?aO ?aB ?aS ?aL ?_; (case aP => exact k120_mkM _ _ _ (⟨x702000_1, x702001_1⟩ : S120)); (case aB => exact bel_); (case aF => exact (fun k_ hk => Kd.freshB (g := gb701) (o := .cells #[.int .i64 x702000_1, .int .i64 x702001_1] 120 (0, 0)) (blkU_ BK701.out) k_ hk)); (case aO => exact (kdU_ HO_5.out)); (case aS => exact (below_size bel_)); (case aL => have := LMc6.out; omega); intro v703 w10 ho hb hg hat; rw [← Ny702.out] at ho; replace BK701 := Aside0.mk (blk_grown (g := gb701) (o := .cells #[.int .i64 x702000_1, .int .i64 x702001_1] 120 (0, 0)) (blkU_ BK701.out) hg (Kd.R_away HO_5.out (fun _ hk => hk))); replace HB := Aside0.mk (hb); have HO704 := Aside0.mk (ho); clear HO_5; clear ho hb hg hat; obtain ⟨hcz11_0, hcz11_1, hfz11_0, hfz11_1⟩ := cz2_ BK701.out) | ((with_reducible refine gate_callee (f := 118) rfl ?_); refine goL_ (some 23) Try.func118 #[.agg #[.int .i64 x702000_1, .int .i64 x702001_1]] ?_; (with_reducible refine (impl_node_halves.calls k1 x702000_1 x702001_1 t705 t706 t707 t708 _ A7.out).mono ?_); rintro e w12 ⟨rfl, hb⟩; refine ⟨_, rfl, ?_⟩; replace HO704 := Aside0.mk (Kd.R_below (kdU_ HO704.out) hb); replace BK701 := blkBel_ BK701.out hb; replace HB := stepB_ hb; (try clear hb); (try clear hk)) | ((with_reducible refine gate_dst (N := 7) rfl ?_); refine boxE_ (cs := #[.int .i64 0, .int .i64 0]) (t := 120) ?_; intro gb709 hg w13 hbox hb; replace HO704 := Aside0.mk (Kd.R_below (Kd.R_elderB (kdU_ HO704.out) gb709 (Nat.le_of_eq hg.symm)) hb); have BK709 := Aside0.mk (hbox); have GW709 := sizeB_ hg; have GE709 := sizeB_ hg; replace HB := stepB_ hb; have NB701_709 := neL_ BK701.out hg; have NB709_701 := neG_ BK701.out hg; replace BK701 := blkBel_ BK701.out hb; clear hb hbox hg) | ((with_reducible refine gate_dst (N := 8) rfl ?_); refine boxE_ (cs := #[.int .i64 0, .int .i64 0]) (t := 120) ?_; intro gb710 hg w14 hbox hb; replace HO704 := Aside0.mk (Kd.R_below (Kd.R_elderB (kdU_ HO704.out) gb710 (Nat.le_of_eq hg.symm)) hb); have BK710 := Aside0.mk (hbox); have GW710 := sizeB_ hg; have GE710 := sizeB_ hg; replace HB := stepB_ hb; have NB701_710 := neL_ BK701.out hg; have NB710_701 := neG_ BK701.out hg; replace BK701 := blkBel_ BK701.out hb; have NB709_710 := neL_ BK709.out hg; have NB710_709 := neG_ BK709.out hg; replace BK709 := blkBel_ BK709.out hb; clear hb hbox hg; have hnb15 := NB709_701.out; have hnc15 := NB701_709.out; have hnb16 := NB709_710.out; have hnc16 := NB710_709.out; obtain ⟨hcz17_0, hcz17_1, hfz17_0, hfz17_1⟩ := cz2_ BK709.out; have hnb18 := NB710_701.out; have hnc18 := NB701_710.out; obtain ⟨hcz19_0, hcz19_1, hfz19_0, hfz19_1⟩ := cz2_ BK710.out; obtain ⟨hcz20_0, hcz20_1, hfz20_0, hfz20_1⟩ := cz2_ BK701.out))
            go_roundg k1
            case measure => have := HK1.out; omega
            case rel => exact ⟨(y702), (t705), (t706), H', ⟨by have := HK1.out; omega⟩, ⟨by (with_reducible repeat (first | apply Kd.R_alloc | apply Kd.R_drewN | apply Kd.R_drew)); exact Kd.R_mono (Kd.R_far (p := ⟨gb701, 1, none⟩) (Kd.R_far (p := ⟨gb701, 0, none⟩) (Kd.R_far (p := ⟨gb701, 1, none⟩) (Kd.R_far (p := ⟨gb701, 0, none⟩) (Kd.R_far (p := ⟨gb710, 1, none⟩) (Kd.R_far (p := ⟨gb710, 0, none⟩) (Kd.R_far (p := ⟨gb709, 1, none⟩) (Kd.R_far (p := ⟨gb709, 0, none⟩) (Kd.R_mono (Kd.R_mono (Kd.R_mono HO704.out (fun k_ hk => (⟨hk, hk.1.2⟩ : _ ∧ k_ ≠ gb709))) (fun k_ hk => (⟨hk, hk.1.2⟩ : _ ∧ k_ ≠ gb710))) (fun k_ hk => (⟨hk, hk.1.1.1.1⟩ : _ ∧ k_ ≠ gb701))) (fun _ hk => hk.1.1.2) (.int .i64 t705)) (fun _ hk => hk.1.1.2) (.int .i64 t706)) (fun _ hk => hk.1.2) (.int .i64 t707)) (fun _ hk => hk.1.2) (.int .i64 t708)) (fun _ hk => hk.2) (.int .i64 t707)) (fun _ hk => hk.2) (.int .i64 t708)) (fun _ hk => hk.2) (.int .i64 t705)) (fun _ hk => hk.2) (.int .i64 t706)) (fun _ hk => hk.1.1.1.1.1)⟩, ⟨blkF_ BK701.out⟩, ⟨bel_⟩⟩
          · rw [if_neg c8] at H
            have c8b0 : decide (a1 < t706) = false := decide_eq_false c8
            clear c8
            have H' := Aside0.mk H
            clear H
            obtain ⟨hcz21_0, hcz21_1, hfz21_0, hfz21_1⟩ := cz2_ BK701.out
            go_wp2_with (first | ((with_reducible refine gate_builtin (b := .append) (xs := #[.tmp 17, .tmp 19]) rfl ?_); at_builtin; refine Kd.R_append k120 (w0 := w) w.heap.size rfl (.tmp 17) (.tmp 19) 117 120 (.agg #[(.int .i64 0), (.int .i64 0)]) 16 rfl Try.underlying117 info120 rfl (by decide) (by omega) u5 x5_1 (⟨x702000_1, x702001_1⟩ : S120) [.int .i64 x702000_1, .int .i64 x702001_1] (fun k_ => k_ ≠ gb701) (fun _ => False) rfl rfl ?aP (fun _ hk => hk.elim) ?aF ?aO ?aB ?aS ?aL ?_; (case aP => exact k120_mkM _ _ _ (⟨x702000_1, x702001_1⟩ : S120)); (case aB => exact bel_); (case aF => exact (fun k_ hk => Kd.freshB (g := gb701) (o := .cells #[.int .i64 x702000_1, .int .i64 x702001_1] 120 (0, 0)) (blkU_ BK701.out) k_ hk)); (case aO => exact (kdU_ HO_5.out)); (case aS => exact (below_size bel_)); (case aL => have := LMc6.out; omega); intro v703 w22 ho hb hg hat; rw [← Ny702.out] at ho; replace BK701 := Aside0.mk (blk_grown (g := gb701) (o := .cells #[.int .i64 x702000_1, .int .i64 x702001_1] 120 (0, 0)) (blkU_ BK701.out) hg (Kd.R_away HO_5.out (fun _ hk => hk))); replace HB := Aside0.mk (hb); have HO704 := Aside0.mk (ho); clear HO_5; clear ho hb hg hat; obtain ⟨hcz23_0, hcz23_1, hfz23_0, hfz23_1⟩ := cz2_ BK701.out) | ((with_reducible refine gate_callee (f := 118) rfl ?_); refine goL_ (some 23) Try.func118 #[.agg #[.int .i64 x702000_1, .int .i64 x702001_1]] ?_; (with_reducible refine (impl_node_halves.calls k1 x702000_1 x702001_1 t705 t706 t707 t708 _ A7.out).mono ?_); rintro e w24 ⟨rfl, hb⟩; refine ⟨_, rfl, ?_⟩; replace HO704 := Aside0.mk (Kd.R_below (kdU_ HO704.out) hb); replace BK701 := blkBel_ BK701.out hb; replace HB := stepB_ hb; (try clear hb); (try clear hk)) | ((with_reducible refine gate_dst (N := 7) rfl ?_); refine boxE_ (cs := #[.int .i64 0, .int .i64 0]) (t := 120) ?_; intro gb709 hg w25 hbox hb; replace HO704 := Aside0.mk (Kd.R_below (Kd.R_elderB (kdU_ HO704.out) gb709 (Nat.le_of_eq hg.symm)) hb); have BK709 := Aside0.mk (hbox); have GW709 := sizeB_ hg; have GE709 := sizeB_ hg; replace HB := stepB_ hb; have NB701_709 := neL_ BK701.out hg; have NB709_701 := neG_ BK701.out hg; replace BK701 := blkBel_ BK701.out hb; clear hb hbox hg) | ((with_reducible refine gate_dst (N := 8) rfl ?_); refine boxE_ (cs := #[.int .i64 0, .int .i64 0]) (t := 120) ?_; intro gb710 hg w26 hbox hb; replace HO704 := Aside0.mk (Kd.R_below (Kd.R_elderB (kdU_ HO704.out) gb710 (Nat.le_of_eq hg.symm)) hb); have BK710 := Aside0.mk (hbox); have GW710 := sizeB_ hg; have GE710 := sizeB_ hg; replace HB := stepB_ hb; have NB701_710 := neL_ BK701.out hg; have NB710_701 := neG_ BK701.out hg; replace BK701 := blkBel_ BK701.out hb; have NB709_710 := neL_ BK709.out hg; have NB710_709 := neG_ BK709.out hg; replace BK709 := blkBel_ BK709.out hb; clear hb hbox hg; have hnb27 := NB709_701.out; have hnc27 := NB701_709.out; have hnb28 := NB709_710.out; have hnc28 := NB710_709.out; obtain ⟨hcz29_0, hcz29_1, hfz29_0, hfz29_1⟩ := cz2_ BK709.out; have hnb30 := NB710_701.out; have hnc30 := NB701_710.out; obtain ⟨hcz31_0, hcz31_1, hfz31_0, hfz31_1⟩ := cz2_ BK710.out; obtain ⟨hcz32_0, hcz32_1, hfz32_0, hfz32_1⟩ := cz2_ BK701.out))
            go_roundg k1
            case measure => have := HK1.out; omega
            case rel => exact ⟨(y702), (t707), (t708), H', ⟨by have := HK1.out; omega⟩, ⟨by (with_reducible repeat (first | apply Kd.R_alloc | apply Kd.R_drewN | apply Kd.R_drew)); exact Kd.R_mono (Kd.R_far (p := ⟨gb701, 1, none⟩) (Kd.R_far (p := ⟨gb701, 0, none⟩) (Kd.R_far (p := ⟨gb710, 1, none⟩) (Kd.R_far (p := ⟨gb710, 0, none⟩) (Kd.R_far (p := ⟨gb709, 1, none⟩) (Kd.R_far (p := ⟨gb709, 0, none⟩) (Kd.R_mono (Kd.R_mono (Kd.R_mono HO704.out (fun k_ hk => (⟨hk, hk.1.2⟩ : _ ∧ k_ ≠ gb709))) (fun k_ hk => (⟨hk, hk.1.2⟩ : _ ∧ k_ ≠ gb710))) (fun k_ hk => (⟨hk, hk.1.1.1.1⟩ : _ ∧ k_ ≠ gb701))) (fun _ hk => hk.1.1.2) (.int .i64 t705)) (fun _ hk => hk.1.1.2) (.int .i64 t706)) (fun _ hk => hk.1.2) (.int .i64 t707)) (fun _ hk => hk.1.2) (.int .i64 t708)) (fun _ hk => hk.2) (.int .i64 t707)) (fun _ hk => hk.2) (.int .i64 t708)) (fun _ hk => hk.1.1.1.1.1)⟩, ⟨blkF_ BK701.out⟩, ⟨bel_⟩⟩
        · rw [if_neg c6] at H
          exact absurd H (by simp)
      · rw [if_neg c5] at H
        have c5b0 : decide (1 < (wrap64 (x702001_1 - x702000_1))) = false := decide_eq_false c5
        clear c5
        obtain rfl := Option.some.inj H
        obtain ⟨hcz33_0, hcz33_1, hfz33_0, hfz33_1⟩ := cz2_ BK701.out
        go_wp2
        go_ret
        exact ⟨_, rfl_, by (with_reducible repeat (first | apply Kd.R_alloc | apply Kd.R_drewN | apply Kd.R_drew)); exact Kd.R_mono HO_5.out (fun _ hk => trivial), bel_⟩

end
section
/-! ### impl_PathLen: function 84 -/
def impl_PathLen.f (k : Nat) (a0 : Int) (a1 : Int) : Option (Int) := (impl_in.f a0 1 256).bind fun t711 => (if t711 = true then ((impl_in.f a1 0 (wrap64 (a0 - 1))).bind fun t712 => (if t712 = true then ((impl_way.f k a0 a1).bind fun t713 => (some (t713.length : Int))) else (some (-1)))) else (some (-1)))
theorem impl_PathLen.mono : ∀ a0 a1 k, LeO (impl_PathLen.f k a0 a1) (impl_PathLen.f (k + 1) a0 a1) := by
  intro a0 a1 k
  unfold impl_PathLen.f
  repeat' first | (with_reducible first | exact impl_way.mono _ _ _ | exact LeO.refl _ | exact LeO.none _ | refine LeO.ite ?_ ?_ | refine LeO.bind ?_ (fun _ => ?_)) | exact LeO.none _ | refine LeO.ite ?_ ?_ | refine LeO.bind ?_ (fun _ => ?_)
set_option maxHeartbeats 8000000 in
set_option maxRecDepth 100000 in
theorem impl_PathLen.calls (k : Nat) (a0 : Int) (a1 : Int) (r : Int) (w : World) (h : impl_PathLen.f k a0 a1 = some r) :
    Calls Try.prog 84 #[.int .i64 a0, .int .i64 a1] w fun e w' => e = .returned (.int .i64 r) ∧ Below w.heap.size w w' := by
  have HB := Aside0.mk (Below.refl w.heap.size w)
  have H : ((impl_in.f a0 1 256).bind fun t711 => (if t711 = true then ((impl_in.f a1 0 (wrap64 (a0 - 1))).bind fun t712 => (if t712 = true then ((impl_way.f k a0 a1).bind fun t713 => (some (t713.length : Int))) else (some (-1)))) else (some (-1)))) = some r := h
  clear h
  obtain ⟨t711, A3, H⟩ := bnd_ H
  by_cases c4 : t711 = true
  · subst c4
    rw [if_pos rfl] at H
    obtain ⟨t712, A5, H⟩ := bnd_ H
    by_cases c6 : t712 = true
    · subst c6
      rw [if_pos rfl] at H
      obtain ⟨t713, A7, H⟩ := bnd_ H
      obtain rfl := Option.some.inj H
      go_enter Try.func84, Try.ntmps84
      go_wp2_with (first | ((with_reducible refine gate_callee (f := 108) rfl ?_); refine goL_ (some 6) Try.func108 #[.int .i64 a0, .int .i64 1, .int .i64 256] ?_; (with_reducible refine (impl_in.calls a0 1 256 true _ A3.out).mono ?_); rintro e w' ⟨rfl, ⟨nd, rfl⟩⟩; refine ⟨_, rfl, ?_⟩) | (go_at_call 108; (with_reducible refine (impl_in.calls a1 0 (wrap64 (a0 - 1)) true _ A5.out).mono ?_); rintro e w' ⟨rfl, ⟨nd, rfl⟩⟩) | ((with_reducible refine gate_callee (f := 117) rfl ?_); refine goL_ (some 17) Try.func117 #[.int .i64 a0, .int .i64 a1] ?_; (with_reducible refine (impl_way.calls k a0 a1 t713 _ A7.out).mono ?_); rintro e w8 ⟨v714, rfl, ho0, hb⟩; refine ⟨_, rfl, ?_⟩; have HO715 := Aside0.mk (Kd.R_lower ho0 (below_size bel_)); replace HB := stepB_ hb; (try clear hb); (try clear ho0); obtain ⟨Ao9, co9, eo9⟩ := Kd.R_slice HO715.out; subst eo9))
      go_ret
      exact ⟨rfl_, bel_⟩
    · replace c6 := Bool.eq_false_iff.mpr c6
      subst c6
      rw [if_neg (show ¬ (false = true) by decide)] at H
      obtain rfl := Option.some.inj H
      go_enter Try.func84, Try.ntmps84
      go_wp2_with (first | ((with_reducible refine gate_callee (f := 108) rfl ?_); refine goL_ (some 6) Try.func108 #[.int .i64 a0, .int .i64 1, .int .i64 256] ?_; (with_reducible refine (impl_in.calls a0 1 256 true _ A3.out).mono ?_); rintro e w' ⟨rfl, ⟨nd, rfl⟩⟩; refine ⟨_, rfl, ?_⟩) | (go_at_call 108; (with_reducible refine (impl_in.calls a1 0 (wrap64 (a0 - 1)) false _ A5.out).mono ?_); rintro e w' ⟨rfl, ⟨nd, rfl⟩⟩))
      go_ret
      exact ⟨rfl_, bel_⟩
  · replace c4 := Bool.eq_false_iff.mpr c4
    subst c4
    rw [if_neg (show ¬ (false = true) by decide)] at H
    obtain rfl := Option.some.inj H
    go_enter Try.func84, Try.ntmps84
    go_wp2_with (first | ((with_reducible refine gate_callee (f := 108) rfl ?_); refine goL_ (some 6) Try.func108 #[.int .i64 a0, .int .i64 1, .int .i64 256] ?_; (with_reducible refine (impl_in.calls a0 1 256 false _ A3.out).mono ?_); rintro e w' ⟨rfl, ⟨nd, rfl⟩⟩; refine ⟨_, rfl, ?_⟩))
    go_ret
    exact ⟨rfl_, bel_⟩

end
end Go.Proofs.Ytemfciflhbhobaa.B
