/- What the Go functions (loop.example/belfry/impl.node).halves, loop.example/belfry/spec.l3Place, loop.example/belfry/spec.PathLen, loop.example/belfry/impl.way, loop.example/belfry/impl.PathLen do is what the Lean functions .f of their names here say; condition: .f gives an answer. (Written by the session's program pp.py over the kit's print; Lean checks it.) -/
import Derived.Test.YtflckegggopdnaaZLK
import Derived.Test.YtflckegggopdnaaZLM
import Derived.Test.YtflckegggopdnaaZLGSplit1
namespace Go.Proofs.Ytflckegggopdnaa.B
open Go.RowKit Go.Proofs.YtflckegggopdnaaW.PrintWords Go.Proofs.YtflckegggopdnaaW.PrintLast Go.Proofs.YtflckegggopdnaaW.PrintMore
attribute [local go_sem] max2_int min2_int max_two min_two max_three min_three max_four min_four
set_option linter.unusedVariables false
set_option linter.unusedSimpArgs false
section
def impl_node_halves.f (k : Nat) (a0_0 : Int) (a0_1 : Int) : Option (Int × Int × Int × Int) := (impl_TreeSplit.f k (wrap64 (a0_1 - a0_0))).bind fun t282 => (some (a0_0, wrap64 (a0_0 + t282), wrap64 (a0_0 + t282), a0_1))
def impl_node_halves.T1 : Bool × List (List Nat × List Nat) := (true, [([], []), ([0], [0]), ([], []), ([2], [2]), ([], []), ([4], [4]), ([3, 5], [3, 5]), ([6], [6]), ([1, 7], [1, 7]), ([8, 7, 0, 1, 2, 3, 4, 5, 6, 7, 8], [8])])
def impl_node_halves.B1 : List Nat := [0, 1, 0, 4, 0, 16, 60, 124, 255, 511]
theorem impl_node_halves.tab1 : rtab .any (opsOf Try.f77 1) = impl_node_halves.T1 := by kernel_rfl
theorem impl_node_halves.bits1 : waitsOk impl_node_halves.T1.2 impl_node_halves.B1 = true := by kernel_rfl
def impl_node_halves.T2 : Bool × List (List Nat × List Nat) := (true, [([], []), ([0], [0]), ([], []), ([1, 2], [1, 2]), ([], []), ([], []), ([5], [5]), ([4, 6], [4, 6]), ([3, 0, 1, 2, 3], [3]), ([7, 8, 0, 1, 2, 3, 4, 5, 6, 7, 8], [7])])
def impl_node_halves.B2 : List Nat := [0, 1, 0, 7, 0, 0, 32, 112, 15, 511]
theorem impl_node_halves.tab2 : rtab .any (opsOf Try.f77 2) = impl_node_halves.T2 := by kernel_rfl
theorem impl_node_halves.bits2 : waitsOk impl_node_halves.T2.2 impl_node_halves.B2 = true := by kernel_rfl
set_option maxHeartbeats 8000000 in
set_option maxRecDepth 100000 in
theorem impl_node_halves.calls (k : Nat) (a0_0 : Int) (a0_1 : Int) (r1 : Int) (r2 : Int) (r3 : Int) (r4 : Int) (w : World) (h : impl_node_halves.f k a0_0 a0_1 = some (r1, r2, r3, r4)) :
    Calls Try.prog 77 #[.agg #[.int .i64 a0_0, .int .i64 a0_1]] w fun e w' => e = .returned (.tuple #[.agg #[.int .i64 r1, .int .i64 r2], .agg #[.int .i64 r3, .int .i64 r4]]) ∧ Below w.heap.size w w' := by
  have hu100 := Try.underlying100
  have HB := Aside0.mk (Below.refl w.heap.size w)
  have H : ((impl_TreeSplit.f k (wrap64 (a0_1 - a0_0))).bind fun t282 => (some (a0_0, wrap64 (a0_0 + t282), wrap64 (a0_0 + t282), a0_1))) = some (r1, r2, r3, r4) := h
  clear h
  obtain ⟨t282, A2, H⟩ := bnd_ H
  simp only [Option.some.injEq, Prod.mk.injEq] at H
  obtain ⟨rfl, rfl, rfl, rfl⟩ := H
  go_enter Try.func77, Try.ntmps77
  try go_wp2_with (first | ((with_reducible refine gate_dst (N := 1) rfl ?_); refine boxE_ (cs := #[.int .i64 a0_0, .int .i64 a0_1]) (t := 100) ?_; intro gb279 hg w3 hbox hb; have BK279 := Aside0.mk (hbox); have GW279 := sizeB_ hg; have GE279 := sizeB_ hg; replace HB := stepB_ hb; clear hb hbox hg) | ((with_reducible refine gate_dst (N := 2) rfl ?_); refine boxE_ (cs := #[.int .i64 0, .int .i64 0]) (t := 100) ?_; intro gb280 hg w4 hbox hb; have BK280 := Aside0.mk (hbox); have GW280 := sizeB_ hg; have GE280 := sizeB_ hg; replace HB := stepB_ hb; have NB279_280 := neL_ BK279.out hg; have NB280_279 := neG_ BK279.out hg; replace BK279 := blkBel_ BK279.out hb; clear hb hbox hg) | ((with_reducible refine gate_dst (N := 3) rfl ?_); refine boxE_ (cs := #[.int .i64 0, .int .i64 0]) (t := 100) ?_; intro gb281 hg w5 hbox hb; have BK281 := Aside0.mk (hbox); have GW281 := sizeB_ hg; have GE281 := sizeB_ hg; replace HB := stepB_ hb; have NB279_281 := neL_ BK279.out hg; have NB281_279 := neG_ BK279.out hg; replace BK279 := blkBel_ BK279.out hb; have NB280_281 := neL_ BK280.out hg; have NB281_280 := neG_ BK280.out hg; replace BK280 := blkBel_ BK280.out hb; clear hb hbox hg))
  replace BK279 := Aside0.mk (blk_drew BK279.out)
  replace BK280 := Aside0.mk (blk_drew BK280.out)
  replace BK281 := Aside0.mk (blk_drew BK281.out)
  replace HB := Aside0.mk (below_drew1 HB.out)
  refine start_ (n := 10) (S := fun w' => w'.cell? ⟨gb279, 0, none⟩ = some (.int .i64 a0_0) ∧ w'.cell? ⟨gb279, 1, none⟩ = some (.int .i64 a0_1)) (ds := []) #[false, false, false, false, false, false, false, false, false, false] (by kernel_rfl) rfl rfl ⟨(blk_cell BK279.out 0).trans rfl, (blk_cell BK279.out 1).trans rfl⟩ (fun hHeld => ?_); refine with_tabW impl_node_halves.tab1 impl_node_halves.bits1 (fun HT_ HW_ => ?_)
  generalize w5.drew = w6 at BK279 BK280 BK281 HB hHeld ⊢
  refine pureP_ 0 (some 5) #[true, false, false, false, false, false, false, false, false, false] HT_ ?_
  refine pureP_ 2 (some 7) #[true, false, true, false, false, false, false, false, false, false] HT_ ?_
  refine pureP_ 4 (some 9) #[true, false, true, false, true, false, false, false, false, false] HT_ ?_
  refine takeP_ 1 (some 6) #[true, true, true, false, true, false, false, false, false, false] HT_ HW_ hHeld ?_
  refine takeP_ 3 (some 8) #[true, true, true, true, true, false, false, false, false, false] HT_ HW_ hHeld ?_
  refine takeP_ 5 (some 10) #[true, true, true, true, true, true, false, false, false, false] HT_ HW_ hHeld ?_
  refine pureP_ 6 (some 11) #[true, true, true, true, true, true, true, false, false, false] HT_ ?_
  refine oneP_ 7 (some 12) #[true, true, true, true, true, true, true, true, false, false] HT_ (fun K hK => ?_)
  refine goN_ Try.func109 #[.int .i64 (wrap64 (a0_1 - a0_0))] ?_
  with_reducible refine (impl_TreeSplit.calls k (wrap64 (a0_1 - a0_0)) t282 _ A2.out).mono ?_
  rintro e w' ⟨rfl, ⟨nd, rfl⟩⟩
  refine ⟨_, rfl, ?_⟩
  refine hK.out _ _ ⟨(blk_cell BK279.out 0).trans rfl, (blk_cell BK279.out 1).trans rfl⟩ (fun hHeld => ?_)
  clear hK K
  refine norm_ (a' := ?_) ?_ ?_
  rotate_left
  · show Act.put _ (some 12) _ = _
    simp only [Act.put, List.setIfInBounds_toArray, List.set_cons_zero, List.set_cons_succ, i64_w, i32_w]
    rfl
  refine pureP_ 8 (some 13) #[true, true, true, true, true, true, true, true, true, false] HT_ ?_
  refine pureP_ 9 (some 4) #[true, true, true, true, true, true, true, true, true, true] HT_ ?_
  refine done_ (done_of HT_.out (by kernel_rfl)) ?_
  try go_wp2
  (try (rw [drewN_self w6]; generalize hq_ : World.drewN w6 _ = w6; have n0_ : Aside0 (w6.heap[gb279]? = some (.cells #[.int .i64 a0_0, .int .i64 a0_1] 100 (0, 0))) := ⟨by rw [← hq_]; exact (blkU_ BK279.out)⟩; have n1_ : Aside0 (w6.heap[gb280]? = some (.cells #[.int .i64 0, .int .i64 0] 100 (0, 0))) := ⟨by rw [← hq_]; exact (blkU_ BK280.out)⟩; have n2_ : Aside0 (w6.heap[gb281]? = some (.cells #[.int .i64 0, .int .i64 0] 100 (0, 0))) := ⟨by rw [← hq_]; exact (blkU_ BK281.out)⟩; have n3_ : Aside0 (Below w.heap.size w w6) := ⟨by rw [← hq_]; exact bel_⟩; clear BK279 BK280 BK281 HB hq_; have BK279 := n0_; have BK280 := n1_; have BK281 := n2_; have HB := n3_; clear n0_ n1_ n2_ n3_))
  replace BK279 := Aside0.mk (blk_drew BK279.out)
  replace BK280 := Aside0.mk (blk_drew BK280.out)
  replace BK281 := Aside0.mk (blk_drew BK281.out)
  replace HB := Aside0.mk (below_drew1 HB.out)
  refine start_ (n := 10) (S := fun w' => w'.cell? ⟨gb279, 0, none⟩ = some (.int .i64 a0_0) ∧ w'.cell? ⟨gb279, 1, none⟩ = some (.int .i64 a0_1)) (ds := []) #[false, false, false, false, false, false, false, false, false, false] (by kernel_rfl) rfl rfl ⟨(blk_cell BK279.out 0).trans rfl, (blk_cell BK279.out 1).trans rfl⟩ (fun hHeld => ?_); refine with_tabW impl_node_halves.tab2 impl_node_halves.bits2 (fun HT_ HW_ => ?_)
  generalize w6.drew = w7 at BK279 BK280 BK281 HB hHeld ⊢
  refine pureP_ 0 (some 14) #[true, false, false, false, false, false, false, false, false, false] HT_ ?_
  refine pureP_ 2 (some 16) #[true, false, true, false, false, false, false, false, false, false] HT_ ?_
  refine pureP_ 4 (some 18) #[true, false, true, false, true, false, false, false, false, false] HT_ ?_
  refine pureP_ 5 (some 19) #[true, false, true, false, true, true, false, false, false, false] HT_ ?_
  refine takeP_ 1 (some 15) #[true, true, true, false, true, true, false, false, false, false] HT_ HW_ hHeld ?_
  refine pureP_ 3 (some 17) #[true, true, true, true, true, true, false, false, false, false] HT_ ?_
  refine takeP_ 6 (some 20) #[true, true, true, true, true, true, true, false, false, false] HT_ HW_ hHeld ?_
  refine pureP_ 7 (some 21) #[true, true, true, true, true, true, true, true, false, false] HT_ ?_
  refine oneP_ 8 none #[true, true, true, true, true, true, true, true, true, false] HT_ (fun K hK => ?_)
  have hs8 : w7.cell? ⟨gb280, 0, none⟩ = some (.int .i64 0) := (blk_cell BK280.out 0).trans rfl
  have hfs8 := blk_frozen BK280.out 0
  have hns8_0 := NB279_280.out
  have hns8_2 := NB281_280.out
  have hms8_0 := NB280_279.out
  have hms8_2 := NB280_281.out
  have hs9 : w7.cell? ⟨gb280, 1, none⟩ = some (.int .i64 0) := (blk_cell BK280.out 1).trans rfl
  have hfs9 := blk_frozen BK280.out 1
  have hns9_0 := NB279_280.out
  have hns9_2 := NB281_280.out
  have hms9_0 := NB280_279.out
  have hms9_2 := NB280_281.out
  refine skip_ (w1 := ?_) (by rfl) rfl ?_ ?_
  rotate_left
  · go_simp
    rfl
  refine hK.out _ _ ⟨((cell_far (p := ⟨gb280, _, none⟩) NB279_280.out _).trans (((cell_far (p := ⟨gb280, _, none⟩) NB279_280.out _).trans (hHeld.1)))), ((cell_far (p := ⟨gb280, _, none⟩) NB279_280.out _).trans (((cell_far (p := ⟨gb280, _, none⟩) NB279_280.out _).trans (hHeld.2))))⟩ (fun hHeld => ?_)
  clear hK K
  refine oneP_ 9 none #[true, true, true, true, true, true, true, true, true, true] HT_ (fun K hK => ?_)
  have hs10 : w7.cell? ⟨gb281, 0, none⟩ = some (.int .i64 0) := (blk_cell BK281.out 0).trans rfl
  have hfs10 := blk_frozen BK281.out 0
  have hns10_0 := NB279_281.out
  have hns10_1 := NB280_281.out
  have hms10_0 := NB281_279.out
  have hms10_1 := NB281_280.out
  have hs11 : w7.cell? ⟨gb281, 1, none⟩ = some (.int .i64 0) := (blk_cell BK281.out 1).trans rfl
  have hfs11 := blk_frozen BK281.out 1
  have hns11_0 := NB279_281.out
  have hns11_1 := NB280_281.out
  have hms11_0 := NB281_279.out
  have hms11_1 := NB281_280.out
  refine skip_ (w1 := ?_) (by rfl) rfl ?_ ?_
  rotate_left
  · go_simp
    rfl
  refine hK.out _ _ ⟨((cell_far (p := ⟨gb281, _, none⟩) NB279_281.out _).trans (((cell_far (p := ⟨gb281, _, none⟩) NB279_281.out _).trans (hHeld.1)))), ((cell_far (p := ⟨gb281, _, none⟩) NB279_281.out _).trans (((cell_far (p := ⟨gb281, _, none⟩) NB279_281.out _).trans (hHeld.2))))⟩ (fun hHeld => ?_)
  clear hK K
  refine done_ (done_of HT_.out (by kernel_rfl)) ?_
  try go_wp2
  refine bodyPost_ret (results_cc rfl _ _ gb280 gb281 100 100 #[.int .i64 a0_0, .int .i64 (wrap64 (a0_0 + t282))] #[.int .i64 (wrap64 (a0_0 + t282)), .int .i64 a0_1] (0, 0) (0, 0) _ _ rfl (blkF_ BK280.out) Try.underlying100 rfl (by kernel_rfl) rfl (blkF_ BK281.out) Try.underlying100 rfl (by kernel_rfl)) rfl ?_
  exact ⟨rfl_, bel_⟩
end
section
def spec_l3Place.f (a0 : Int) (a1 : Int) : Option (Bool) := (spec_l1In.f a0 1 256).bind fun t553 => (if t553 = true then ((spec_l1In.f a1 0 (wrap64 (a0 - 1))).bind fun t554 => (some t554)) else (some false))
set_option maxHeartbeats 8000000 in
set_option maxRecDepth 100000 in
theorem spec_l3Place.calls (a0 : Int) (a1 : Int) (r : Bool) (w : World) (h : spec_l3Place.f a0 a1 = some r) :
    Calls Try.prog 79 #[.int .i64 a0, .int .i64 a1] w fun e w' => e = .returned (.bool r) ∧ Drawn0 w w' := by
  have H : ((spec_l1In.f a0 1 256).bind fun t553 => (if t553 = true then ((spec_l1In.f a1 0 (wrap64 (a0 - 1))).bind fun t554 => (some t554)) else (some false))) = some r := h
  clear h
  obtain ⟨t553, A3, H⟩ := bnd_ H
  by_cases c4 : t553 = true
  · subst c4
    rw [if_pos rfl] at H
    obtain ⟨t554, A5, H⟩ := bnd_ H
    obtain rfl := Option.some.inj H
    go_enter Try.func79, Try.ntmps79
    go_wp2_with (first | ((with_reducible refine gate_callee (f := 94) rfl ?_); refine goL_ (some 6) Try.func94 #[.int .i64 a0, .int .i64 1, .int .i64 256] ?_; (with_reducible refine (spec_l1In.calls a0 1 256 true _ A3.out).mono ?_); rintro e w' ⟨rfl, ⟨nd, rfl⟩⟩; refine ⟨_, rfl, ?_⟩) | (go_at_call 94; (with_reducible refine (spec_l1In.calls a1 0 (wrap64 (a0 - 1)) t554 _ A5.out).mono ?_); rintro e w' ⟨rfl, ⟨nd, rfl⟩⟩))
    go_ret
    exact ⟨by first | rfl | (simp; done) | (simp [*]; done), by repeat (first | exact Drawn0.refl _ | apply Drawn0.step)⟩
  · replace c4 := Bool.eq_false_iff.mpr c4
    subst c4
    rw [if_neg (show ¬ (false = true) by decide)] at H
    obtain rfl := Option.some.inj H
    go_enter Try.func79, Try.ntmps79
    go_wp2_with (first | ((with_reducible refine gate_callee (f := 94) rfl ?_); refine goL_ (some 6) Try.func94 #[.int .i64 a0, .int .i64 1, .int .i64 256] ?_; (with_reducible refine (spec_l1In.calls a0 1 256 false _ A3.out).mono ?_); rintro e w' ⟨rfl, ⟨nd, rfl⟩⟩; refine ⟨_, rfl, ?_⟩))
    go_ret
    exact ⟨by first | rfl | (simp; done) | (simp [*]; done), by repeat (first | exact Drawn0.refl _ | apply Drawn0.step)⟩
end
section
def impl_way.l0 : Nat → Int → List (S100) → Int → Int → Option ((List (S100)))
  | 0, _, _, _, _ => none
  | k + 1, x1, x5, x765000, x765001 => if (wrap64 (x765001 - x765000)) > 1 then (if x5.length < 8796093022208 then ((some (x5 ++ [(⟨x765000, x765001⟩ : S100)] : List (S100))).bind fun y765 => ((impl_node_halves.f k x765000 x765001).bind fun bt768 => (if x1 < bt768.2.1 then (impl_way.l0 k x1 y765 bt768.1 bt768.2.1) else (impl_way.l0 k x1 y765 bt768.2.2.1 bt768.2.2.2)))) else (none)) else (some x5)
def impl_way.f (k : Nat) (a0 : Int) (a1 : Int) : Option ((List (S100))) := impl_way.l0 k a1 ([] : List (S100)) 0 a0
set_option maxHeartbeats 8000000 in
set_option maxRecDepth 100000 in
theorem impl_way.calls (k : Nat) (a0 : Int) (a1 : Int) (r : List (S100)) (w : World) (h : impl_way.f k a0 a1 = some r) :
    Calls Try.prog 76 #[.int .i64 a0, .int .i64 a1] w fun e w' => ∃ v0_ : Value, e = .returned (v0_) ∧ Kd.R k100 100 w' w.heap.size (fun _ => True) v0_ r ∧ Below w.heap.size w w' := by
  have hu100 := Try.underlying100
  have HB := Aside0.mk (Below.refl w.heap.size w)
  have H : (impl_way.l0 k a1 ([] : List (S100)) 0 a0) = some r := h
  clear h
  have H' := Aside0.mk H
  clear H
  go_enter Try.func76, Try.ntmps76
  go_wp2_with (first | ((with_reducible refine gate_dst (N := 6) rfl ?_); refine boxE_ (cs := #[.int .i64 0, .int .i64 0]) (t := 100) ?_; intro gb764 hg w3 hbox hb; have BK764 := Aside0.mk (hbox); have GW764 := sizeB_ hg; have GE764 := sizeB_ hg; replace HB := stepB_ hb; clear hb hbox hg; obtain ⟨hcz4_0, hcz4_1, hfz4_0, hfz4_1⟩ := cz2_ BK764.out))
  go_loopg [5] k (fun kq v5 w' => ∃ (x5_1 : List (S100)) (x765000_1 : Int) (x765001_1 : Int), Aside0 (impl_way.l0 kq a1 x5_1 x765000_1 x765001_1 = some r) ∧ Aside0 (kq ≤ k) ∧ Aside0 (Kd.R k100 100 w' w.heap.size (fun k_ => k_ ≠ gb764) v5 x5_1) ∧ Aside0 (w'.heap[gb764]? = some (.cells #[.int .i64 x765000_1, .int .i64 x765001_1] 100 (0, 0))) ∧ Aside0 (Below w.heap.size w w'))
  case atStart => exact ⟨(([] : List (S100))), (0), (a0), H', ⟨Nat.le_refl _⟩, ⟨by first | exact Kd.R_nil _ _ _ _ _ | exact Kd.N_nil _ _ _ _ _ | exact Kd.V_nil _ _ _ _ _ | exact Kd.Q_nil _ _ _ _ _ | exact Kd.S_nil _ _ _ _ _⟩, ⟨blkF_ BK764.out⟩, ⟨bel_⟩⟩
  case round =>
    clear H'
    (try clear hcz4_0); (try clear hcz4_1); (try clear hfz4_0); (try clear hfz4_1)
    obtain ⟨x5_1, x765000_1, x765001_1, HA, HK1, HO_5, BK764, HB⟩ := hrel
    cases gk with
    | zero => exact absurd HA.out (by simp [impl_way.l0])
    | succ k1 =>
      have H := HA.out
      clear HA
      simp only [impl_way.l0] at H
      by_cases c5 : (wrap64 (x765001_1 - x765000_1)) > 1
      · rw [if_pos c5] at H
        have c5b0 : decide (1 < (wrap64 (x765001_1 - x765000_1))) = true := decide_eq_true c5
        clear c5
        by_cases c6 : x5_1.length < 8796093022208
        · rw [if_pos c6] at H
          have LMc6 := Aside0.mk c6
          clear c6
          obtain ⟨y765, hy765⟩ : ∃ y_ : List (S100), y_ = (x5_1 ++ [(⟨x765000_1, x765001_1⟩ : S100)]) := ⟨_, rfl⟩
          replace H : ((impl_node_halves.f k1 x765000_1 x765001_1).bind fun bt768 => (if a1 < bt768.2.1 then (impl_way.l0 k1 a1 y765 bt768.1 bt768.2.1) else (impl_way.l0 k1 a1 y765 bt768.2.2.1 bt768.2.2.2))) = some r := by first | (rw [hy765]; with_reducible exact H) | (have H2_ := (Option.bind_some _ _).symm.trans H; rw [hy765]; with_reducible exact H2_) | (have H2_ := (Option.bind_some _ _).symm.trans H; with_reducible exact H2_) | with_reducible exact H | (rw [hy765]; exact H) | exact H
          have Ny765 := Aside0.mk hy765
          clear hy765
          obtain ⟨⟨t768, t769, t770, t771⟩, A7, H⟩ := bnd_ H
          dsimp only at H
          by_cases c8 : a1 < t769
          · rw [if_pos c8] at H
            have c8b0 : decide (a1 < t769) = true := decide_eq_true c8
            clear c8
            have H' := Aside0.mk H
            clear H
            obtain ⟨hcz9_0, hcz9_1, hfz9_0, hfz9_1⟩ := cz2_ BK764.out
            go_wp2_with (first | ((with_reducible refine gate_builtin (b := .append) (xs := #[.tmp 17, .tmp 19]) rfl ?_); at_builtin; refine Kd.R_append k100 (w0 := w) w.heap.size rfl (.tmp 17) (.tmp 19) 96 100 (.agg #[(.int .i64 0), (.int .i64 0)]) 16 rfl Try.underlying96 info100 rfl (by decide) (by omega) u5 x5_1 (⟨x765000_1, x765001_1⟩ : S100) [.int .i64 x765000_1, .int .i64 x765001_1] (fun k_ => k_ ≠ gb764) (fun _ => False) rfl rfl ?aP (fun _ hk => hk.elim) ?aF ?aO ?aB ?aS ?aL ?_; (case aP => exact k100_mkM _ _ _ (⟨x765000_1, x765001_1⟩ : S100)); (case aB => exact bel_); (case aF => exact (fun k_ hk => Kd.freshB (g := gb764) (o := .cells #[.int .i64 x765000_1, .int .i64 x765001_1] 100 (0, 0)) (blkU_ BK764.out) k_ hk)); (case aO => exact (kdU_ HO_5.out)); (case aS => exact (below_size bel_)); (case aL => have := LMc6.out; omega); intro v766 w10 ho hb hg hat; rw [← Ny765.out] at ho; replace BK764 := Aside0.mk (blk_grown (g := gb764) (o := .cells #[.int .i64 x765000_1, .int .i64 x765001_1] 100 (0, 0)) (blkU_ BK764.out) hg (Kd.R_away HO_5.out (fun _ hk => hk))); replace HB := Aside0.mk (hb); have HO767 := Aside0.mk (ho); clear HO_5; clear ho hb hg hat; obtain ⟨hcz11_0, hcz11_1, hfz11_0, hfz11_1⟩ := cz2_ BK764.out) | ((with_reducible refine gate_callee (f := 77) rfl ?_); refine goL_ (some 23) Try.func77 #[.agg #[.int .i64 x765000_1, .int .i64 x765001_1]] ?_; (with_reducible refine (impl_node_halves.calls k1 x765000_1 x765001_1 t768 t769 t770 t771 _ A7.out).mono ?_); rintro e w12 ⟨rfl, hb⟩; refine ⟨_, rfl, ?_⟩; replace HO767 := Aside0.mk (Kd.R_below (kdU_ HO767.out) hb); replace BK764 := blkBel_ BK764.out hb; replace HB := stepB_ hb; (try clear hb); (try clear hk)) | ((with_reducible refine gate_dst (N := 7) rfl ?_); refine boxE_ (cs := #[.int .i64 0, .int .i64 0]) (t := 100) ?_; intro gb772 hg w13 hbox hb; replace HO767 := Aside0.mk (Kd.R_below (Kd.R_elderB (kdU_ HO767.out) gb772 (Nat.le_of_eq hg.symm)) hb); have BK772 := Aside0.mk (hbox); have GW772 := sizeB_ hg; have GE772 := sizeB_ hg; replace HB := stepB_ hb; have NB764_772 := neL_ BK764.out hg; have NB772_764 := neG_ BK764.out hg; replace BK764 := blkBel_ BK764.out hb; clear hb hbox hg) | ((with_reducible refine gate_dst (N := 8) rfl ?_); refine boxE_ (cs := #[.int .i64 0, .int .i64 0]) (t := 100) ?_; intro gb773 hg w14 hbox hb; replace HO767 := Aside0.mk (Kd.R_below (Kd.R_elderB (kdU_ HO767.out) gb773 (Nat.le_of_eq hg.symm)) hb); have BK773 := Aside0.mk (hbox); have GW773 := sizeB_ hg; have GE773 := sizeB_ hg; replace HB := stepB_ hb; have NB764_773 := neL_ BK764.out hg; have NB773_764 := neG_ BK764.out hg; replace BK764 := blkBel_ BK764.out hb; have NB772_773 := neL_ BK772.out hg; have NB773_772 := neG_ BK772.out hg; replace BK772 := blkBel_ BK772.out hb; clear hb hbox hg; have hnb15 := NB772_764.out; have hnc15 := NB764_772.out; have hnb16 := NB772_773.out; have hnc16 := NB773_772.out; obtain ⟨hcz17_0, hcz17_1, hfz17_0, hfz17_1⟩ := cz2_ BK772.out; have hnb18 := NB773_764.out; have hnc18 := NB764_773.out; obtain ⟨hcz19_0, hcz19_1, hfz19_0, hfz19_1⟩ := cz2_ BK773.out; obtain ⟨hcz20_0, hcz20_1, hfz20_0, hfz20_1⟩ := cz2_ BK764.out))
            go_roundg k1
            case measure => have := HK1.out; omega
            case rel => exact ⟨(y765), (t768), (t769), H', ⟨by have := HK1.out; omega⟩, ⟨by (with_reducible repeat (first | apply Kd.R_alloc | apply Kd.R_drewN | apply Kd.R_drew)); exact Kd.R_mono (Kd.R_far (p := ⟨gb764, 1, none⟩) (Kd.R_far (p := ⟨gb764, 0, none⟩) (Kd.R_far (p := ⟨gb764, 1, none⟩) (Kd.R_far (p := ⟨gb764, 0, none⟩) (Kd.R_far (p := ⟨gb773, 1, none⟩) (Kd.R_far (p := ⟨gb773, 0, none⟩) (Kd.R_far (p := ⟨gb772, 1, none⟩) (Kd.R_far (p := ⟨gb772, 0, none⟩) (Kd.R_mono (Kd.R_mono (Kd.R_mono HO767.out (fun k_ hk => (⟨hk, hk.1.2⟩ : _ ∧ k_ ≠ gb772))) (fun k_ hk => (⟨hk, hk.1.2⟩ : _ ∧ k_ ≠ gb773))) (fun k_ hk => (⟨hk, hk.1.1.1.1⟩ : _ ∧ k_ ≠ gb764))) (fun _ hk => hk.1.1.2) (.int .i64 t768)) (fun _ hk => hk.1.1.2) (.int .i64 t769)) (fun _ hk => hk.1.2) (.int .i64 t770)) (fun _ hk => hk.1.2) (.int .i64 t771)) (fun _ hk => hk.2) (.int .i64 t770)) (fun _ hk => hk.2) (.int .i64 t771)) (fun _ hk => hk.2) (.int .i64 t768)) (fun _ hk => hk.2) (.int .i64 t769)) (fun _ hk => hk.1.1.1.1.1)⟩, ⟨blkF_ BK764.out⟩, ⟨bel_⟩⟩
          · rw [if_neg c8] at H
            have c8b0 : decide (a1 < t769) = false := decide_eq_false c8
            clear c8
            have H' := Aside0.mk H
            clear H
            obtain ⟨hcz21_0, hcz21_1, hfz21_0, hfz21_1⟩ := cz2_ BK764.out
            go_wp2_with (first | ((with_reducible refine gate_builtin (b := .append) (xs := #[.tmp 17, .tmp 19]) rfl ?_); at_builtin; refine Kd.R_append k100 (w0 := w) w.heap.size rfl (.tmp 17) (.tmp 19) 96 100 (.agg #[(.int .i64 0), (.int .i64 0)]) 16 rfl Try.underlying96 info100 rfl (by decide) (by omega) u5 x5_1 (⟨x765000_1, x765001_1⟩ : S100) [.int .i64 x765000_1, .int .i64 x765001_1] (fun k_ => k_ ≠ gb764) (fun _ => False) rfl rfl ?aP (fun _ hk => hk.elim) ?aF ?aO ?aB ?aS ?aL ?_; (case aP => exact k100_mkM _ _ _ (⟨x765000_1, x765001_1⟩ : S100)); (case aB => exact bel_); (case aF => exact (fun k_ hk => Kd.freshB (g := gb764) (o := .cells #[.int .i64 x765000_1, .int .i64 x765001_1] 100 (0, 0)) (blkU_ BK764.out) k_ hk)); (case aO => exact (kdU_ HO_5.out)); (case aS => exact (below_size bel_)); (case aL => have := LMc6.out; omega); intro v766 w22 ho hb hg hat; rw [← Ny765.out] at ho; replace BK764 := Aside0.mk (blk_grown (g := gb764) (o := .cells #[.int .i64 x765000_1, .int .i64 x765001_1] 100 (0, 0)) (blkU_ BK764.out) hg (Kd.R_away HO_5.out (fun _ hk => hk))); replace HB := Aside0.mk (hb); have HO767 := Aside0.mk (ho); clear HO_5; clear ho hb hg hat; obtain ⟨hcz23_0, hcz23_1, hfz23_0, hfz23_1⟩ := cz2_ BK764.out) | ((with_reducible refine gate_callee (f := 77) rfl ?_); refine goL_ (some 23) Try.func77 #[.agg #[.int .i64 x765000_1, .int .i64 x765001_1]] ?_; (with_reducible refine (impl_node_halves.calls k1 x765000_1 x765001_1 t768 t769 t770 t771 _ A7.out).mono ?_); rintro e w24 ⟨rfl, hb⟩; refine ⟨_, rfl, ?_⟩; replace HO767 := Aside0.mk (Kd.R_below (kdU_ HO767.out) hb); replace BK764 := blkBel_ BK764.out hb; replace HB := stepB_ hb; (try clear hb); (try clear hk)) | ((with_reducible refine gate_dst (N := 7) rfl ?_); refine boxE_ (cs := #[.int .i64 0, .int .i64 0]) (t := 100) ?_; intro gb772 hg w25 hbox hb; replace HO767 := Aside0.mk (Kd.R_below (Kd.R_elderB (kdU_ HO767.out) gb772 (Nat.le_of_eq hg.symm)) hb); have BK772 := Aside0.mk (hbox); have GW772 := sizeB_ hg; have GE772 := sizeB_ hg; replace HB := stepB_ hb; have NB764_772 := neL_ BK764.out hg; have NB772_764 := neG_ BK764.out hg; replace BK764 := blkBel_ BK764.out hb; clear hb hbox hg) | ((with_reducible refine gate_dst (N := 8) rfl ?_); refine boxE_ (cs := #[.int .i64 0, .int .i64 0]) (t := 100) ?_; intro gb773 hg w26 hbox hb; replace HO767 := Aside0.mk (Kd.R_below (Kd.R_elderB (kdU_ HO767.out) gb773 (Nat.le_of_eq hg.symm)) hb); have BK773 := Aside0.mk (hbox); have GW773 := sizeB_ hg; have GE773 := sizeB_ hg; replace HB := stepB_ hb; have NB764_773 := neL_ BK764.out hg; have NB773_764 := neG_ BK764.out hg; replace BK764 := blkBel_ BK764.out hb; have NB772_773 := neL_ BK772.out hg; have NB773_772 := neG_ BK772.out hg; replace BK772 := blkBel_ BK772.out hb; clear hb hbox hg; have hnb27 := NB772_764.out; have hnc27 := NB764_772.out; have hnb28 := NB772_773.out; have hnc28 := NB773_772.out; obtain ⟨hcz29_0, hcz29_1, hfz29_0, hfz29_1⟩ := cz2_ BK772.out; have hnb30 := NB773_764.out; have hnc30 := NB764_773.out; obtain ⟨hcz31_0, hcz31_1, hfz31_0, hfz31_1⟩ := cz2_ BK773.out; obtain ⟨hcz32_0, hcz32_1, hfz32_0, hfz32_1⟩ := cz2_ BK764.out))
            go_roundg k1
            case measure => have := HK1.out; omega
            case rel => exact ⟨(y765), (t770), (t771), H', ⟨by have := HK1.out; omega⟩, ⟨by (with_reducible repeat (first | apply Kd.R_alloc | apply Kd.R_drewN | apply Kd.R_drew)); exact Kd.R_mono (Kd.R_far (p := ⟨gb764, 1, none⟩) (Kd.R_far (p := ⟨gb764, 0, none⟩) (Kd.R_far (p := ⟨gb773, 1, none⟩) (Kd.R_far (p := ⟨gb773, 0, none⟩) (Kd.R_far (p := ⟨gb772, 1, none⟩) (Kd.R_far (p := ⟨gb772, 0, none⟩) (Kd.R_mono (Kd.R_mono (Kd.R_mono HO767.out (fun k_ hk => (⟨hk, hk.1.2⟩ : _ ∧ k_ ≠ gb772))) (fun k_ hk => (⟨hk, hk.1.2⟩ : _ ∧ k_ ≠ gb773))) (fun k_ hk => (⟨hk, hk.1.1.1.1⟩ : _ ∧ k_ ≠ gb764))) (fun _ hk => hk.1.1.2) (.int .i64 t768)) (fun _ hk => hk.1.1.2) (.int .i64 t769)) (fun _ hk => hk.1.2) (.int .i64 t770)) (fun _ hk => hk.1.2) (.int .i64 t771)) (fun _ hk => hk.2) (.int .i64 t770)) (fun _ hk => hk.2) (.int .i64 t771)) (fun _ hk => hk.1.1.1.1.1)⟩, ⟨blkF_ BK764.out⟩, ⟨bel_⟩⟩
        · rw [if_neg c6] at H
          exact absurd H (by simp)
      · rw [if_neg c5] at H
        have c5b0 : decide (1 < (wrap64 (x765001_1 - x765000_1))) = false := decide_eq_false c5
        clear c5
        obtain rfl := Option.some.inj H
        obtain ⟨hcz33_0, hcz33_1, hfz33_0, hfz33_1⟩ := cz2_ BK764.out
        go_wp2
        go_ret
        exact ⟨_, rfl_, by (with_reducible repeat (first | apply Kd.R_alloc | apply Kd.R_drewN | apply Kd.R_drew)); exact Kd.R_mono HO_5.out (fun _ hk => trivial), bel_⟩
end
section
def impl_PathLen.f (k : Nat) (a0 : Int) (a1 : Int) : Option (Int) := (impl_in.f a0 1 256).bind fun t774 => (if t774 = true then ((impl_in.f a1 0 (wrap64 (a0 - 1))).bind fun t775 => (if t775 = true then ((impl_way.f k a0 a1).bind fun t776 => (some (t776.length : Int))) else (some (-1)))) else (some (-1)))
set_option maxHeartbeats 8000000 in
set_option maxRecDepth 100000 in
theorem impl_PathLen.calls (k : Nat) (a0 : Int) (a1 : Int) (r : Int) (w : World) (h : impl_PathLen.f k a0 a1 = some r) :
    Calls Try.prog 78 #[.int .i64 a0, .int .i64 a1] w fun e w' => e = .returned (.int .i64 r) ∧ Below w.heap.size w w' := by
  have HB := Aside0.mk (Below.refl w.heap.size w)
  have H : ((impl_in.f a0 1 256).bind fun t774 => (if t774 = true then ((impl_in.f a1 0 (wrap64 (a0 - 1))).bind fun t775 => (if t775 = true then ((impl_way.f k a0 a1).bind fun t776 => (some (t776.length : Int))) else (some (-1)))) else (some (-1)))) = some r := h
  clear h
  obtain ⟨t774, A3, H⟩ := bnd_ H
  by_cases c4 : t774 = true
  · subst c4
    rw [if_pos rfl] at H
    obtain ⟨t775, A5, H⟩ := bnd_ H
    by_cases c6 : t775 = true
    · subst c6
      rw [if_pos rfl] at H
      obtain ⟨t776, A7, H⟩ := bnd_ H
      obtain rfl := Option.some.inj H
      go_enter Try.func78, Try.ntmps78
      go_wp2_with (first | ((with_reducible refine gate_callee (f := 75) rfl ?_); refine goL_ (some 6) Try.func75 #[.int .i64 a0, .int .i64 1, .int .i64 256] ?_; (with_reducible refine (impl_in.calls a0 1 256 true _ A3.out).mono ?_); rintro e w' ⟨rfl, ⟨nd, rfl⟩⟩; refine ⟨_, rfl, ?_⟩) | (go_at_call 75; (with_reducible refine (impl_in.calls a1 0 (wrap64 (a0 - 1)) true _ A5.out).mono ?_); rintro e w' ⟨rfl, ⟨nd, rfl⟩⟩) | ((with_reducible refine gate_callee (f := 76) rfl ?_); refine goL_ (some 17) Try.func76 #[.int .i64 a0, .int .i64 a1] ?_; (with_reducible refine (impl_way.calls k a0 a1 t776 _ A7.out).mono ?_); rintro e w8 ⟨v777, rfl, ho0, hb⟩; refine ⟨_, rfl, ?_⟩; have HO778 := Aside0.mk (Kd.R_lower ho0 (below_size bel_)); replace HB := stepB_ hb; (try clear hb); (try clear ho0); obtain ⟨Ao9, co9, eo9⟩ := Kd.R_slice HO778.out; subst eo9))
      go_ret
      exact ⟨rfl_, bel_⟩
    · replace c6 := Bool.eq_false_iff.mpr c6
      subst c6
      rw [if_neg (show ¬ (false = true) by decide)] at H
      obtain rfl := Option.some.inj H
      go_enter Try.func78, Try.ntmps78
      go_wp2_with (first | ((with_reducible refine gate_callee (f := 75) rfl ?_); refine goL_ (some 6) Try.func75 #[.int .i64 a0, .int .i64 1, .int .i64 256] ?_; (with_reducible refine (impl_in.calls a0 1 256 true _ A3.out).mono ?_); rintro e w' ⟨rfl, ⟨nd, rfl⟩⟩; refine ⟨_, rfl, ?_⟩) | (go_at_call 75; (with_reducible refine (impl_in.calls a1 0 (wrap64 (a0 - 1)) false _ A5.out).mono ?_); rintro e w' ⟨rfl, ⟨nd, rfl⟩⟩))
      go_ret
      exact ⟨rfl_, bel_⟩
  · replace c4 := Bool.eq_false_iff.mpr c4
    subst c4
    rw [if_neg (show ¬ (false = true) by decide)] at H
    obtain rfl := Option.some.inj H
    go_enter Try.func78, Try.ntmps78
    go_wp2_with (first | ((with_reducible refine gate_callee (f := 75) rfl ?_); refine goL_ (some 6) Try.func75 #[.int .i64 a0, .int .i64 1, .int .i64 256] ?_; (with_reducible refine (impl_in.calls a0 1 256 false _ A3.out).mono ?_); rintro e w' ⟨rfl, ⟨nd, rfl⟩⟩; refine ⟨_, rfl, ?_⟩))
    go_ret
    exact ⟨rfl_, bel_⟩
end
end Go.Proofs.Ytflckegggopdnaa.B
