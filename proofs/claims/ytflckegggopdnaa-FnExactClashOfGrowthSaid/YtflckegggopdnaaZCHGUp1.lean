/- What the Go functions of these names do; condition: .f gives an answer. -/
import Derived.Test.YtflckegggopdnaaZCHP0
import Derived.Test.YtflckegggopdnaaZCHP9
import Derived.Test.YtflckegggopdnaaZCHP2
import Derived.Test.YtflckegggopdnaaZCHP4
namespace Go.Proofs.Ytflckegggopdnaa.B
open Go.RowKit Go.Proofs.YtflckegggopdnaaW.PrintWords Go.Proofs.YtflckegggopdnaaW.PrintLast Go.Proofs.YtflckegggopdnaaW.PrintMore
attribute [local go_sem] max2_int min2_int max_two min_two max_three min_three max_four min_four
set_option linter.unusedVariables false
set_option maxHeartbeats 8000000
set_option maxRecDepth 100000
set_option linter.unusedSimpArgs false
section
def spec_l3Up.f : Nat → Int → Int → Int → Int → Int → Int → List (S29) → Option (Int × Int × Int × Int)
 | 0, _, _, _, _, _, _, _ => none
 | k + 1, a0, a1, a2_0, a2_1, a2_2, a2_3, l3 => if a0 < 2 then (some (a2_0, a2_1, a2_2, a2_3)) else ((spec_TreeSplit.f k a0).bind fun t620 => (if 0 ≤ (wrap64 ((l3.length : Int) - 1)) then (if (wrap64 ((l3.length : Int) - 1)) < (l3.length : Int) then (if (wrap64 ((l3.length : Int) - 1)) ≤ (l3.length : Int) then ((some (l3.take ((wrap64 ((l3.length : Int) - 1)) : Int).toNat : List (S29))).bind fun y623 => (if a1 < t620 then ((spec_l3Up.f k t620 a1 a2_0 a2_1 a2_2 a2_3 y623).bind fun bt627 => ((spec_HashPair.f k bt627.1 bt627.2.1 bt627.2.2.1 bt627.2.2.2 ((rd_T29 l3 (wrap64 ((l3.length : Int) - 1))).f0) ((rd_T29 l3 (wrap64 ((l3.length : Int) - 1))).f1) ((rd_T29 l3 (wrap64 ((l3.length : Int) - 1))).f2) ((rd_T29 l3 (wrap64 ((l3.length : Int) - 1))).f3)).bind fun bt631 => (some (bt631.1, bt631.2.1, bt631.2.2.1, bt631.2.2.2)))) else ((spec_l3Up.f k (wrap64 (a0 - t620)) (wrap64 (a1 - t620)) a2_0 a2_1 a2_2 a2_3 y623).bind fun bt635 => ((spec_HashPair.f k ((rd_T29 l3 (wrap64 ((l3.length : Int) - 1))).f0) ((rd_T29 l3 (wrap64 ((l3.length : Int) - 1))).f1) ((rd_T29 l3 (wrap64 ((l3.length : Int) - 1))).f2) ((rd_T29 l3 (wrap64 ((l3.length : Int) - 1))).f3) bt635.1 bt635.2.1 bt635.2.2.1 bt635.2.2.2).bind fun bt639 => (some (bt639.1, bt639.2.1, bt639.2.2.1, bt639.2.2.2)))))) else (none)) else (none)) else (none)))
def spec_l3Up.T7 : Bool × List (List Nat × List Nat) := (true, [([], []), ([], []), ([], []), ([], []), ([0, 1, 2, 3], [0, 1, 2, 3]), ([], []), ([4, 5, 4], [4, 5]), ([6, 6, 0, 1, 2, 3, 4, 5, 6], [6])])
def spec_l3Up.B7 : List Nat := [0, 0, 0, 0, 15, 0, 63, 127]
theorem spec_l3Up.tab7 : rtab .any (opsOf Try.f91 7) = spec_l3Up.T7 := by kernel_rfl
theorem spec_l3Up.bits7 : waitsOk spec_l3Up.T7.2 spec_l3Up.B7 = true := by kernel_rfl
def spec_l3Up.T8 : Bool × List (List Nat × List Nat) := (true, [([], []), ([], []), ([], []), ([1, 2], [1, 2]), ([], []), ([], []), ([4, 5], [4, 5]), ([], []), ([], []), ([3, 6, 7, 8], [3, 6, 7, 8]), ([0, 9, 9], [0, 9]), ([10, 10, 0, 1, 2, 3, 4, 5, 6, 7, 8, 9, 10], [10])])
def spec_l3Up.B8 : List Nat := [0, 0, 0, 6, 0, 0, 48, 0, 0, 510, 1023, 2047]
theorem spec_l3Up.tab8 : rtab .any (opsOf Try.f91 8) = spec_l3Up.T8 := by kernel_rfl
theorem spec_l3Up.bits8 : waitsOk spec_l3Up.T8.2 spec_l3Up.B8 = true := by kernel_rfl
theorem spec_l3Up.calls (k : Nat) : ∀ (a0 a1 : Int) (a2_0 a2_1 : Int) (a2_2 a2_3 : Int) (A3 : Option Addr) (c3 : Nat) (l3 : List (S29)) (r1 r2 : Int) (r3 r4 : Int) (w : World) (hr3 : Kd.C k29 w A3 l3.length l3) (hc3 : l3.length ≤ c3) (h : spec_l3Up.f k a0 a1 a2_0 a2_1 a2_2 a2_3 l3 = some (r1, r2, r3, r4)),
  Calls Try.prog 91 #[.int .i64 a0, .int .i64 a1, .agg #[.int .u64 a2_0, .int .u64 a2_1, .int .u64 a2_2, .int .u64 a2_3], .slice A3 l3.length c3] w fun e w' => e = .returned (.agg #[.int .u64 r1, .int .u64 r2, .int .u64 r3, .int .u64 r4]) ∧ Below w.heap.size w w' := by
 induction k using Nat.strongRecOn with
 | _ k ih =>
 intro a0 a1 a2_0 a2_1 a2_2 a2_3 A3 c3 l3 r1 r2 r3 r4 w hr3 hc3 h
 cases k with
 | zero => exact absurd h (by simp [spec_l3Up.f])
 | succ k =>
 simp only [spec_l3Up.f] at h
 have hu29 := Try.underlying29
 have HR3 := Aside0.mk hr3
 have HC3 := Aside0.mk hc3
 clear hr3 hc3
 have HB := a_ (Below.refl w.heap.size w)
 have H : (if a0 < 2 then (some (a2_0, a2_1, a2_2, a2_3)) else ((spec_TreeSplit.f k a0).bind fun t620 => (if 0 ≤ (wrap64 ((l3.length : Int) - 1)) then (if (wrap64 ((l3.length : Int) - 1)) < (l3.length : Int) then (if (wrap64 ((l3.length : Int) - 1)) ≤ (l3.length : Int) then ((some (l3.take ((wrap64 ((l3.length : Int) - 1)) : Int).toNat : List (S29))).bind fun y623 => (if a1 < t620 then ((spec_l3Up.f k t620 a1 a2_0 a2_1 a2_2 a2_3 y623).bind fun bt627 => ((spec_HashPair.f k bt627.1 bt627.2.1 bt627.2.2.1 bt627.2.2.2 ((rd_T29 l3 (wrap64 ((l3.length : Int) - 1))).f0) ((rd_T29 l3 (wrap64 ((l3.length : Int) - 1))).f1) ((rd_T29 l3 (wrap64 ((l3.length : Int) - 1))).f2) ((rd_T29 l3 (wrap64 ((l3.length : Int) - 1))).f3)).bind fun bt631 => (some (bt631.1, bt631.2.1, bt631.2.2.1, bt631.2.2.2)))) else ((spec_l3Up.f k (wrap64 (a0 - t620)) (wrap64 (a1 - t620)) a2_0 a2_1 a2_2 a2_3 y623).bind fun bt635 => ((spec_HashPair.f k ((rd_T29 l3 (wrap64 ((l3.length : Int) - 1))).f0) ((rd_T29 l3 (wrap64 ((l3.length : Int) - 1))).f1) ((rd_T29 l3 (wrap64 ((l3.length : Int) - 1))).f2) ((rd_T29 l3 (wrap64 ((l3.length : Int) - 1))).f3) bt635.1 bt635.2.1 bt635.2.2.1 bt635.2.2.2).bind fun bt639 => (some (bt639.1, bt639.2.1, bt639.2.2.1, bt639.2.2.2)))))) else (none)) else (none)) else (none)))) = some (r1, r2, r3, r4) := h
 clear h
 by_cases c5 : a0 < 2
 ·rw [if_pos c5] at H
  have c5b0 := decide_eq_true c5
  clear c5
  simp only [Option.some.injEq, Prod.mk.injEq] at H
  obtain ⟨rfl, rfl, rfl, rfl⟩ := H
  go_enter Try.func91, Try.ntmps91
  go_wp2_with (first | ((with_reducible refine gate_dst (N := 6) rfl ?_); refine boxE_ (cs := #[.int .u64 a2_0, .int .u64 a2_1, .int .u64 a2_2, .int .u64 a2_3]) (t := 29) ?_; intro gb618 hg w6 hbox hb; have BK618 := a_ (hbox); have GW618 := sizeB_ hg; replace HB := stepB_ hb; clear hb hbox hg) | ((with_reducible refine gate_dst (N := 8) rfl ?_); refine boxE_ (cs := #[.int .u64 0, .int .u64 0, .int .u64 0, .int .u64 0]) (t := 29) ?_; intro gb619 hg w7 hbox hb; have BK619 := a_ (hbox); have GW619 := sizeB_ hg; replace HB := stepB_ hb; obtain ⟨NB618_619, NB619_618⟩ := ne2_ BK618.out hg; replace BK618 := bb_ BK618.out hb; clear hb hbox hg; have hnb8 := NB618_619.out; have hnc8 := NB619_618.out; obtain ⟨z9_0, z9_1, z9_2, z9_3, f9_0, f9_1, f9_2, f9_3⟩ := cz4_ BK618.out; obtain ⟨z10_0, z10_1, z10_2, z10_3, f10_0, f10_1, f10_2, f10_3⟩ := cz4_ BK619.out))
  refine bodyPost_ret (results_cell_row rfl _ _ gb619 29 #[.int .u64 a2_0, .int .u64 a2_1, .int .u64 a2_2, .int .u64 a2_3] (0, 0) _ rfl (blkF_ BK619.out) Try.underlying29 rfl (by kernel_rfl)) rfl ?_
  exact ⟨rfl_, bel_⟩
 ·rw [if_neg c5] at H
  have c5b0 := decide_eq_false c5
  clear c5
  obtain ⟨t620, A11, H⟩ := bnd_ H
  obtain ⟨ji12, hji12⟩ : ∃ j_ : Int, (wrap64 ((l3.length : Int) - 1)) = j_ := ⟨_, rfl⟩
  replace H : (if 0 ≤ (ji12) then (if (ji12) < (l3.length : Int) then (if (ji12) ≤ (l3.length : Int) then ((some (l3.take ((ji12) : Int).toNat : List (S29))).bind fun y623 => (if a1 < t620 then ((spec_l3Up.f k t620 a1 a2_0 a2_1 a2_2 a2_3 y623).bind fun bt627 => ((spec_HashPair.f k bt627.1 bt627.2.1 bt627.2.2.1 bt627.2.2.2 ((rd_T29 l3 (ji12)).f0) ((rd_T29 l3 (ji12)).f1) ((rd_T29 l3 (ji12)).f2) ((rd_T29 l3 (ji12)).f3)).bind fun bt631 => (some (bt631.1, bt631.2.1, bt631.2.2.1, bt631.2.2.2)))) else ((spec_l3Up.f k (wrap64 (a0 - t620)) (wrap64 (a1 - t620)) a2_0 a2_1 a2_2 a2_3 y623).bind fun bt635 => ((spec_HashPair.f k ((rd_T29 l3 (ji12)).f0) ((rd_T29 l3 (ji12)).f1) ((rd_T29 l3 (ji12)).f2) ((rd_T29 l3 (ji12)).f3) bt635.1 bt635.2.1 bt635.2.2.1 bt635.2.2.2).bind fun bt639 => (some (bt639.1, bt639.2.1, bt639.2.2.1, bt639.2.2.2)))))) else (none)) else (none)) else (none)) = some (r1, r2, r3, r4) := by first | (rw [hji12] at H; exact H) | (simp only [hji12] at H ⊢; exact H)
  (try rw [hji12] at A11)
  have hji12w : (IntKind.i64.wrap ((l3.length : Int) - 1)) = ji12 := (i64_w _).trans hji12
  by_cases c13 : 0 ≤ (ji12)
  ·rw [if_pos c13] at H
   have c13b0 := decide_eq_true c13
   clear c13
   by_cases c14 : (ji12) < (l3.length : Int)
   ·rw [if_pos c14] at H
    have c14b0 := decide_eq_true c14
    clear c14
    have c15b0 := eq_true (ofd_ : 0 ≤ (ji12))
    by_cases c16 : (ji12) ≤ (l3.length : Int)
    ·rw [if_pos c16] at H
     have c16b0 := eq_true c16
     have c16b1 := decide_eq_true c16
     clear c16
     obtain ⟨y623, hy623⟩ : ∃ y_ : List (S29), y_ = (l3.take ((ji12) : Int).toNat) := ⟨_, rfl⟩
     replace H : (if a1 < t620 then ((spec_l3Up.f k t620 a1 a2_0 a2_1 a2_2 a2_3 y623).bind fun bt627 => ((spec_HashPair.f k bt627.1 bt627.2.1 bt627.2.2.1 bt627.2.2.2 ((rd_T29 l3 (ji12)).f0) ((rd_T29 l3 (ji12)).f1) ((rd_T29 l3 (ji12)).f2) ((rd_T29 l3 (ji12)).f3)).bind fun bt631 => (some (bt631.1, bt631.2.1, bt631.2.2.1, bt631.2.2.2)))) else ((spec_l3Up.f k (wrap64 (a0 - t620)) (wrap64 (a1 - t620)) a2_0 a2_1 a2_2 a2_3 y623).bind fun bt635 => ((spec_HashPair.f k ((rd_T29 l3 (ji12)).f0) ((rd_T29 l3 (ji12)).f1) ((rd_T29 l3 (ji12)).f2) ((rd_T29 l3 (ji12)).f3) bt635.1 bt635.2.1 bt635.2.2.1 bt635.2.2.2).bind fun bt639 => (some (bt639.1, bt639.2.1, bt639.2.2.1, bt639.2.2.2))))) = some (r1, r2, r3, r4) := rpl_ hy623 H
     have Ny623 := Aside0.mk hy623
     clear hy623
     by_cases c17 : a1 < t620
     ·rw [if_pos c17] at H
      have c17b0 := decide_eq_true c17
      clear c17
      obtain ⟨⟨t627, t628, t629, t630⟩, A18, H⟩ := bnd_ H
      dsimp only at H
      obtain ⟨⟨t631, t632, t633, t634⟩, A19, H⟩ := bnd_ H
      dsimp only at H
      simp only [Option.some.injEq, Prod.mk.injEq] at H
      obtain ⟨rfl, rfl, rfl, rfl⟩ := H
      go_enter Try.func91, Try.ntmps91
      try go_wp2_with (first | ((with_reducible refine gate_dst (N := 6) rfl ?_); refine boxE_ (cs := #[.int .u64 a2_0, .int .u64 a2_1, .int .u64 a2_2, .int .u64 a2_3]) (t := 29) ?_; intro gb618 hg w20 hbox hb; have BK618 := a_ (hbox); have GW618 := sizeB_ hg; replace HB := stepB_ hb; clear hb hbox hg) | ((with_reducible refine gate_dst (N := 8) rfl ?_); refine boxE_ (cs := #[.int .u64 0, .int .u64 0, .int .u64 0, .int .u64 0]) (t := 29) ?_; intro gb619 hg w21 hbox hb; have BK619 := a_ (hbox); have GW619 := sizeB_ hg; replace HB := stepB_ hb; obtain ⟨NB618_619, NB619_618⟩ := ne2_ BK618.out hg; replace BK618 := bb_ BK618.out hb; clear hb hbox hg) | (refine gcL_ 88 (some 16) Try.func88 #[.int .i64 a0] ?_; (with_reducible refine (spec_TreeSplit.calls k a0 t620 _ A11.out).mono ?_); rintro e w' ⟨rfl, ⟨nd, rfl⟩⟩; refine ⟨_, rfl, ?_⟩; (try (rw [drewN_self w21]; generalize hq_ : World.drewN w21 _ = w21; have n0_ : Aside0 (w21.heap[gb618]? = some (.cells #[.int .u64 a2_0, .int .u64 a2_1, .int .u64 a2_2, .int .u64 a2_3] 29 (0, 0))) := ⟨by rw [← hq_]; exact (blkU_ BK618.out)⟩; have n1_ : Aside0 (w21.heap[gb619]? = some (.cells #[.int .u64 0, .int .u64 0, .int .u64 0, .int .u64 0] 29 (0, 0))) := ⟨by rw [← hq_]; exact (blkU_ BK619.out)⟩; have n2_ : Aside0 (Below w.heap.size w w21) := ⟨by rw [← hq_]; exact bel_⟩; clear BK618 BK619 HB hq_; have BK618 := n0_; have BK619 := n1_; have HB := n2_; clear n0_ n1_ n2_)); have p621 : 0 ≤ ((ji12) : Int) := ofd_; have q621 : (ji12) < (l3.length : Int) := ofd_; obtain ⟨ad621, e621, hx621_0, hx621_1, hx621_2, hx621_3⟩ := at_T29 HR3.out (ji12) p621 q621; cases e621; replace hx621_0 := pc_ HB.out hx621_0; replace hx621_1 := pc_ HB.out hx621_1; replace hx621_2 := pc_ HB.out hx621_2; replace hx621_3 := pc_ HB.out hx621_3; replace p621 := eq_true p621; replace q621 := eq_true q621) | ((with_reducible refine gate_dst (N := 10) rfl ?_); refine boxE_ (cs := #[.int .u64 0, .int .u64 0, .int .u64 0, .int .u64 0]) (t := 29) ?_; intro gb622 hg w22 hbox hb; have BK622 := a_ (hbox); have GW622 := sizeB_ hg; replace HB := stepB_ hb; obtain ⟨NB618_622, NB622_618⟩ := ne2_ BK618.out hg; replace BK618 := bb_ BK618.out hb; obtain ⟨NB619_622, NB622_619⟩ := ne2_ BK619.out hg; replace BK619 := bb_ BK619.out hb; clear hb hbox hg; have hnb23 := NB622_618.out; have hnc23 := NB618_622.out; have hnb24 := NB622_619.out; have hnc24 := NB619_622.out; obtain ⟨z25_0, z25_1, z25_2, z25_3, f25_0, f25_1, f25_2, f25_3⟩ := cz4_ BK622.out) | ((with_reducible refine gate_store (t := 29) (p := 10) rfl ?_); refine store_event (t := 29) (p := 10) (v := ?vo_w26) (w1 := ((((w22.setCell ⟨gb622, 0, none⟩ (.int .u64 ((rd_T29 l3 (ji12)).f0))).setCell ⟨gb622, 1, none⟩ (.int .u64 ((rd_T29 l3 (ji12)).f1))).setCell ⟨gb622, 2, none⟩ (.int .u64 ((rd_T29 l3 (ji12)).f2))).setCell ⟨gb622, 3, none⟩ (.int .u64 ((rd_T29 l3 (ji12)).f3)))) ?hg ?ho ?hn ?hr ?_; (case ho => rfl); (case hg => rfl); (case hn => rfl); (case hr => first | (go_simp; done) | (go_simp; rfl)); intro w26 hw; have n0_ : Aside0 (w26.heap[gb618]? = some (.cells #[.int .u64 a2_0, .int .u64 a2_1, .int .u64 a2_2, .int .u64 a2_3] 29 (0, 0))) := ⟨(by rw [hw]; exact (blkU_ BK618.out))⟩; have n1_ : Aside0 (w26.heap[gb619]? = some (.cells #[.int .u64 0, .int .u64 0, .int .u64 0, .int .u64 0] 29 (0, 0))) := ⟨(by rw [hw]; exact (blkU_ BK619.out))⟩; have n2_ : Aside0 (w26.heap[gb622]? = some (.cells #[.int .u64 ((rd_T29 l3 (ji12)).f0), .int .u64 ((rd_T29 l3 (ji12)).f1), .int .u64 ((rd_T29 l3 (ji12)).f2), .int .u64 ((rd_T29 l3 (ji12)).f3)] 29 (0, 0))) := ⟨(by rw [hw]; exact (blkF_ BK622.out))⟩; have n3_ : Aside0 (Below w.heap.size w w26) := ⟨(by rw [hw]; exact bel_)⟩; clear hw; clear BK618; clear BK619; clear BK622; clear HB; have BK618 := n0_; have BK619 := n1_; have BK622 := n2_; have HB := n3_; clear n0_ n1_ n2_ n3_; have q27 : ((ji12) : Int) ≤ ((l3.length : Int) : Int) := ofd_; obtain ⟨i027, hi027, _, hsz27, _⟩ := info_parts info29; have hroom27 : l3.length ≤ c3 := HC3.out; have hC27 : Kd.C k29 _ (some ad621) l3.length l3 := HR3.out; have hcut27 := cut_to (P := Try.prog) 49 29 .i64 Try.underlying49 hi027 (some ad621) l3.length c3 (ji12) (ofd_) q27 hroom27; have hr27 := Kd.C_take (m := ((ji12) : Int).toNat) hC27 (by omega); have hy27 : y623.length = ((ji12) : Int).toNat := (by rw [Ny623.out, List.length_take]; omega); rw [← Ny623.out] at hr27; rw [← hy27] at hcut27; have HR626 := Aside0.mk hr27; have HC626 := a_ (show y623.length ≤ c3 from by omega); clear hr27 hC27 hroom27 hi027 hsz27; have KY27 := Aside0.mk hy27; clear hy27; replace q27 := eq_true q27))
      replace BK618 := a_ (blk_drew BK618.out)
      replace BK619 := a_ (blk_drew BK619.out)
      replace BK622 := a_ (blk_drew BK622.out)
      replace HB := a_ (below_drew1 HB.out)
      refine start_ (n := 8) (S := fun w' => hdc4_ w' gb618 (.int .u64 a2_0) (.int .u64 a2_1) (.int .u64 a2_2) (.int .u64 a2_3) (hd4_ w' gb622 (.int .u64 ((rd_T29 l3 (ji12)).f0)) (.int .u64 ((rd_T29 l3 (ji12)).f1)) (.int .u64 ((rd_T29 l3 (ji12)).f2)) (.int .u64 ((rd_T29 l3 (ji12)).f3)))) (ds := []) #[false, false, false, false, false, false, false, false] (by kernel_rfl) rfl rfl (hcc4_ BK618.out (hc4_ BK622.out)) (fun hHeld => ?_); refine with_tabW spec_l3Up.tab7 spec_l3Up.bits7 (fun HT HW_ => ?_)
      generalize w26.drew = w28 at BK618 BK619 BK622 HB hHeld ⊢
      refine pP_ 0 (some 31) (b_ 8 1) HT ?_
      refine pP_ 1 (some 32) (b_ 8 3) HT ?_
      refine pP_ 3 (some 34) (b_ 8 11) HT ?_
      refine takeP_ 2 (some 33) (b_ 8 15) HT HW_ hHeld ?_
      refine takeP_ 5 (some 36) (b_ 8 47) HT HW_ hHeld ?_
      refine oneP_ 4 (some 35) (b_ 8 63) HT (fun K hK => ?_)
      refine goN_ Try.func91 #[.int .i64 t620, .int .i64 a1, .agg #[.int .u64 a2_0, .int .u64 a2_1, .int .u64 a2_2, .int .u64 a2_3], .slice (some ad621) y623.length c3] ?_
      with_reducible refine (ih k (by omega) t620 a1 a2_0 a2_1 a2_2 a2_3 _ _ y623 t627 t628 t629 t630 _ ?side1 ?side2 A18.out).mono ?_
      (case side1 => exact cU_ (Kd.C_below HR626.out HB.out))
      (case side2 => exact HC626.out)
      rintro e w29 ⟨rfl, hb⟩
      refine ⟨_, rfl, ?_⟩
      replace BK618 := bb_ BK618.out hb
      replace BK619 := bb_ BK619.out hb
      replace BK622 := bb_ BK622.out hb
      replace HB := stepB_ hb
      (try clear hb)
      refine hK.out _ _ (hcc4_ BK618.out (hc4_ BK622.out)) (fun hHeld => ?_)
      clear hK K
      refine normP_ (some 35) ?_
      refine oneP_ 6 (some 37) (b_ 8 127) HT (fun K hK => ?_)
      refine goes_ Try.func119 (by kernel_rfl) rfl #[.agg #[.int .u64 t627, .int .u64 t628, .int .u64 t629, .int .u64 t630], .agg #[.int .u64 ((rd_T29 l3 (ji12)).f0), .int .u64 ((rd_T29 l3 (ji12)).f1), .int .u64 ((rd_T29 l3 (ji12)).f2), .int .u64 ((rd_T29 l3 (ji12)).f3)]] (by rfl) rfl rfl (by (try simp only [List.map_toArray, List.map_cons, List.map_nil]); first | done | (simp only [hji12]; rfl) | rfl | (simp only [List.length_drop, List.length_take]; rfl)) ?_
      with_reducible refine (spec_HashPair.calls k t627 t628 t629 t630 ((rd_T29 l3 (ji12)).f0) ((rd_T29 l3 (ji12)).f1) ((rd_T29 l3 (ji12)).f2) ((rd_T29 l3 (ji12)).f3) t631 t632 t633 t634 _ A19.out).mono ?_
      rintro e w30 ⟨rfl, hb⟩
      refine ⟨_, rfl, ?_⟩
      replace BK618 := bb_ BK618.out hb
      replace BK619 := bb_ BK619.out hb
      replace BK622 := bb_ BK622.out hb
      replace HB := stepB_ hb
      (try clear hb)
      refine hK.out _ _ (hcc4_ BK618.out (hc4_ BK622.out)) (fun hHeld => ?_)
      clear hK K
      refine normP_ (some 37) ?_
      refine oneP_ 7 none (b_ 8 255) HT (fun K hK => ?_)
      have hs31 : w30.cell? ⟨gb619, 0, none⟩ = some (.int .u64 0) := (blk_cell BK619.out 0).trans rfl
      have hfs31 := blk_frozen BK619.out 0
      have hns31_0 := NB618_619.out
      have hns31_2 := NB622_619.out
      have hms31_0 := NB619_618.out
      have hms31_2 := NB619_622.out
      have hs32 : w30.cell? ⟨gb619, 1, none⟩ = some (.int .u64 0) := (blk_cell BK619.out 1).trans rfl
      have hfs32 := blk_frozen BK619.out 1
      have hns32_0 := NB618_619.out
      have hns32_2 := NB622_619.out
      have hms32_0 := NB619_618.out
      have hms32_2 := NB619_622.out
      have hs33 : w30.cell? ⟨gb619, 2, none⟩ = some (.int .u64 0) := (blk_cell BK619.out 2).trans rfl
      have hfs33 := blk_frozen BK619.out 2
      have hns33_0 := NB618_619.out
      have hns33_2 := NB622_619.out
      have hms33_0 := NB619_618.out
      have hms33_2 := NB619_622.out
      have hs34 : w30.cell? ⟨gb619, 3, none⟩ = some (.int .u64 0) := (blk_cell BK619.out 3).trans rfl
      have hfs34 := blk_frozen BK619.out 3
      have hns34_0 := NB618_619.out
      have hns34_2 := NB622_619.out
      have hms34_0 := NB619_618.out
      have hms34_2 := NB619_622.out
      refine skip_ (w1 := ?_) (by rfl) rfl ?_ ?_
      rotate_left
      ·go_simp
       rfl
      refine hK.out _ _ ⟨((cell_far (p := ⟨gb619, _, none⟩) NB618_619.out _).trans (((cell_far (p := ⟨gb619, _, none⟩) NB618_619.out _).trans ((cf2_ NB618_619.out hHeld.1))))), ((cell_far (p := ⟨gb619, _, none⟩) NB618_619.out _).trans (((cell_far (p := ⟨gb619, _, none⟩) NB618_619.out _).trans ((cf2_ NB618_619.out hHeld.2.1))))), ((cell_far (p := ⟨gb619, _, none⟩) NB618_619.out _).trans (((cell_far (p := ⟨gb619, _, none⟩) NB618_619.out _).trans ((cf2_ NB618_619.out hHeld.2.2.1))))), ((cell_far (p := ⟨gb619, _, none⟩) NB618_619.out _).trans (((cell_far (p := ⟨gb619, _, none⟩) NB618_619.out _).trans ((cf2_ NB618_619.out hHeld.2.2.2.1))))), ((cell_far (p := ⟨gb619, _, none⟩) NB622_619.out _).trans (((cell_far (p := ⟨gb619, _, none⟩) NB622_619.out _).trans ((cf2_ NB622_619.out hHeld.2.2.2.2.1))))), ((cell_far (p := ⟨gb619, _, none⟩) NB622_619.out _).trans (((cell_far (p := ⟨gb619, _, none⟩) NB622_619.out _).trans ((cf2_ NB622_619.out hHeld.2.2.2.2.2.1))))), ((cell_far (p := ⟨gb619, _, none⟩) NB622_619.out _).trans (((cell_far (p := ⟨gb619, _, none⟩) NB622_619.out _).trans ((cf2_ NB622_619.out hHeld.2.2.2.2.2.2.1))))), ((cell_far (p := ⟨gb619, _, none⟩) NB622_619.out _).trans (((cell_far (p := ⟨gb619, _, none⟩) NB622_619.out _).trans ((cf2_ NB622_619.out hHeld.2.2.2.2.2.2.2)))))⟩ (fun hHeld => ?_)
      clear hK K
      refine done_ (done_of HT.out (by kernel_rfl)) ?_
      try go_wp2
      refine bodyPost_ret (results_cell_row rfl _ _ gb619 29 #[.int .u64 t631, .int .u64 t632, .int .u64 t633, .int .u64 t634] (0, 0) _ rfl (blkF_ BK619.out) Try.underlying29 rfl (by kernel_rfl)) rfl ?_
      exact ⟨by first | rfl | (simp [errW_none, errW_some] <;> rfl) | (simp only [← hji12]; first | rfl | (simp [errW_none, errW_some] <;> rfl)) | (simp [*, errW_none, errW_some] <;> rfl), bel_⟩
     ·rw [if_neg c17] at H
      have c17b0 := decide_eq_false c17
      clear c17
      obtain ⟨⟨t635, t636, t637, t638⟩, A35, H⟩ := bnd_ H
      dsimp only at H
      obtain ⟨⟨t639, t640, t641, t642⟩, A36, H⟩ := bnd_ H
      dsimp only at H
      simp only [Option.some.injEq, Prod.mk.injEq] at H
      obtain ⟨rfl, rfl, rfl, rfl⟩ := H
      go_enter Try.func91, Try.ntmps91
      try go_wp2_with (first | ((with_reducible refine gate_dst (N := 6) rfl ?_); refine boxE_ (cs := #[.int .u64 a2_0, .int .u64 a2_1, .int .u64 a2_2, .int .u64 a2_3]) (t := 29) ?_; intro gb618 hg w37 hbox hb; have BK618 := a_ (hbox); have GW618 := sizeB_ hg; replace HB := stepB_ hb; clear hb hbox hg) | ((with_reducible refine gate_dst (N := 8) rfl ?_); refine boxE_ (cs := #[.int .u64 0, .int .u64 0, .int .u64 0, .int .u64 0]) (t := 29) ?_; intro gb619 hg w38 hbox hb; have BK619 := a_ (hbox); have GW619 := sizeB_ hg; replace HB := stepB_ hb; obtain ⟨NB618_619, NB619_618⟩ := ne2_ BK618.out hg; replace BK618 := bb_ BK618.out hb; clear hb hbox hg) | (refine gcL_ 88 (some 16) Try.func88 #[.int .i64 a0] ?_; (with_reducible refine (spec_TreeSplit.calls k a0 t620 _ A11.out).mono ?_); rintro e w' ⟨rfl, ⟨nd, rfl⟩⟩; refine ⟨_, rfl, ?_⟩; (try (rw [drewN_self w38]; generalize hq_ : World.drewN w38 _ = w38; have n0_ : Aside0 (w38.heap[gb618]? = some (.cells #[.int .u64 a2_0, .int .u64 a2_1, .int .u64 a2_2, .int .u64 a2_3] 29 (0, 0))) := ⟨by rw [← hq_]; exact (blkU_ BK618.out)⟩; have n1_ : Aside0 (w38.heap[gb619]? = some (.cells #[.int .u64 0, .int .u64 0, .int .u64 0, .int .u64 0] 29 (0, 0))) := ⟨by rw [← hq_]; exact (blkU_ BK619.out)⟩; have n2_ : Aside0 (Below w.heap.size w w38) := ⟨by rw [← hq_]; exact bel_⟩; clear BK618 BK619 HB hq_; have BK618 := n0_; have BK619 := n1_; have HB := n2_; clear n0_ n1_ n2_)); have p621 : 0 ≤ ((ji12) : Int) := ofd_; have q621 : (ji12) < (l3.length : Int) := ofd_; obtain ⟨ad621, e621, hx621_0, hx621_1, hx621_2, hx621_3⟩ := at_T29 HR3.out (ji12) p621 q621; cases e621; replace hx621_0 := pc_ HB.out hx621_0; replace hx621_1 := pc_ HB.out hx621_1; replace hx621_2 := pc_ HB.out hx621_2; replace hx621_3 := pc_ HB.out hx621_3; replace p621 := eq_true p621; replace q621 := eq_true q621) | ((with_reducible refine gate_dst (N := 10) rfl ?_); refine boxE_ (cs := #[.int .u64 0, .int .u64 0, .int .u64 0, .int .u64 0]) (t := 29) ?_; intro gb622 hg w39 hbox hb; have BK622 := a_ (hbox); have GW622 := sizeB_ hg; replace HB := stepB_ hb; obtain ⟨NB618_622, NB622_618⟩ := ne2_ BK618.out hg; replace BK618 := bb_ BK618.out hb; obtain ⟨NB619_622, NB622_619⟩ := ne2_ BK619.out hg; replace BK619 := bb_ BK619.out hb; clear hb hbox hg; have hnb40 := NB622_618.out; have hnc40 := NB618_622.out; have hnb41 := NB622_619.out; have hnc41 := NB619_622.out; obtain ⟨z42_0, z42_1, z42_2, z42_3, f42_0, f42_1, f42_2, f42_3⟩ := cz4_ BK622.out) | ((with_reducible refine gate_store (t := 29) (p := 10) rfl ?_); refine store_event (t := 29) (p := 10) (v := ?vo_w43) (w1 := ((((w39.setCell ⟨gb622, 0, none⟩ (.int .u64 ((rd_T29 l3 (ji12)).f0))).setCell ⟨gb622, 1, none⟩ (.int .u64 ((rd_T29 l3 (ji12)).f1))).setCell ⟨gb622, 2, none⟩ (.int .u64 ((rd_T29 l3 (ji12)).f2))).setCell ⟨gb622, 3, none⟩ (.int .u64 ((rd_T29 l3 (ji12)).f3)))) ?hg ?ho ?hn ?hr ?_; (case ho => rfl); (case hg => rfl); (case hn => rfl); (case hr => first | (go_simp; done) | (go_simp; rfl)); intro w43 hw; have n0_ : Aside0 (w43.heap[gb618]? = some (.cells #[.int .u64 a2_0, .int .u64 a2_1, .int .u64 a2_2, .int .u64 a2_3] 29 (0, 0))) := ⟨(by rw [hw]; exact (blkU_ BK618.out))⟩; have n1_ : Aside0 (w43.heap[gb619]? = some (.cells #[.int .u64 0, .int .u64 0, .int .u64 0, .int .u64 0] 29 (0, 0))) := ⟨(by rw [hw]; exact (blkU_ BK619.out))⟩; have n2_ : Aside0 (w43.heap[gb622]? = some (.cells #[.int .u64 ((rd_T29 l3 (ji12)).f0), .int .u64 ((rd_T29 l3 (ji12)).f1), .int .u64 ((rd_T29 l3 (ji12)).f2), .int .u64 ((rd_T29 l3 (ji12)).f3)] 29 (0, 0))) := ⟨(by rw [hw]; exact (blkF_ BK622.out))⟩; have n3_ : Aside0 (Below w.heap.size w w43) := ⟨(by rw [hw]; exact bel_)⟩; clear hw; clear BK618; clear BK619; clear BK622; clear HB; have BK618 := n0_; have BK619 := n1_; have BK622 := n2_; have HB := n3_; clear n0_ n1_ n2_ n3_; have q44 : ((ji12) : Int) ≤ ((l3.length : Int) : Int) := ofd_; obtain ⟨i044, hi044, _, hsz44, _⟩ := info_parts info29; have hroom44 : l3.length ≤ c3 := HC3.out; have hC44 : Kd.C k29 _ (some ad621) l3.length l3 := HR3.out; have hcut44 := cut_to (P := Try.prog) 49 29 .i64 Try.underlying49 hi044 (some ad621) l3.length c3 (ji12) (ofd_) q44 hroom44; have hr44 := Kd.C_take (m := ((ji12) : Int).toNat) hC44 (by omega); have hy44 : y623.length = ((ji12) : Int).toNat := (by rw [Ny623.out, List.length_take]; omega); rw [← Ny623.out] at hr44; rw [← hy44] at hcut44; have HR626 := Aside0.mk hr44; have HC626 := a_ (show y623.length ≤ c3 from by omega); clear hr44 hC44 hroom44 hi044 hsz44; have KY44 := Aside0.mk hy44; clear hy44; replace q44 := eq_true q44))
      replace BK618 := a_ (blk_drew BK618.out)
      replace BK619 := a_ (blk_drew BK619.out)
      replace BK622 := a_ (blk_drew BK622.out)
      replace HB := a_ (below_drew1 HB.out)
      refine start_ (n := 12) (S := fun w' => hdc4_ w' gb622 (.int .u64 ((rd_T29 l3 (ji12)).f0)) (.int .u64 ((rd_T29 l3 (ji12)).f1)) (.int .u64 ((rd_T29 l3 (ji12)).f2)) (.int .u64 ((rd_T29 l3 (ji12)).f3)) (hd4_ w' gb618 (.int .u64 a2_0) (.int .u64 a2_1) (.int .u64 a2_2) (.int .u64 a2_3))) (ds := []) #[false, false, false, false, false, false, false, false, false, false, false, false] (by kernel_rfl) rfl rfl (hcc4_ BK622.out (hc4_ BK618.out)) (fun hHeld => ?_); refine with_tabW spec_l3Up.tab8 spec_l3Up.bits8 (fun HT HW_ => ?_)
      generalize w43.drew = w45 at BK618 BK619 BK622 HB hHeld ⊢
      refine pP_ 1 (some 39) (b_ 12 2) HT ?_
      refine pP_ 2 (some 40) (b_ 12 6) HT ?_
      refine pP_ 3 (some 41) (b_ 12 14) HT ?_
      refine pP_ 4 (some 42) (b_ 12 30) HT ?_
      refine pP_ 5 (some 43) (b_ 12 62) HT ?_
      refine pP_ 6 (some 44) (b_ 12 126) HT ?_
      refine pP_ 8 (some 46) (b_ 12 382) HT ?_
      refine takeP_ 0 (some 38) (b_ 12 383) HT HW_ hHeld ?_
      refine takeP_ 7 (some 45) (b_ 12 511) HT HW_ hHeld ?_
      refine oneP_ 9 (some 47) (b_ 12 1023) HT (fun K hK => ?_)
      refine goN_ Try.func91 #[.int .i64 (wrap64 (a0 - t620)), .int .i64 (wrap64 (a1 - t620)), .agg #[.int .u64 a2_0, .int .u64 a2_1, .int .u64 a2_2, .int .u64 a2_3], .slice (some ad621) y623.length c3] ?_
      with_reducible refine (ih k (by omega) (wrap64 (a0 - t620)) (wrap64 (a1 - t620)) a2_0 a2_1 a2_2 a2_3 _ _ y623 t635 t636 t637 t638 _ ?side1 ?side2 A35.out).mono ?_
      (case side1 => exact cU_ (Kd.C_below HR626.out HB.out))
      (case side2 => exact HC626.out)
      rintro e w46 ⟨rfl, hb⟩
      refine ⟨_, rfl, ?_⟩
      replace BK618 := bb_ BK618.out hb
      replace BK619 := bb_ BK619.out hb
      replace BK622 := bb_ BK622.out hb
      replace HB := stepB_ hb
      (try clear hb)
      refine hK.out _ _ (hcc4_ BK622.out (hc4_ BK618.out)) (fun hHeld => ?_)
      clear hK K
      refine normP_ (some 47) ?_
      refine oneP_ 10 (some 48) (b_ 12 2047) HT (fun K hK => ?_)
      refine goes_ Try.func119 (by kernel_rfl) rfl #[.agg #[.int .u64 ((rd_T29 l3 (ji12)).f0), .int .u64 ((rd_T29 l3 (ji12)).f1), .int .u64 ((rd_T29 l3 (ji12)).f2), .int .u64 ((rd_T29 l3 (ji12)).f3)], .agg #[.int .u64 t635, .int .u64 t636, .int .u64 t637, .int .u64 t638]] (by rfl) rfl rfl (by (try simp only [List.map_toArray, List.map_cons, List.map_nil]); first | done | (simp only [hji12]; rfl) | rfl | (simp only [List.length_drop, List.length_take]; rfl)) ?_
      with_reducible refine (spec_HashPair.calls k ((rd_T29 l3 (ji12)).f0) ((rd_T29 l3 (ji12)).f1) ((rd_T29 l3 (ji12)).f2) ((rd_T29 l3 (ji12)).f3) t635 t636 t637 t638 t639 t640 t641 t642 _ A36.out).mono ?_
      rintro e w47 ⟨rfl, hb⟩
      refine ⟨_, rfl, ?_⟩
      replace BK618 := bb_ BK618.out hb
      replace BK619 := bb_ BK619.out hb
      replace BK622 := bb_ BK622.out hb
      replace HB := stepB_ hb
      (try clear hb)
      refine hK.out _ _ (hcc4_ BK622.out (hc4_ BK618.out)) (fun hHeld => ?_)
      clear hK K
      refine normP_ (some 48) ?_
      refine oneP_ 11 none (b_ 12 4095) HT (fun K hK => ?_)
      have hs48 : w47.cell? ⟨gb619, 0, none⟩ = some (.int .u64 0) := (blk_cell BK619.out 0).trans rfl
      have hfs48 := blk_frozen BK619.out 0
      have hns48_0 := NB618_619.out
      have hns48_2 := NB622_619.out
      have hms48_0 := NB619_618.out
      have hms48_2 := NB619_622.out
      have hs49 : w47.cell? ⟨gb619, 1, none⟩ = some (.int .u64 0) := (blk_cell BK619.out 1).trans rfl
      have hfs49 := blk_frozen BK619.out 1
      have hns49_0 := NB618_619.out
      have hns49_2 := NB622_619.out
      have hms49_0 := NB619_618.out
      have hms49_2 := NB619_622.out
      have hs50 : w47.cell? ⟨gb619, 2, none⟩ = some (.int .u64 0) := (blk_cell BK619.out 2).trans rfl
      have hfs50 := blk_frozen BK619.out 2
      have hns50_0 := NB618_619.out
      have hns50_2 := NB622_619.out
      have hms50_0 := NB619_618.out
      have hms50_2 := NB619_622.out
      have hs51 : w47.cell? ⟨gb619, 3, none⟩ = some (.int .u64 0) := (blk_cell BK619.out 3).trans rfl
      have hfs51 := blk_frozen BK619.out 3
      have hns51_0 := NB618_619.out
      have hns51_2 := NB622_619.out
      have hms51_0 := NB619_618.out
      have hms51_2 := NB619_622.out
      refine skip_ (w1 := ?_) (by rfl) rfl ?_ ?_
      rotate_left
      ·go_simp
       rfl
      refine hK.out _ _ ⟨((cell_far (p := ⟨gb619, _, none⟩) NB622_619.out _).trans (((cell_far (p := ⟨gb619, _, none⟩) NB622_619.out _).trans ((cf2_ NB622_619.out hHeld.1))))), ((cell_far (p := ⟨gb619, _, none⟩) NB622_619.out _).trans (((cell_far (p := ⟨gb619, _, none⟩) NB622_619.out _).trans ((cf2_ NB622_619.out hHeld.2.1))))), ((cell_far (p := ⟨gb619, _, none⟩) NB622_619.out _).trans (((cell_far (p := ⟨gb619, _, none⟩) NB622_619.out _).trans ((cf2_ NB622_619.out hHeld.2.2.1))))), ((cell_far (p := ⟨gb619, _, none⟩) NB622_619.out _).trans (((cell_far (p := ⟨gb619, _, none⟩) NB622_619.out _).trans ((cf2_ NB622_619.out hHeld.2.2.2.1))))), ((cell_far (p := ⟨gb619, _, none⟩) NB618_619.out _).trans (((cell_far (p := ⟨gb619, _, none⟩) NB618_619.out _).trans ((cf2_ NB618_619.out hHeld.2.2.2.2.1))))), ((cell_far (p := ⟨gb619, _, none⟩) NB618_619.out _).trans (((cell_far (p := ⟨gb619, _, none⟩) NB618_619.out _).trans ((cf2_ NB618_619.out hHeld.2.2.2.2.2.1))))), ((cell_far (p := ⟨gb619, _, none⟩) NB618_619.out _).trans (((cell_far (p := ⟨gb619, _, none⟩) NB618_619.out _).trans ((cf2_ NB618_619.out hHeld.2.2.2.2.2.2.1))))), ((cell_far (p := ⟨gb619, _, none⟩) NB618_619.out _).trans (((cell_far (p := ⟨gb619, _, none⟩) NB618_619.out _).trans ((cf2_ NB618_619.out hHeld.2.2.2.2.2.2.2)))))⟩ (fun hHeld => ?_)
      clear hK K
      refine done_ (done_of HT.out (by kernel_rfl)) ?_
      try go_wp2
      refine bodyPost_ret (results_cell_row rfl _ _ gb619 29 #[.int .u64 t639, .int .u64 t640, .int .u64 t641, .int .u64 t642] (0, 0) _ rfl (blkF_ BK619.out) Try.underlying29 rfl (by kernel_rfl)) rfl ?_
      exact ⟨by first | rfl | (simp [errW_none, errW_some] <;> rfl) | (simp only [← hji12]; first | rfl | (simp [errW_none, errW_some] <;> rfl)) | (simp [*, errW_none, errW_some] <;> rfl), bel_⟩
    ·rw [if_neg c16] at H
     exact absurd H (by simp)
   ·rw [if_neg c14] at H
    exact absurd H (by simp)
  ·rw [if_neg c13] at H
   exact absurd H (by simp)
end
section
def spec_PathRoot.j0 : Nat → Int → Int → ByteArray → List (S29) → Bool → Option (Int × Int × Int × Int × Bool)
 | 0, _, _, _, _, _ => none
 | k + 1, x0, x1, x2, x3, x26 => if x26 = true then (some (0, 0, 0, 0, false)) else ((spec_HashLeaf.f k x2).bind fun bt655 => ((spec_l3Up.f k x0 x1 bt655.1 bt655.2.1 bt655.2.2.1 bt655.2.2.2 x3).bind fun bt659 => (some (bt659.1, bt659.2.1, bt659.2.2.1, bt659.2.2.2, true))))
def spec_PathRoot.f (k : Nat) (a0 a1 : Int) (a2 : ByteArray) (l3 : List (S29)) : Option (Int × Int × Int × Int × Bool) := (spec_l3Place.f a0 a1).bind fun t653 => (if t653 = true then (if (a2.size : Int) > 40 then (spec_PathRoot.j0 k a0 a1 a2 l3 true) else ((spec_PathLen.f k a0 a1).bind fun t654 => (spec_PathRoot.j0 k a0 a1 a2 l3 ((l3.length : Int) != t654)))) else (spec_PathRoot.j0 k a0 a1 a2 l3 true))
theorem spec_PathRoot.calls (k : Nat) (a0 a1 : Int) (a2 : ByteArray) (A3 : Option Addr) (c3 : Nat) (l3 : List (S29)) (r1 r2 : Int) (r3 r4 : Int) (r5 : Bool) (w : World) (hr3 : Kd.C k29 w A3 l3.length l3) (hc3 : l3.length ≤ c3) (h : spec_PathRoot.f k a0 a1 a2 l3 = some (r1, r2, r3, r4, r5)) :
  Calls Try.prog 86 #[.int .i64 a0, .int .i64 a1, .string a2, .slice A3 l3.length c3] w fun e w' => e = .returned (.tuple #[.agg #[.int .u64 r1, .int .u64 r2, .int .u64 r3, .int .u64 r4], .bool r5]) ∧ Below w.heap.size w w' := by
 have hu29 := Try.underlying29
 have HR3 := Aside0.mk hr3
 have HC3 := Aside0.mk hc3
 clear hr3 hc3
 have HB := a_ (Below.refl w.heap.size w)
 have H := h
 unfold spec_PathRoot.f at H
 clear h
 have HC5 := Aside0.mk H
 clear H
 go_enter Try.func86, Try.ntmps86
 go_upto_region 1 with (first | ((with_reducible refine gate_dst (N := 8) rfl ?_); (try (refine gate_guard (by rfl) ?_; dsimp only)); refine boxE_ (cs := #[.int .u64 0, .int .u64 0, .int .u64 0, .int .u64 0]) (t := 29) ?_; intro gb652 hg w6 hbox hb; have BK652 := a_ (hbox); have GW652 := sizeB_ hg; replace HB := stepB_ hb; clear hb hbox hg))
 (try simp only [Act.put, List.setIfInBounds_toArray, List.set_cons_zero, List.set_cons_succ])
 go_cut [26] (fun v26 wc => ∃ (kq : Nat) (x26_4 : Bool), v26 = .bool x26_4 ∧ Aside0 (spec_PathRoot.j0 kq a0 a1 a2 l3 x26_4 = some (r1, r2, r3, r4, r5)) ∧ Aside0 (kq ≤ k) ∧ Aside0 (wc.heap[gb652]? = some (.cells #[.int .u64 0, .int .u64 0, .int .u64 0, .int .u64 0] 29 (0, 0))) ∧ Aside0 (Below w.heap.size w wc))
 case first =>
  have H := HC5.out
  clear HC5
  obtain ⟨t653, A7, H⟩ := bnd_ H
  by_cases c8 : t653 = true
  ·subst c8
   rw [if_pos rfl] at H
   by_cases c9 : (a2.size : Int) > 40
   ·rw [if_pos c9] at H
    have c9b0 : decide (40 < (a2.size : Int)) = true := decide_eq_true c9
    have c9b1 : decide (40 < a2.size) = true := decide_eq_true (by omega)
    clear c9
    (first | rw [c9b0] | (simp only [i64_w, i32_w]; rw [c9b0]) | skip)
    have H' := Aside0.mk H
    clear H
    go_wp2_with (first | (refine gcL_ 79 (some 12) Try.func79 #[.int .i64 a0, .int .i64 a1] ?_; (with_reducible refine (spec_l3Place.calls a0 a1 true _ A7.out).mono ?_); rintro e w' ⟨rfl, ⟨nd, rfl⟩⟩; refine ⟨_, rfl, ?_⟩))
    go_meet
    case rel => exact ⟨_, (true), rl_, H', ⟨by first | omega | exact Nat.le_refl _⟩, ⟨blkU_ BK652.out⟩, ⟨bel_⟩⟩
   ·rw [if_neg c9] at H
    have c9b0 : decide (40 < (a2.size : Int)) = false := decide_eq_false c9
    have c9b1 : decide (40 < a2.size) = false := decide_eq_false (by omega)
    clear c9
    (first | rw [c9b0] | (simp only [i64_w, i32_w]; rw [c9b0]) | skip)
    obtain ⟨t654, A10, H⟩ := bnd_ H
    have H' := Aside0.mk H
    clear H
    go_wp2_with (first | (refine gcL_ 79 (some 12) Try.func79 #[.int .i64 a0, .int .i64 a1] ?_; (with_reducible refine (spec_l3Place.calls a0 a1 true _ A7.out).mono ?_); rintro e w' ⟨rfl, ⟨nd, rfl⟩⟩; refine ⟨_, rfl, ?_⟩) | (go_at_call 81; (with_reducible refine (spec_PathLen.calls k a0 a1 t654 _ A10.out).mono ?_); rintro e w' ⟨rfl, ⟨nd, rfl⟩⟩))
    go_meet
    case rel => exact ⟨_, (((l3.length : Int) != t654)), rl_, H', ⟨by first | omega | exact Nat.le_refl _⟩, ⟨blkU_ BK652.out⟩, ⟨bel_⟩⟩
  ·replace c8 := Bool.eq_false_iff.mpr c8
   subst c8
   rw [if_neg (show ¬ (false = true) by decide)] at H
   have H' := Aside0.mk H
   clear H
   go_wp2_with (first | (refine gcL_ 79 (some 12) Try.func79 #[.int .i64 a0, .int .i64 a1] ?_; (with_reducible refine (spec_l3Place.calls a0 a1 false _ A7.out).mono ?_); rintro e w' ⟨rfl, ⟨nd, rfl⟩⟩; refine ⟨_, rfl, ?_⟩))
   go_meet
   case rel => exact ⟨_, (true), rl_, H', ⟨by first | omega | exact Nat.le_refl _⟩, ⟨blkU_ BK652.out⟩, ⟨bel_⟩⟩
 case rest =>
  clear HC5
  (try clear c3); (try clear c8); (try clear c9); (try clear c9b0); (try clear c9b1)
  obtain ⟨kq, x26_4, rfl, HA, HJ4, BK652, HB⟩ := hcut
  cases kq with
  | zero => exact absurd HA.out (by simp [spec_PathRoot.j0])
  | succ kj4 =>
   have H := HA.out
   clear HA
   simp only [spec_PathRoot.j0] at H
   by_cases c11 : x26_4 = true
   ·subst c11
    rw [if_pos rfl] at H
    simp only [Option.some.injEq, Prod.mk.injEq] at H
    obtain ⟨rfl, rfl, rfl, rfl, rfl⟩ := H
    obtain ⟨z12_0, z12_1, z12_2, z12_3, f12_0, f12_1, f12_2, f12_3⟩ := cz4_ BK652.out
    go_wp2
    refine bodyPost_ret (results_ct rfl _ _ gb652 29 #[.int .u64 0, .int .u64 0, .int .u64 0, .int .u64 0] (0, 0) _ rfl (blkF_ BK652.out) Try.underlying29 rfl (by kernel_rfl)) rfl ?_
    exact ⟨rfl_, bel_⟩
   ·replace c11 := Bool.eq_false_iff.mpr c11
    subst c11
    rw [if_neg (show ¬ (false = true) by decide)] at H
    obtain ⟨⟨t655, t656, t657, t658⟩, A13, H⟩ := bnd_ H
    dsimp only at H
    obtain ⟨⟨t659, t660, t661, t662⟩, A14, H⟩ := bnd_ H
    dsimp only at H
    simp only [Option.some.injEq, Prod.mk.injEq] at H
    obtain ⟨rfl, rfl, rfl, rfl, rfl⟩ := H
    go_wp2_with (first | (refine gcL_ 92 (some 31) Try.func92 #[.string a2] ?_; (with_reducible refine (spec_HashLeaf.calls kj4 a2 t655 t656 t657 t658 _ A13.out).mono ?_); rintro e w15 ⟨rfl, hb⟩; refine ⟨_, rfl, ?_⟩; replace BK652 := bb_ BK652.out hb; replace HB := stepB_ hb; (try clear hb)) | (refine gcL_ 91 (some 33) Try.func91 #[.int .i64 a0, .int .i64 a1, .agg #[.int .u64 t655, .int .u64 t656, .int .u64 t657, .int .u64 t658], .slice A3 l3.length c3] ?_; (with_reducible refine (spec_l3Up.calls kj4 a0 a1 t655 t656 t657 t658 _ _ l3 t659 t660 t661 t662 _ ?side1 ?side2 A14.out).mono ?_); (case side1 => exact cU_ (Kd.C_below HR3.out HB.out)); (case side2 => exact HC3.out); rintro e w16 ⟨rfl, hb⟩; refine ⟨_, rfl, ?_⟩; replace BK652 := bb_ BK652.out hb; replace HB := stepB_ hb; (try clear hb); obtain ⟨z17_0, z17_1, z17_2, z17_3, f17_0, f17_1, f17_2, f17_3⟩ := cz4_ BK652.out))
    refine bodyPost_ret (results_ct rfl _ _ gb652 29 #[.int .u64 t659, .int .u64 t660, .int .u64 t661, .int .u64 t662] (0, 0) _ rfl (blkF_ BK652.out) Try.underlying29 rfl (by kernel_rfl)) rfl ?_
    exact ⟨rfl_, bel_⟩
end
section
def impl_pathOk.f (k : Nat) (a0 a1 : Int) (a2 : ByteArray) (l3 : List (S29)) : Option (Bool) := (impl_PathLen.f k a0 a1).bind fun t835 => (if t835 ≥ 0 then (if (a2.size : Int) ≤ 40 then (some ((l3.length : Int) == t835)) else (some false)) else (some false))
theorem impl_pathOk.calls (k : Nat) (a0 a1 : Int) (a2 : ByteArray) (A3 : Option Addr) (c3 : Nat) (l3 : List (S29)) (r : Bool) (w : World) (hr3 : Kd.C k29 w A3 l3.length l3) (hc3 : l3.length ≤ c3) (h : impl_pathOk.f k a0 a1 a2 l3 = some r) :
  Calls Try.prog 96 #[.int .i64 a0, .int .i64 a1, .string a2, .slice A3 l3.length c3] w fun e w' => e = .returned (.bool r) ∧ Below w.heap.size w w' := by
 have HR3 := Aside0.mk hr3
 have HC3 := Aside0.mk hc3
 clear hr3 hc3
 have HB := a_ (Below.refl w.heap.size w)
 have H := h
 unfold impl_pathOk.f at H
 clear h
 obtain ⟨t835, A5, H⟩ := bnd_ H
 by_cases c6 : t835 ≥ 0
 ·rw [if_pos c6] at H
  have c6b0 : decide (0 ≤ t835) = true := decide_eq_true c6
  clear c6
  by_cases c7 : (a2.size : Int) ≤ 40
  ·rw [if_pos c7] at H
   have c7b0 := decide_eq_true c7
   have c7b1 : decide (a2.size ≤ 40) = true := decide_eq_true (by omega)
   clear c7
   obtain rfl := Option.some.inj H
   go_enter Try.func96, Try.ntmps96
   go_wp2_with (first | (refine gcL_ 78 (some 12) Try.func78 #[.int .i64 a0, .int .i64 a1] ?_; (with_reducible refine (impl_PathLen.calls k a0 a1 t835 _ A5.out).mono ?_); rintro e w8 ⟨rfl, hb⟩; refine ⟨_, rfl, ?_⟩; replace HB := stepB_ hb; (try clear hb)))
   go_ret
   exact ⟨rfl_, bel_⟩
  ·rw [if_neg c7] at H
   have c7b0 := decide_eq_false c7
   have c7b1 : decide (a2.size ≤ 40) = false := decide_eq_false (by omega)
   clear c7
   obtain rfl := Option.some.inj H
   go_enter Try.func96, Try.ntmps96
   go_wp2_with (first | (refine gcL_ 78 (some 12) Try.func78 #[.int .i64 a0, .int .i64 a1] ?_; (with_reducible refine (impl_PathLen.calls k a0 a1 t835 _ A5.out).mono ?_); rintro e w9 ⟨rfl, hb⟩; refine ⟨_, rfl, ?_⟩; replace HB := stepB_ hb; (try clear hb)))
   go_ret
   exact ⟨rfl_, bel_⟩
 ·rw [if_neg c6] at H
  have c6b0 : decide (0 ≤ t835) = false := decide_eq_false c6
  clear c6
  obtain rfl := Option.some.inj H
  go_enter Try.func96, Try.ntmps96
  go_wp2_with (first | (refine gcL_ 78 (some 12) Try.func78 #[.int .i64 a0, .int .i64 a1] ?_; (with_reducible refine (impl_PathLen.calls k a0 a1 t835 _ A5.out).mono ?_); rintro e w10 ⟨rfl, hb⟩; refine ⟨_, rfl, ?_⟩; replace HB := stepB_ hb; (try clear hb)))
  go_ret
  exact ⟨rfl_, bel_⟩
end
end Go.Proofs.Ytflckegggopdnaa.B
