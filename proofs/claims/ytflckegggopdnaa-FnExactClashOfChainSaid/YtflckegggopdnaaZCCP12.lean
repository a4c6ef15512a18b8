/- Texts that this claim's law leans on, without what nothing names. What each says stands at its theorems; conditions stand in them. (Put together by the session's program shake.py; Lean checks it.) -/
import Derived.Test.YtflckegggopdnaaZCCP0
import Derived.Test.YtflckegggopdnaaZCCP2
import Derived.Test.YtflckegggopdnaaZCCP8
import Derived.Test.YtflckegggopdnaaZCCP3
import Derived.Test.YtflckegggopdnaaZCCP5
set_option linter.unusedVariables false
set_option maxHeartbeats 8000000
set_option maxRecDepth 100000
set_option linter.unusedSimpArgs false
namespace Go.Proofs.Ytflckegggopdnaa.B
section
open Go.RowKit Go.Proofs.YtflckegggopdnaaW
section
def spec_l3Up.f : Nat → Int → Int → Int → Int → Int → Int → List (S29) → Option (Int × Int × Int × Int)
 | 0, _, _, _, _, _, _, _ => none
 | k + 1, a0, a1, a2, a3, a4, a5, l3 => if a0 < 2 then (some (a2, a3, a4, a5)) else ((spec_TreeSplit.f k a0).bind fun t0 => (if 0 ≤ (wrap64 ((l3.length : Int) - 1)) then (if (wrap64 ((l3.length : Int) - 1)) < (l3.length : Int) then (if (wrap64 ((l3.length : Int) - 1)) ≤ (l3.length : Int) then ((some (l3.take ((wrap64 ((l3.length : Int) - 1)) : Int).toNat : List (S29))).bind fun y0 => (if a1 < t0 then ((spec_l3Up.f k t0 a1 a2 a3 a4 a5 y0).bind fun bt0 => ((spec_HashPair.f k bt0.1 bt0.2.1 bt0.2.2.1 bt0.2.2.2 ((rd_T29 l3 (wrap64 ((l3.length : Int) - 1))).f0) ((rd_T29 l3 (wrap64 ((l3.length : Int) - 1))).f1) ((rd_T29 l3 (wrap64 ((l3.length : Int) - 1))).f2) ((rd_T29 l3 (wrap64 ((l3.length : Int) - 1))).f3)).bind fun bt1 => (some (bt1.1, bt1.2.1, bt1.2.2.1, bt1.2.2.2)))) else ((spec_l3Up.f k (wrap64 (a0 - t0)) (wrap64 (a1 - t0)) a2 a3 a4 a5 y0).bind fun bt2 => ((spec_HashPair.f k ((rd_T29 l3 (wrap64 ((l3.length : Int) - 1))).f0) ((rd_T29 l3 (wrap64 ((l3.length : Int) - 1))).f1) ((rd_T29 l3 (wrap64 ((l3.length : Int) - 1))).f2) ((rd_T29 l3 (wrap64 ((l3.length : Int) - 1))).f3) bt2.1 bt2.2.1 bt2.2.2.1 bt2.2.2.2).bind fun bt3 => (some (bt3.1, bt3.2.1, bt3.2.2.1, bt3.2.2.2)))))) else (none)) else (none)) else (none)))
def spec_l3Up.T7 : TT_ := (true, [([], []), ([], []), ([], []), ([], []), ([0, 1, 2, 3], [0, 1, 2, 3]), ([], []), ([4, 5, 4], [4, 5]), ([6, 6, 0, 1, 2, 3, 4, 5, 6], [6])])
def spec_l3Up.B7 : List Nat := [0, 0, 0, 0, 15, 0, 63, 127]
theorem spec_l3Up.tab7 : rtab .any (opsOf Try.f91 7) = spec_l3Up.T7 := by kernel_rfl
theorem spec_l3Up.bits7 : waitsOk spec_l3Up.T7.2 spec_l3Up.B7 = true := by kernel_rfl
def spec_l3Up.T8 : TT_ := (true, [([], []), ([], []), ([], []), ([1, 2], [1, 2]), ([], []), ([], []), ([4, 5], [4, 5]), ([], []), ([], []), ([3, 6, 7, 8], [3, 6, 7, 8]), ([0, 9, 9], [0, 9]), ([10, 10, 0, 1, 2, 3, 4, 5, 6, 7, 8, 9, 10], [10])])
def spec_l3Up.B8 : List Nat := [0, 0, 0, 6, 0, 0, 48, 0, 0, 510, 1023, 2047]
theorem spec_l3Up.tab8 : rtab .any (opsOf Try.f91 8) = spec_l3Up.T8 := by kernel_rfl
theorem spec_l3Up.bits8 : waitsOk spec_l3Up.T8.2 spec_l3Up.B8 = true := by kernel_rfl
theorem spec_l3Up.calls (k : Nat) : ∀ (a5 a4 a0 a1 a2 a3 : Int) (A1 : Option Addr) (c3 : Nat) (l3 : List (S29)) (r0 r1 r2 r3 : Int) (w : World) (hr3 : Kd.C k29 w A1 l3.length l3) (hc3 : l3.length ≤ c3) (h : spec_l3Up.f k a5 a4 a0 a1 a2 a3 l3 = some (r0, r1, r2, r3)),
  Calls Try.prog 91 #[.int .i64 a5, .int .i64 a4, .agg #[.int .u64 a0, .int .u64 a1, .int .u64 a2, .int .u64 a3], .slice A1 l3.length c3] w fun e w' => e = .returned (.agg #[.int .u64 r0, .int .u64 r1, .int .u64 r2, .int .u64 r3]) ∧ Below w.heap.size w w' := by
 induction k using Nat.strongRecOn with
 | _ k ih =>
 intro a5 a4 a0 a1 a2 a3 A1 c3 l3 r0 r1 r2 r3 w hr3 hc3 h
 cases k with
 | zero => exact absurd h (by simp [spec_l3Up.f])
 | succ k =>
 simp only [spec_l3Up.f] at h
 have hu29 := Try.underlying29
 have HR3 := a_ hr3
 have HC3 := a_ hc3
 clear hr3 hc3
 have HB := rB_ w
 have H : (if a5 < 2 then (some (a0, a1, a2, a3)) else ((spec_TreeSplit.f k a5).bind fun t0 => (if 0 ≤ (wrap64 ((l3.length : Int) - 1)) then (if (wrap64 ((l3.length : Int) - 1)) < (l3.length : Int) then (if (wrap64 ((l3.length : Int) - 1)) ≤ (l3.length : Int) then ((some (l3.take ((wrap64 ((l3.length : Int) - 1)) : Int).toNat : List (S29))).bind fun y0 => (if a4 < t0 then ((spec_l3Up.f k t0 a4 a0 a1 a2 a3 y0).bind fun bt0 => ((spec_HashPair.f k bt0.1 bt0.2.1 bt0.2.2.1 bt0.2.2.2 ((rd_T29 l3 (wrap64 ((l3.length : Int) - 1))).f0) ((rd_T29 l3 (wrap64 ((l3.length : Int) - 1))).f1) ((rd_T29 l3 (wrap64 ((l3.length : Int) - 1))).f2) ((rd_T29 l3 (wrap64 ((l3.length : Int) - 1))).f3)).bind fun bt1 => (some (bt1.1, bt1.2.1, bt1.2.2.1, bt1.2.2.2)))) else ((spec_l3Up.f k (wrap64 (a5 - t0)) (wrap64 (a4 - t0)) a0 a1 a2 a3 y0).bind fun bt2 => ((spec_HashPair.f k ((rd_T29 l3 (wrap64 ((l3.length : Int) - 1))).f0) ((rd_T29 l3 (wrap64 ((l3.length : Int) - 1))).f1) ((rd_T29 l3 (wrap64 ((l3.length : Int) - 1))).f2) ((rd_T29 l3 (wrap64 ((l3.length : Int) - 1))).f3) bt2.1 bt2.2.1 bt2.2.2.1 bt2.2.2.2).bind fun bt3 => (some (bt3.1, bt3.2.1, bt3.2.2.1, bt3.2.2.2)))))) else (none)) else (none)) else (none)))) = some (r0, r1, r2, r3) := h
 clear h
 by_cases c5 : a5 < 2
 ·rw [if_pos c5] at H
  have c12 := decide_eq_true c5
  clear c5
  simp only [Option.some.injEq, Prod.mk.injEq] at H
  obtain ⟨rfl, rfl, rfl, rfl⟩ := H
  go_enter Try.func91, Try.ntmps91
  go_wp2_with (first | (refine bx_ 6 #[.int .u64 a0, .int .u64 a1, .int .u64 a2, .int .u64 a3] 29 ?_; intro gb2 w16 hg hb BK1 GW0; replace HB := s_ hb; clear hb hg) | (refine bx_ 8 #[.int .u64 0, .int .u64 0, .int .u64 0, .int .u64 0] 29 ?_; intro gb0 w17 hg hb BK0 GW1; replace HB := s_ hb; obtain ⟨NB0, NB2⟩ := ne2_ BK1.out hg; replace BK1 := bb_ BK1.out hb; clear hb hg; have hnb4 := NB0.out; have hnc4 := NB2.out; obtain ⟨z12, z13, z14, z15, f12, f13, f14, f15⟩ := cz4_ BK1.out; obtain ⟨z0, z1, z2, z3, f0, f1, f2, f3⟩ := cz4_ BK0.out))
  refine bodyPost_ret (results_cell_row rfl _ _ gb0 29 #[.int .u64 a0, .int .u64 a1, .int .u64 a2, .int .u64 a3] (0, 0) _ rfl (blkF_ BK0.out) Try.underlying29 rfl (by kernel_rfl)) rfl ?_
  exact ⟨rfl_, bel_⟩
 ·rw [if_neg c5] at H
  have c12 := decide_eq_false c5
  clear c5
  obtain ⟨t0, A0, H⟩ := bnd_ H
  obtain ⟨ji12, hji12⟩ : ∃ j_ : Int, (wrap64 ((l3.length : Int) - 1)) = j_ := ⟨_, rfl⟩
  replace H : (if 0 ≤ (ji12) then (if (ji12) < (l3.length : Int) then (if (ji12) ≤ (l3.length : Int) then ((some (l3.take ((ji12) : Int).toNat : List (S29))).bind fun y0 => (if a4 < t0 then ((spec_l3Up.f k t0 a4 a0 a1 a2 a3 y0).bind fun bt0 => ((spec_HashPair.f k bt0.1 bt0.2.1 bt0.2.2.1 bt0.2.2.2 ((rd_T29 l3 (ji12)).f0) ((rd_T29 l3 (ji12)).f1) ((rd_T29 l3 (ji12)).f2) ((rd_T29 l3 (ji12)).f3)).bind fun bt1 => (some (bt1.1, bt1.2.1, bt1.2.2.1, bt1.2.2.2)))) else ((spec_l3Up.f k (wrap64 (a5 - t0)) (wrap64 (a4 - t0)) a0 a1 a2 a3 y0).bind fun bt2 => ((spec_HashPair.f k ((rd_T29 l3 (ji12)).f0) ((rd_T29 l3 (ji12)).f1) ((rd_T29 l3 (ji12)).f2) ((rd_T29 l3 (ji12)).f3) bt2.1 bt2.2.1 bt2.2.2.1 bt2.2.2.2).bind fun bt3 => (some (bt3.1, bt3.2.1, bt3.2.2.1, bt3.2.2.2)))))) else (none)) else (none)) else (none)) = some (r0, r1, r2, r3) := by first | (rw [hji12] at H; exact H) | (simp only [hji12] at H ⊢; exact H)
  (try rw [hji12] at A0)
  have hji12w : (IntKind.i64.wrap ((l3.length : Int) - 1)) = ji12 := (i64_w _).trans hji12
  obtain ⟨c13, H⟩ := ifd_ H
  obtain ⟨c14, H⟩ := ifd_ H
  have c15 := eq_true (ofd_ : 0 ≤ (ji12))
  obtain ⟨c1, H⟩ := ifn_ H
  have c16 := eq_true c1
  have c17 := decide_eq_true c1
  clear c1
  obtain ⟨y0, hy2⟩ : ∃ y_ : List (S29), y_ = (l3.take ((ji12) : Int).toNat) := ⟨_, rfl⟩
  replace H : (if a4 < t0 then ((spec_l3Up.f k t0 a4 a0 a1 a2 a3 y0).bind fun bt0 => ((spec_HashPair.f k bt0.1 bt0.2.1 bt0.2.2.1 bt0.2.2.2 ((rd_T29 l3 (ji12)).f0) ((rd_T29 l3 (ji12)).f1) ((rd_T29 l3 (ji12)).f2) ((rd_T29 l3 (ji12)).f3)).bind fun bt1 => (some (bt1.1, bt1.2.1, bt1.2.2.1, bt1.2.2.2)))) else ((spec_l3Up.f k (wrap64 (a5 - t0)) (wrap64 (a4 - t0)) a0 a1 a2 a3 y0).bind fun bt2 => ((spec_HashPair.f k ((rd_T29 l3 (ji12)).f0) ((rd_T29 l3 (ji12)).f1) ((rd_T29 l3 (ji12)).f2) ((rd_T29 l3 (ji12)).f3) bt2.1 bt2.2.1 bt2.2.2.1 bt2.2.2.2).bind fun bt3 => (some (bt3.1, bt3.2.1, bt3.2.2.1, bt3.2.2.2))))) = some (r0, r1, r2, r3) := rpl_ hy2 H
  have Ny0 := a_ hy2
  clear hy2
  by_cases c0 : a4 < t0
  ·rw [if_pos c0] at H
   have c11 := decide_eq_true c0
   clear c0
   obtain ⟨⟨t1, t2, t3, t4⟩, A2, H⟩ := bnd_ H
   dsimp only at H
   obtain ⟨⟨t9, t10, t11, t12⟩, A3, H⟩ := bnd_ H
   dsimp only at H
   simp only [Option.some.injEq, Prod.mk.injEq] at H
   obtain ⟨rfl, rfl, rfl, rfl⟩ := H
   go_enter Try.func91, Try.ntmps91
   try go_wp2_with (first | (refine bx_ 6 #[.int .u64 a0, .int .u64 a1, .int .u64 a2, .int .u64 a3] 29 ?_; intro gb2 w10 hg hb BK1 GW0; replace HB := s_ hb; clear hb hg) | (refine bx_ 8 #[.int .u64 0, .int .u64 0, .int .u64 0, .int .u64 0] 29 ?_; intro gb0 w1 hg hb BK0 GW1; replace HB := s_ hb; obtain ⟨NB0, NB2⟩ := ne2_ BK1.out hg; replace BK1 := bb_ BK1.out hb; clear hb hg) | (refine gcD_ 88 16 Try.func88 (spec_TreeSplit.calls _ _ _ _ A0.out) ?_; intro nd; (try (rw [drewN_self w1]; generalize hq_ : World.drewN w1 _ = w1; have n0_ : Aside0 (w1.heap[gb2]? = some (.cells #[.int .u64 a0, .int .u64 a1, .int .u64 a2, .int .u64 a3] 29 (0, 0))) := ⟨by rw [← hq_]; exact (blkU_ BK1.out)⟩; have n1_ : Aside0 (w1.heap[gb0]? = some (.cells #[.int .u64 0, .int .u64 0, .int .u64 0, .int .u64 0] 29 (0, 0))) := ⟨by rw [← hq_]; exact (blkU_ BK0.out)⟩; have n2_ : Aside0 (Below w.heap.size w w1) := ⟨by rw [← hq_]; exact bel_⟩; clear BK1 BK0 HB hq_; have BK1 := n0_; have BK0 := n1_; have HB := n2_; clear n0_ n1_ n2_)); have p0 : 0 ≤ ((ji12) : Int) := ofd_; have q0 : (ji12) < (l3.length : Int) := ofd_; obtain ⟨ad0, e0, hx0, hx1, hx2, hx3⟩ := at_T29 HR3.out (ji12) p0 q0; cases e0; replace hx0 := pc_ HB.out hx0; replace hx1 := pc_ HB.out hx1; replace hx2 := pc_ HB.out hx2; replace hx3 := pc_ HB.out hx3; replace p0 := eq_true p0; replace q0 := eq_true q0) | (refine bx_ 10 #[.int .u64 0, .int .u64 0, .int .u64 0, .int .u64 0] 29 ?_; intro gb1 w7 hg hb BK2 GW2; replace HB := s_ hb; obtain ⟨NB4, NB5⟩ := ne2_ BK1.out hg; replace BK1 := bb_ BK1.out hb; obtain ⟨NB3, NB1⟩ := ne2_ BK0.out hg; replace BK0 := bb_ BK0.out hb; clear hb hg; have hnb0 := NB5.out; have hnc0 := NB4.out; have hnb1 := NB1.out; have hnc1 := NB3.out; obtain ⟨z4, z5, z6, z7, f4, f5, f6, f7⟩ := cz4_ BK2.out) | ((with_reducible refine gate_store (t := 29) (p := 10) rfl ?_); refine store_event (t := 29) (p := 10) (v := ?vo_w26) (w1 := ((((w7.setCell ⟨gb1, 0, none⟩ (.int .u64 ((rd_T29 l3 (ji12)).f0))).setCell ⟨gb1, 1, none⟩ (.int .u64 ((rd_T29 l3 (ji12)).f1))).setCell ⟨gb1, 2, none⟩ (.int .u64 ((rd_T29 l3 (ji12)).f2))).setCell ⟨gb1, 3, none⟩ (.int .u64 ((rd_T29 l3 (ji12)).f3)))) ?hg ?ho ?hn ?hr ?_; (case ho => rfl); (case hg => rfl); (case hn => rfl); (case hr => first | (go_simp; done) | (go_simp; rfl)); intro w3 hw; have n0_ : Aside0 (w3.heap[gb2]? = some (.cells #[.int .u64 a0, .int .u64 a1, .int .u64 a2, .int .u64 a3] 29 (0, 0))) := ⟨(by rw [hw]; exact (blkU_ BK1.out))⟩; have n1_ : Aside0 (w3.heap[gb0]? = some (.cells #[.int .u64 0, .int .u64 0, .int .u64 0, .int .u64 0] 29 (0, 0))) := ⟨(by rw [hw]; exact (blkU_ BK0.out))⟩; have n2_ : Aside0 (w3.heap[gb1]? = some (.cells #[.int .u64 ((rd_T29 l3 (ji12)).f0), .int .u64 ((rd_T29 l3 (ji12)).f1), .int .u64 ((rd_T29 l3 (ji12)).f2), .int .u64 ((rd_T29 l3 (ji12)).f3)] 29 (0, 0))) := ⟨(by rw [hw]; exact (blkF_ BK2.out))⟩; have n3_ : Aside0 (Below w.heap.size w w3) := ⟨(by rw [hw]; exact bel_)⟩; clear hw; clear BK1; clear BK0; clear BK2; clear HB; have BK1 := n0_; have BK0 := n1_; have BK2 := n2_; have HB := n3_; clear n0_ n1_ n2_ n3_; have q1 : ((ji12) : Int) ≤ ((l3.length : Int) : Int) := ofd_; obtain ⟨i027, hi0, _, hsz27, _⟩ := info_parts info29; have hroom27 : l3.length ≤ c3 := HC3.out; have hC27 : Kd.C k29 _ (some ad0) l3.length l3 := HR3.out; have hcut27 := cut_to (P := Try.prog) 49 29 .i64 Try.underlying49 hi0 (some ad0) l3.length c3 (ji12) (ofd_) q1 hroom27; have hr27 := Kd.C_take (m := ((ji12) : Int).toNat) hC27 (by omega); have hy0 : y0.length = ((ji12) : Int).toNat := (by rw [Ny0.out, List.length_take]; omega); rw [← Ny0.out] at hr27; rw [← hy0] at hcut27; have HR626 := a_ hr27; have HC626 := a_ (show y0.length ≤ c3 from by omega); clear hr27 hC27 hroom27 hi0 hsz27; have KY27 := a_ hy0; clear hy0; replace q1 := eq_true q1))
   replace BK1 := a_ (blk_drew BK1.out)
   replace BK0 := a_ (blk_drew BK0.out)
   replace BK2 := a_ (blk_drew BK2.out)
   replace HB := a_ (below_drew1 HB.out)
   refine start_ (n := 8) (S := fun w' => hdc4_ w' gb2 (.int .u64 a0) (.int .u64 a1) (.int .u64 a2) (.int .u64 a3) (hd4_ w' gb1 (.int .u64 ((rd_T29 l3 (ji12)).f0)) (.int .u64 ((rd_T29 l3 (ji12)).f1)) (.int .u64 ((rd_T29 l3 (ji12)).f2)) (.int .u64 ((rd_T29 l3 (ji12)).f3)))) (ds := []) #[false, false, false, false, false, false, false, false] (by kernel_rfl) rfl rfl (hcc4_ BK1.out (hc4_ BK2.out)) (fun hHeld => ?_); refine with_tabW spec_l3Up.tab7 spec_l3Up.bits7 (fun HT HW_ => ?_)
   generalize w3.drew = w11 at BK1 BK0 BK2 HB hHeld ⊢
   refine qP_ 0 31 8 1 ?_
   refine qP_ 1 32 8 3 ?_
   refine qP_ 3 34 8 11 ?_
   refine qT_ 2 33 8 15 ?_
   refine qT_ 5 36 8 47 ?_
   refine oneP_ 4 (some 35) (b_ 8 63) HT (fun K hK => ?_)
   refine goN_ Try.func91 #[.int .i64 t0, .int .i64 a4, .agg #[.int .u64 a0, .int .u64 a1, .int .u64 a2, .int .u64 a3], .slice (some ad0) y0.length c3] ?_
   with_reducible refine (ih k (by omega) t0 a4 a0 a1 a2 a3 _ _ y0 t1 t2 t3 t4 _ ?side1 ?side2 A2.out).mono ?_
   (case side1 => exact cU_ (Kd.C_below HR626.out HB.out))
   (case side2 => exact HC626.out)
   rintro e w12 ⟨rfl, hb⟩
   refine ⟨_, rfl, ?_⟩
   replace BK1 := bb_ BK1.out hb
   replace BK0 := bb_ BK0.out hb
   replace BK2 := bb_ BK2.out hb
   replace HB := s_ hb
   (try clear hb)
   refine hK.out _ _ (hcc4_ BK1.out (hc4_ BK2.out)) (fun hHeld => ?_)
   clear hK K
   refine normP_ (some 35) ?_
   refine oneP_ 6 (some 37) (b_ 8 127) HT (fun K hK => ?_)
   refine goes_ Try.func119 (by kernel_rfl) rfl #[.agg #[.int .u64 t1, .int .u64 t2, .int .u64 t3, .int .u64 t4], .agg #[.int .u64 ((rd_T29 l3 (ji12)).f0), .int .u64 ((rd_T29 l3 (ji12)).f1), .int .u64 ((rd_T29 l3 (ji12)).f2), .int .u64 ((rd_T29 l3 (ji12)).f3)]] (by rfl) rfl rfl (by (try simp only [List.map_toArray, List.map_cons, List.map_nil]); first | done | (simp only [hji12]; rfl) | rfl | (simp only [List.length_drop, List.length_take]; rfl)) ?_
   with_reducible refine (spec_HashPair.calls _ _ _ _ _ _ _ _ _ _ _ _ _ _ A3.out).mono ?_
   rintro e w5 ⟨rfl, hb⟩
   refine ⟨_, rfl, ?_⟩
   replace BK1 := bb_ BK1.out hb
   replace BK0 := bb_ BK0.out hb
   replace BK2 := bb_ BK2.out hb
   replace HB := s_ hb
   (try clear hb)
   refine hK.out _ _ (hcc4_ BK1.out (hc4_ BK2.out)) (fun hHeld => ?_)
   clear hK K
   refine normP_ (some 37) ?_
   refine oneP_ 7 none (b_ 8 255) HT (fun K hK => ?_)
   have hs0 : w5.cell? ⟨gb0, 0, none⟩ = some (.int .u64 0) := (blk_cell BK0.out 0).trans rfl
   have hfs31 := blk_frozen BK0.out 0
   have hns31_0 := NB0.out
   have hns31_2 := NB1.out
   have hms31_0 := NB2.out
   have hms31_2 := NB3.out
   have hs1 : w5.cell? ⟨gb0, 1, none⟩ = some (.int .u64 0) := (blk_cell BK0.out 1).trans rfl
   have hfs32 := blk_frozen BK0.out 1
   have hns32_0 := NB0.out
   have hns32_2 := NB1.out
   have hms32_0 := NB2.out
   have hms32_2 := NB3.out
   have hs2 : w5.cell? ⟨gb0, 2, none⟩ = some (.int .u64 0) := (blk_cell BK0.out 2).trans rfl
   have hfs33 := blk_frozen BK0.out 2
   have hns33_0 := NB0.out
   have hns33_2 := NB1.out
   have hms33_0 := NB2.out
   have hms33_2 := NB3.out
   have hs3 : w5.cell? ⟨gb0, 3, none⟩ = some (.int .u64 0) := (blk_cell BK0.out 3).trans rfl
   have hfs34 := blk_frozen BK0.out 3
   have hns34_0 := NB0.out
   have hns34_2 := NB1.out
   have hms34_0 := NB2.out
   have hms34_2 := NB3.out
   refine skip_ (w1 := ?_) (by rfl) rfl ?_ ?_
   rotate_left
   ·go_simp
    rfl
   refine hK.out _ _ ⟨((cell_far (p := ⟨gb0, _, none⟩) NB0.out _).trans (((cell_far (p := ⟨gb0, _, none⟩) NB0.out _).trans ((cf2_ NB0.out hHeld.1))))), ((cell_far (p := ⟨gb0, _, none⟩) NB0.out _).trans (((cell_far (p := ⟨gb0, _, none⟩) NB0.out _).trans ((cf2_ NB0.out hHeld.2.1))))), ((cell_far (p := ⟨gb0, _, none⟩) NB0.out _).trans (((cell_far (p := ⟨gb0, _, none⟩) NB0.out _).trans ((cf2_ NB0.out hHeld.2.2.1))))), ((cell_far (p := ⟨gb0, _, none⟩) NB0.out _).trans (((cell_far (p := ⟨gb0, _, none⟩) NB0.out _).trans ((cf2_ NB0.out hHeld.2.2.2.1))))), ((cell_far (p := ⟨gb0, _, none⟩) NB1.out _).trans (((cell_far (p := ⟨gb0, _, none⟩) NB1.out _).trans ((cf2_ NB1.out hHeld.2.2.2.2.1))))), ((cell_far (p := ⟨gb0, _, none⟩) NB1.out _).trans (((cell_far (p := ⟨gb0, _, none⟩) NB1.out _).trans ((cf2_ NB1.out hHeld.2.2.2.2.2.1))))), ((cell_far (p := ⟨gb0, _, none⟩) NB1.out _).trans (((cell_far (p := ⟨gb0, _, none⟩) NB1.out _).trans ((cf2_ NB1.out hHeld.2.2.2.2.2.2.1))))), ((cell_far (p := ⟨gb0, _, none⟩) NB1.out _).trans (((cell_far (p := ⟨gb0, _, none⟩) NB1.out _).trans ((cf2_ NB1.out hHeld.2.2.2.2.2.2.2)))))⟩ (fun hHeld => ?_)
   clear hK K
   refine done_ (done_of HT.out (by kernel_rfl)) ?_
   try go_wp2
   refine bodyPost_ret (results_cell_row rfl _ _ gb0 29 #[.int .u64 t9, .int .u64 t10, .int .u64 t11, .int .u64 t12] (0, 0) _ rfl (blkF_ BK0.out) Try.underlying29 rfl (by kernel_rfl)) rfl ?_
   exact ⟨by first | rfl | (simp [errW_none, errW_some] <;> rfl) | (simp only [← hji12]; first | rfl | (simp [errW_none, errW_some] <;> rfl)) | (simp [*, errW_none, errW_some] <;> rfl), bel_⟩
  ·rw [if_neg c0] at H
   have c11 := decide_eq_false c0
   clear c0
   obtain ⟨⟨t5, t6, t7, t8⟩, A4, H⟩ := bnd_ H
   dsimp only at H
   obtain ⟨⟨t13, t14, t15, t16⟩, A5, H⟩ := bnd_ H
   dsimp only at H
   simp only [Option.some.injEq, Prod.mk.injEq] at H
   obtain ⟨rfl, rfl, rfl, rfl⟩ := H
   go_enter Try.func91, Try.ntmps91
   try go_wp2_with (first | (refine bx_ 6 #[.int .u64 a0, .int .u64 a1, .int .u64 a2, .int .u64 a3] 29 ?_; intro gb2 w13 hg hb BK1 GW0; replace HB := s_ hb; clear hb hg) | (refine bx_ 8 #[.int .u64 0, .int .u64 0, .int .u64 0, .int .u64 0] 29 ?_; intro gb0 w2 hg hb BK0 GW1; replace HB := s_ hb; obtain ⟨NB0, NB2⟩ := ne2_ BK1.out hg; replace BK1 := bb_ BK1.out hb; clear hb hg) | (refine gcD_ 88 16 Try.func88 (spec_TreeSplit.calls _ _ _ _ A0.out) ?_; intro nd; (try (rw [drewN_self w2]; generalize hq_ : World.drewN w2 _ = w2; have n0_ : Aside0 (w2.heap[gb2]? = some (.cells #[.int .u64 a0, .int .u64 a1, .int .u64 a2, .int .u64 a3] 29 (0, 0))) := ⟨by rw [← hq_]; exact (blkU_ BK1.out)⟩; have n1_ : Aside0 (w2.heap[gb0]? = some (.cells #[.int .u64 0, .int .u64 0, .int .u64 0, .int .u64 0] 29 (0, 0))) := ⟨by rw [← hq_]; exact (blkU_ BK0.out)⟩; have n2_ : Aside0 (Below w.heap.size w w2) := ⟨by rw [← hq_]; exact bel_⟩; clear BK1 BK0 HB hq_; have BK1 := n0_; have BK0 := n1_; have HB := n2_; clear n0_ n1_ n2_)); have p0 : 0 ≤ ((ji12) : Int) := ofd_; have q0 : (ji12) < (l3.length : Int) := ofd_; obtain ⟨ad0, e0, hx0, hx1, hx2, hx3⟩ := at_T29 HR3.out (ji12) p0 q0; cases e0; replace hx0 := pc_ HB.out hx0; replace hx1 := pc_ HB.out hx1; replace hx2 := pc_ HB.out hx2; replace hx3 := pc_ HB.out hx3; replace p0 := eq_true p0; replace q0 := eq_true q0) | (refine bx_ 10 #[.int .u64 0, .int .u64 0, .int .u64 0, .int .u64 0] 29 ?_; intro gb1 w9 hg hb BK2 GW2; replace HB := s_ hb; obtain ⟨NB4, NB5⟩ := ne2_ BK1.out hg; replace BK1 := bb_ BK1.out hb; obtain ⟨NB3, NB1⟩ := ne2_ BK0.out hg; replace BK0 := bb_ BK0.out hb; clear hb hg; have hnb2 := NB5.out; have hnc2 := NB4.out; have hnb3 := NB1.out; have hnc3 := NB3.out; obtain ⟨z8, z9, z10, z11, f8, f9, f10, f11⟩ := cz4_ BK2.out) | ((with_reducible refine gate_store (t := 29) (p := 10) rfl ?_); refine store_event (t := 29) (p := 10) (v := ?vo_w43) (w1 := ((((w9.setCell ⟨gb1, 0, none⟩ (.int .u64 ((rd_T29 l3 (ji12)).f0))).setCell ⟨gb1, 1, none⟩ (.int .u64 ((rd_T29 l3 (ji12)).f1))).setCell ⟨gb1, 2, none⟩ (.int .u64 ((rd_T29 l3 (ji12)).f2))).setCell ⟨gb1, 3, none⟩ (.int .u64 ((rd_T29 l3 (ji12)).f3)))) ?hg ?ho ?hn ?hr ?_; (case ho => rfl); (case hg => rfl); (case hn => rfl); (case hr => first | (go_simp; done) | (go_simp; rfl)); intro w4 hw; have n0_ : Aside0 (w4.heap[gb2]? = some (.cells #[.int .u64 a0, .int .u64 a1, .int .u64 a2, .int .u64 a3] 29 (0, 0))) := ⟨(by rw [hw]; exact (blkU_ BK1.out))⟩; have n1_ : Aside0 (w4.heap[gb0]? = some (.cells #[.int .u64 0, .int .u64 0, .int .u64 0, .int .u64 0] 29 (0, 0))) := ⟨(by rw [hw]; exact (blkU_ BK0.out))⟩; have n2_ : Aside0 (w4.heap[gb1]? = some (.cells #[.int .u64 ((rd_T29 l3 (ji12)).f0), .int .u64 ((rd_T29 l3 (ji12)).f1), .int .u64 ((rd_T29 l3 (ji12)).f2), .int .u64 ((rd_T29 l3 (ji12)).f3)] 29 (0, 0))) := ⟨(by rw [hw]; exact (blkF_ BK2.out))⟩; have n3_ : Aside0 (Below w.heap.size w w4) := ⟨(by rw [hw]; exact bel_)⟩; clear hw; clear BK1; clear BK0; clear BK2; clear HB; have BK1 := n0_; have BK0 := n1_; have BK2 := n2_; have HB := n3_; clear n0_ n1_ n2_ n3_; have q2 : ((ji12) : Int) ≤ ((l3.length : Int) : Int) := ofd_; obtain ⟨i044, hi1, _, hsz44, _⟩ := info_parts info29; have hroom44 : l3.length ≤ c3 := HC3.out; have hC44 : Kd.C k29 _ (some ad0) l3.length l3 := HR3.out; have hcut44 := cut_to (P := Try.prog) 49 29 .i64 Try.underlying49 hi1 (some ad0) l3.length c3 (ji12) (ofd_) q2 hroom44; have hr44 := Kd.C_take (m := ((ji12) : Int).toNat) hC44 (by omega); have hy1 : y0.length = ((ji12) : Int).toNat := (by rw [Ny0.out, List.length_take]; omega); rw [← Ny0.out] at hr44; rw [← hy1] at hcut44; have HR626 := a_ hr44; have HC626 := a_ (show y0.length ≤ c3 from by omega); clear hr44 hC44 hroom44 hi1 hsz44; have KY44 := a_ hy1; clear hy1; replace q2 := eq_true q2))
   replace BK1 := a_ (blk_drew BK1.out)
   replace BK0 := a_ (blk_drew BK0.out)
   replace BK2 := a_ (blk_drew BK2.out)
   replace HB := a_ (below_drew1 HB.out)
   refine start_ (n := 12) (S := fun w' => hdc4_ w' gb1 (.int .u64 ((rd_T29 l3 (ji12)).f0)) (.int .u64 ((rd_T29 l3 (ji12)).f1)) (.int .u64 ((rd_T29 l3 (ji12)).f2)) (.int .u64 ((rd_T29 l3 (ji12)).f3)) (hd4_ w' gb2 (.int .u64 a0) (.int .u64 a1) (.int .u64 a2) (.int .u64 a3))) (ds := []) #[false, false, false, false, false, false, false, false, false, false, false, false] (by kernel_rfl) rfl rfl (hcc4_ BK2.out (hc4_ BK1.out)) (fun hHeld => ?_); refine with_tabW spec_l3Up.tab8 spec_l3Up.bits8 (fun HT HW_ => ?_)
   generalize w4.drew = w14 at BK1 BK0 BK2 HB hHeld ⊢
   refine qP_ 1 39 12 2 ?_
   refine qP_ 2 40 12 6 ?_
   refine qP_ 3 41 12 14 ?_
   refine qP_ 4 42 12 30 ?_
   refine qP_ 5 43 12 62 ?_
   refine qP_ 6 44 12 126 ?_
   refine qP_ 8 46 12 382 ?_
   refine qT_ 0 38 12 383 ?_
   refine qT_ 7 45 12 511 ?_
   refine oneP_ 9 (some 47) (b_ 12 1023) HT (fun K hK => ?_)
   refine goN_ Try.func91 #[.int .i64 (wrap64 (a5 - t0)), .int .i64 (wrap64 (a4 - t0)), .agg #[.int .u64 a0, .int .u64 a1, .int .u64 a2, .int .u64 a3], .slice (some ad0) y0.length c3] ?_
   with_reducible refine (ih k (by omega) (wrap64 (a5 - t0)) (wrap64 (a4 - t0)) a0 a1 a2 a3 _ _ y0 t5 t6 t7 t8 _ ?side1 ?side2 A4.out).mono ?_
   (case side1 => exact cU_ (Kd.C_below HR626.out HB.out))
   (case side2 => exact HC626.out)
   rintro e w15 ⟨rfl, hb⟩
   refine ⟨_, rfl, ?_⟩
   replace BK1 := bb_ BK1.out hb
   replace BK0 := bb_ BK0.out hb
   replace BK2 := bb_ BK2.out hb
   replace HB := s_ hb
   (try clear hb)
   refine hK.out _ _ (hcc4_ BK2.out (hc4_ BK1.out)) (fun hHeld => ?_)
   clear hK K
   refine normP_ (some 47) ?_
   refine oneP_ 10 (some 48) (b_ 12 2047) HT (fun K hK => ?_)
   refine goes_ Try.func119 (by kernel_rfl) rfl #[.agg #[.int .u64 ((rd_T29 l3 (ji12)).f0), .int .u64 ((rd_T29 l3 (ji12)).f1), .int .u64 ((rd_T29 l3 (ji12)).f2), .int .u64 ((rd_T29 l3 (ji12)).f3)], .agg #[.int .u64 t5, .int .u64 t6, .int .u64 t7, .int .u64 t8]] (by rfl) rfl rfl (by (try simp only [List.map_toArray, List.map_cons, List.map_nil]); first | done | (simp only [hji12]; rfl) | rfl | (simp only [List.length_drop, List.length_take]; rfl)) ?_
   with_reducible refine (spec_HashPair.calls _ _ _ _ _ _ _ _ _ _ _ _ _ _ A5.out).mono ?_
   rintro e w6 ⟨rfl, hb⟩
   refine ⟨_, rfl, ?_⟩
   replace BK1 := bb_ BK1.out hb
   replace BK0 := bb_ BK0.out hb
   replace BK2 := bb_ BK2.out hb
   replace HB := s_ hb
   (try clear hb)
   refine hK.out _ _ (hcc4_ BK2.out (hc4_ BK1.out)) (fun hHeld => ?_)
   clear hK K
   refine normP_ (some 48) ?_
   refine oneP_ 11 none (b_ 12 4095) HT (fun K hK => ?_)
   have hs4 : w6.cell? ⟨gb0, 0, none⟩ = some (.int .u64 0) := (blk_cell BK0.out 0).trans rfl
   have hfs48 := blk_frozen BK0.out 0
   have hns48_0 := NB0.out
   have hns48_2 := NB1.out
   have hms48_0 := NB2.out
   have hms48_2 := NB3.out
   have hs5 : w6.cell? ⟨gb0, 1, none⟩ = some (.int .u64 0) := (blk_cell BK0.out 1).trans rfl
   have hfs49 := blk_frozen BK0.out 1
   have hns49_0 := NB0.out
   have hns49_2 := NB1.out
   have hms49_0 := NB2.out
   have hms49_2 := NB3.out
   have hs6 : w6.cell? ⟨gb0, 2, none⟩ = some (.int .u64 0) := (blk_cell BK0.out 2).trans rfl
   have hfs50 := blk_frozen BK0.out 2
   have hns50_0 := NB0.out
   have hns50_2 := NB1.out
   have hms50_0 := NB2.out
   have hms50_2 := NB3.out
   have hs7 : w6.cell? ⟨gb0, 3, none⟩ = some (.int .u64 0) := (blk_cell BK0.out 3).trans rfl
   have hfs51 := blk_frozen BK0.out 3
   have hns51_0 := NB0.out
   have hns51_2 := NB1.out
   have hms51_0 := NB2.out
   have hms51_2 := NB3.out
   refine skip_ (w1 := ?_) (by rfl) rfl ?_ ?_
   rotate_left
   ·go_simp
    rfl
   refine hK.out _ _ ⟨((cell_far (p := ⟨gb0, _, none⟩) NB1.out _).trans (((cell_far (p := ⟨gb0, _, none⟩) NB1.out _).trans ((cf2_ NB1.out hHeld.1))))), ((cell_far (p := ⟨gb0, _, none⟩) NB1.out _).trans (((cell_far (p := ⟨gb0, _, none⟩) NB1.out _).trans ((cf2_ NB1.out hHeld.2.1))))), ((cell_far (p := ⟨gb0, _, none⟩) NB1.out _).trans (((cell_far (p := ⟨gb0, _, none⟩) NB1.out _).trans ((cf2_ NB1.out hHeld.2.2.1))))), ((cell_far (p := ⟨gb0, _, none⟩) NB1.out _).trans (((cell_far (p := ⟨gb0, _, none⟩) NB1.out _).trans ((cf2_ NB1.out hHeld.2.2.2.1))))), ((cell_far (p := ⟨gb0, _, none⟩) NB0.out _).trans (((cell_far (p := ⟨gb0, _, none⟩) NB0.out _).trans ((cf2_ NB0.out hHeld.2.2.2.2.1))))), ((cell_far (p := ⟨gb0, _, none⟩) NB0.out _).trans (((cell_far (p := ⟨gb0, _, none⟩) NB0.out _).trans ((cf2_ NB0.out hHeld.2.2.2.2.2.1))))), ((cell_far (p := ⟨gb0, _, none⟩) NB0.out _).trans (((cell_far (p := ⟨gb0, _, none⟩) NB0.out _).trans ((cf2_ NB0.out hHeld.2.2.2.2.2.2.1))))), ((cell_far (p := ⟨gb0, _, none⟩) NB0.out _).trans (((cell_far (p := ⟨gb0, _, none⟩) NB0.out _).trans ((cf2_ NB0.out hHeld.2.2.2.2.2.2.2)))))⟩ (fun hHeld => ?_)
   clear hK K
   refine done_ (done_of HT.out (by kernel_rfl)) ?_
   try go_wp2
   refine bodyPost_ret (results_cell_row rfl _ _ gb0 29 #[.int .u64 t13, .int .u64 t14, .int .u64 t15, .int .u64 t16] (0, 0) _ rfl (blkF_ BK0.out) Try.underlying29 rfl (by kernel_rfl)) rfl ?_
   exact ⟨by first | rfl | (simp [errW_none, errW_some] <;> rfl) | (simp only [← hji12]; first | rfl | (simp [errW_none, errW_some] <;> rfl)) | (simp [*, errW_none, errW_some] <;> rfl), bel_⟩
end
section
def spec_PathRoot.j0 : Nat → Int → Int → ByteArray → List (S29) → Bool → Option (Int × Int × Int × Int × Bool)
 | 0, _, _, _, _, _ => none
 | k + 1, x0, x1, x2, x4, x3 => if x3 = true then (some (0, 0, 0, 0, false)) else ((spec_HashLeaf.f k x2).bind fun bt0 => ((spec_l3Up.f k x0 x1 bt0.1 bt0.2.1 bt0.2.2.1 bt0.2.2.2 x4).bind fun bt1 => (some (bt1.1, bt1.2.1, bt1.2.2.1, bt1.2.2.2, true))))
def spec_PathRoot.f (k : Nat) (a0 a1 : Int) (a2 : ByteArray) (l3 : List (S29)) : Option (Int × Int × Int × Int × Bool) := (spec_l3Place.f a0 a1).bind fun t0 => (if t0 = true then (if (a2.size : Int) > 40 then (spec_PathRoot.j0 k a0 a1 a2 l3 true) else ((spec_PathLen.f k a0 a1).bind fun t1 => (spec_PathRoot.j0 k a0 a1 a2 l3 ((l3.length : Int) != t1)))) else (spec_PathRoot.j0 k a0 a1 a2 l3 true))
theorem spec_PathRoot.calls (k : Nat) (a1 a2 : Int) (a0 : ByteArray) (A1 : Option Addr) (c3 : Nat) (l3 : List (S29)) (r0 r1 r2 r3 : Int) (r4 : Bool) (w : World) (hr3 : Kd.C k29 w A1 l3.length l3) (hc3 : l3.length ≤ c3) (h : spec_PathRoot.f k a1 a2 a0 l3 = some (r0, r1, r2, r3, r4)) :
  Calls Try.prog 86 #[.int .i64 a1, .int .i64 a2, .string a0, .slice A1 l3.length c3] w fun e w' => e = .returned (.tuple #[.agg #[.int .u64 r0, .int .u64 r1, .int .u64 r2, .int .u64 r3], .bool r4]) ∧ Below w.heap.size w w' := by
 have hu29 := Try.underlying29
 have HR3 := a_ hr3
 have HC3 := a_ hc3
 clear hr3 hc3
 have HB := rB_ w
 have H := h
 unfold spec_PathRoot.f at H
 clear h
 have HC5 := a_ H
 clear H
 go_enter Try.func86, Try.ntmps86
 go_upto_region 1 with (first | ((with_reducible refine gate_dst (N := 8) rfl ?_); (try (refine gate_guard (by rfl) ?_; dsimp only)); refine boxE_ (cs := #[.int .u64 0, .int .u64 0, .int .u64 0, .int .u64 0]) (t := 29) ?_; intro gb0 hg w3 hbox hb; have BK0 := a_ (hbox); have GW0 := sizeB_ hg; replace HB := s_ hb; clear hb hbox hg))
 (try simp only [Act.put, List.setIfInBounds_toArray, List.set_cons_zero, List.set_cons_succ])
 go_cut [26] (fun v0 wc => ∃ (kq : Nat) (x0 : Bool), v0 = .bool x0 ∧ Aside0 (spec_PathRoot.j0 kq a1 a2 a0 l3 x0 = some (r0, r1, r2, r3, r4)) ∧ Aside0 (kq ≤ k) ∧ Aside0 (wc.heap[gb0]? = some (.cells #[.int .u64 0, .int .u64 0, .int .u64 0, .int .u64 0] 29 (0, 0))) ∧ Aside0 (Below w.heap.size w wc))
 case first =>
  have H := HC5.out
  clear HC5
  obtain ⟨t0, A0, H⟩ := bnd_ H
  by_cases c8 : t0 = true
  ·subst c8
   rw [if_pos rfl] at H
   by_cases c9 : (a0.size : Int) > 40
   ·rw [if_pos c9] at H
    have c0 : decide (40 < (a0.size : Int)) = true := decide_eq_true c9
    have c11 : decide (40 < a0.size) = true := decide_eq_true (by omega)
    clear c9
    (first | rw [c0] | (simp only [i64_w, i32_w]; rw [c0]) | skip)
    have H' := a_ H
    clear H
    go_wp2_with (first | (refine gcD_ 79 12 Try.func79 (spec_l3Place.calls _ _ _ _ A0.out) ?_; intro nd))
    go_meet
    case rel => exact ⟨_, (true), rl_, H', ⟨by first | omega | exact Nat.le_refl _⟩, ⟨blkU_ BK0.out⟩, ⟨bel_⟩⟩
   ·rw [if_neg c9] at H
    have c0 : decide (40 < (a0.size : Int)) = false := decide_eq_false c9
    have c11 : decide (40 < a0.size) = false := decide_eq_false (by omega)
    clear c9
    (first | rw [c0] | (simp only [i64_w, i32_w]; rw [c0]) | skip)
    obtain ⟨t1, A2, H⟩ := bnd_ H
    have H' := a_ H
    clear H
    go_wp2_with (first | (refine gcD_ 79 12 Try.func79 (spec_l3Place.calls _ _ _ _ A0.out) ?_; intro nd) | (go_at_call 81; (with_reducible refine (spec_PathLen.calls _ _ _ _ _ A2.out).mono ?_); rintro e w' ⟨rfl, ⟨nd, rfl⟩⟩))
    go_meet
    case rel => exact ⟨_, (((l3.length : Int) != t1)), rl_, H', ⟨by first | omega | exact Nat.le_refl _⟩, ⟨blkU_ BK0.out⟩, ⟨bel_⟩⟩
  ·replace c8 := Bool.eq_false_iff.mpr c8
   subst c8
   rw [if_neg (show ¬ (false = true) by decide)] at H
   have H' := a_ H
   clear H
   go_wp2_with (first | (refine gcD_ 79 12 Try.func79 (spec_l3Place.calls _ _ _ _ A0.out) ?_; intro nd))
   go_meet
   case rel => exact ⟨_, (true), rl_, H', ⟨by first | omega | exact Nat.le_refl _⟩, ⟨blkU_ BK0.out⟩, ⟨bel_⟩⟩
 case rest =>
  clear HC5
  (try clear c3); (try clear c8); (try clear c9); (try clear c0); (try clear c11)
  obtain ⟨kq, x0, rfl, HA, HJ4, BK0, HB⟩ := hcut
  cases kq with
  | zero => exact absurd HA.out (by simp [spec_PathRoot.j0])
  | succ kj0 =>
   have H := HA.out
   clear HA
   simp only [spec_PathRoot.j0] at H
   by_cases c1 : x0 = true
   ·subst c1
    rw [if_pos rfl] at H
    simp only [Option.some.injEq, Prod.mk.injEq] at H
    obtain ⟨rfl, rfl, rfl, rfl, rfl⟩ := H
    obtain ⟨z0, z1, z2, z3, f0, f1, f2, f3⟩ := cz4_ BK0.out
    go_wp2
    refine bodyPost_ret (results_ct rfl _ _ gb0 29 #[.int .u64 0, .int .u64 0, .int .u64 0, .int .u64 0] (0, 0) _ rfl (blkF_ BK0.out) Try.underlying29 rfl (by kernel_rfl)) rfl ?_
    exact ⟨rfl_, bel_⟩
   ·replace c1 := Bool.eq_false_iff.mpr c1
    subst c1
    rw [if_neg (show ¬ (false = true) by decide)] at H
    obtain ⟨⟨t6, t7, t8, t9⟩, A3, H⟩ := bnd_ H
    dsimp only at H
    obtain ⟨⟨t2, t3, t4, t5⟩, A4, H⟩ := bnd_ H
    dsimp only at H
    simp only [Option.some.injEq, Prod.mk.injEq] at H
    obtain ⟨rfl, rfl, rfl, rfl, rfl⟩ := H
    go_wp2_with (first | (refine gcB_ 92 31 Try.func92 (spec_HashLeaf.calls _ _ _ _ _ _ _ A3.out) ?_; intro w1 hb; replace BK0 := bb_ BK0.out hb; replace HB := s_ hb; clear hb) | (refine gcB_ 91 33 Try.func91 (spec_l3Up.calls _ _ _ _ _ _ _ _ _ _ _ _ _ _ _ ?side1 ?side2 A4.out) ?_; (case side1 => exact cU_ (Kd.C_below HR3.out HB.out)); (case side2 => exact HC3.out); intro w2 hb; replace BK0 := bb_ BK0.out hb; replace HB := s_ hb; clear hb; obtain ⟨z4, z5, z6, z7, f4, f5, f6, f7⟩ := cz4_ BK0.out))
    refine bodyPost_ret (results_ct rfl _ _ gb0 29 #[.int .u64 t2, .int .u64 t3, .int .u64 t4, .int .u64 t5] (0, 0) _ rfl (blkF_ BK0.out) Try.underlying29 rfl (by kernel_rfl)) rfl ?_
    exact ⟨rfl_, bel_⟩
end
section
def impl_pathOk.f (k : Nat) (a0 a1 : Int) (a2 : ByteArray) (l3 : List (S29)) : Option (Bool) := (impl_PathLen.f k a0 a1).bind fun t0 => (if t0 ≥ 0 then (if (a2.size : Int) ≤ 40 then (some ((l3.length : Int) == t0)) else (some false)) else (some false))
theorem impl_pathOk.calls (k : Nat) (a1 a2 : Int) (a0 : ByteArray) (A1 : Option Addr) (c3 : Nat) (l3 : List (S29)) (r : Bool) (w : World) (hr3 : Kd.C k29 w A1 l3.length l3) (hc3 : l3.length ≤ c3) (h : impl_pathOk.f k a1 a2 a0 l3 = some r) :
  Calls Try.prog 96 #[.int .i64 a1, .int .i64 a2, .string a0, .slice A1 l3.length c3] w fun e w' => e = .returned (.bool r) ∧ Below w.heap.size w w' := by
 have HR3 := a_ hr3
 have HC3 := a_ hc3
 clear hr3 hc3
 have HB := rB_ w
 have H := h
 unfold impl_pathOk.f at H
 clear h
 obtain ⟨t0, A0, H⟩ := bnd_ H
 by_cases c6 : t0 ≥ 0
 ·rw [if_pos c6] at H
  have c0 : decide (0 ≤ t0) = true := decide_eq_true c6
  clear c6
  by_cases c7 : (a0.size : Int) ≤ 40
  ·rw [if_pos c7] at H
   have c1 := decide_eq_true c7
   have c11 : decide (a0.size ≤ 40) = true := decide_eq_true (by omega)
   clear c7
   obtain rfl := Option.some.inj H
   go_enter Try.func96, Try.ntmps96
   go_wp2_with (first | (refine gcB_ 78 12 Try.func78 (impl_PathLen.calls _ _ _ _ _ A0.out) ?_; intro w8 hb; replace HB := s_ hb; clear hb))
   go_ret
   exact ⟨rfl_, bel_⟩
  ·rw [if_neg c7] at H
   have c1 := decide_eq_false c7
   have c11 : decide (a0.size ≤ 40) = false := decide_eq_false (by omega)
   clear c7
   obtain rfl := Option.some.inj H
   go_enter Try.func96, Try.ntmps96
   go_wp2_with (first | (refine gcB_ 78 12 Try.func78 (impl_PathLen.calls _ _ _ _ _ A0.out) ?_; intro w2 hb; replace HB := s_ hb; clear hb))
   go_ret
   exact ⟨rfl_, bel_⟩
 ·rw [if_neg c6] at H
  have c0 : decide (0 ≤ t0) = false := decide_eq_false c6
  clear c6
  obtain rfl := Option.some.inj H
  go_enter Try.func96, Try.ntmps96
  go_wp2_with (first | (refine gcB_ 78 12 Try.func78 (impl_PathLen.calls _ _ _ _ _ A0.out) ?_; intro w1 hb; replace HB := s_ hb; clear hb))
  go_ret
  exact ⟨rfl_, bel_⟩
end
section
def laws_eqGrowthS.l0 : Nat → List (S51) → List (S51) → Int → Option (Bool)
 | 0, _, _, _ => none
 | k + 1, x1, x2, x0 => if x0 < (x1.length : Int) then (if 0 ≤ x0 then (if x0 < (x2.length : Int) then ((laws_eqGrowth.f k ((rd_T51 x1 x0).f0.f0) ((rd_T51 x1 x0).f0.f1.f0) ((rd_T51 x1 x0).f0.f1.f1) ((rd_T51 x1 x0).f0.f1.f2) ((rd_T51 x1 x0).f0.f1.f3) ((rd_T51 x1 x0).f1) ((rd_T51 x2 x0).f0.f0) ((rd_T51 x2 x0).f0.f1.f0) ((rd_T51 x2 x0).f0.f1.f1) ((rd_T51 x2 x0).f0.f1.f2) ((rd_T51 x2 x0).f0.f1.f3) ((rd_T51 x2 x0).f1)).bind fun t0 => (if t0 = true then (laws_eqGrowthS.l0 k x1 x2 (wrap64 (x0 + 1))) else (some false))) else (none)) else (none)) else (some true)
def laws_eqGrowthS.f (k : Nat) (l0 l1 : List (S51)) : Option (Bool) := if (l0.length : Int) = (l1.length : Int) then (laws_eqGrowthS.l0 k l0 l1 0) else (some false)
def laws_eqGrowthS.T6 : TT_ := (true, [([], []), ([], []), ([0, 1], [0, 1]), ([2], [2]), ([], []), ([], []), ([4, 5], [4, 5]), ([6], [6]), ([3, 7], [3, 7]), ([8], [8])])
def laws_eqGrowthS.B6 : List Nat := [0, 0, 3, 7, 0, 0, 48, 112, 255, 511]
theorem laws_eqGrowthS.tab6 : rtab .any (opsOf Try.f16 6) = laws_eqGrowthS.T6 := by kernel_rfl
theorem laws_eqGrowthS.bits6 : waitsOk laws_eqGrowthS.T6.2 laws_eqGrowthS.B6 = true := by kernel_rfl
theorem laws_eqGrowthS.calls (k : Nat) (A2 : Option Addr) (c12 : Nat) (l0 : List (S51)) (A3 : Option Addr) (c11 : Nat) (l1 : List (S51)) (r : Bool) (w : World) (hr0 : Kd.C k51 w A2 l0.length l0) (hc0 : l0.length ≤ c12) (hr1 : Kd.C k51 w A3 l1.length l1) (hc1 : l1.length ≤ c11) (h : laws_eqGrowthS.f k l0 l1 = some r) :
  Calls Try.prog 16 #[.slice A2 l0.length c12, .slice A3 l1.length c11] w fun e w' => e = .returned (.bool r) ∧ Below w.heap.size w w' := by
 have hu51 := Try.underlying51
 have HR0 := a_ hr0
 have HC0 := a_ hc0
 clear hr0 hc0
 have HR1 := a_ hr1
 have HC1 := a_ hc1
 clear hr1 hc1
 have HB := rB_ w
 have H := h
 unfold laws_eqGrowthS.f at H
 clear h
 by_cases c3 : (l0.length : Int) = (l1.length : Int)
 ·rw [if_pos c3] at H
  have c13 := beq_iff_eq.mpr c3
  have c14 := bne_eq_false_iff_eq.mpr c3
  have c15 : (l0.length == l1.length) = true := by first | simpa using c3 | (simp at c3 ⊢; omega)
  clear c3
  have H' := a_ H
  clear H
  go_enter Try.func16, Try.ntmps16
  go_wp2
  go_loopg [5] k (fun kq v0 w' => ∃ (x0 : Int), v0 = .int .i64 x0 ∧ Aside0 (laws_eqGrowthS.l0 kq l0 l1 x0 = some r) ∧ Aside0 (kq ≤ k) ∧ Aside0 (Below w.heap.size w w'))
  case atStart => exact ⟨(0), rl_, H', ⟨Nat.le_refl _⟩, ⟨bel_⟩⟩
  case round =>
   clear H'
   (try clear c11); (try clear c3); (try clear c13); (try clear c14); (try clear c15)
   obtain ⟨x0, rfl, HA, HK1, HB⟩ := hrel
   cases gk with
   | zero => exact absurd HA.out (by simp [laws_eqGrowthS.l0])
   | succ k1 =>
    have H := HA.out
    clear HA
    simp only [laws_eqGrowthS.l0] at H
    by_cases c4 : x0 < (l0.length : Int)
    ·rw [if_pos c4] at H
     have c16 := decide_eq_true c4
     clear c4
     obtain ⟨c17, H⟩ := ifd_ H
     obtain ⟨c18, H⟩ := ifd_ H
     obtain ⟨t0, A4, H⟩ := bnd_ H
     by_cases c8 : t0 = true
     ·subst c8
      rw [if_pos rfl] at H
      have H' := a_ H
      clear H
      try go_wp2
      replace HB := a_ (below_drew1 HB.out)
      have p0 : 0 ≤ (x0 : Int) := ofd_
      have q0 : x0 < (l0.length : Int) := ofd_
      obtain ⟨ad0, A0, c0, e0, hx0, hx1, hx2, hx3, hx4, hx5, hl0, hi0⟩ := at_T51 HR0.out x0 p0 q0
      have hw5 := hx5
      have hw4 := hx4
      have hw3 := hx3
      have hw2 := hx2
      have hw1 := hx1
      have hw0 := hx0
      cases e0
      replace hx0 := pc_ HB.out hx0
      replace hx1 := pc_ HB.out hx1
      replace hx2 := pc_ HB.out hx2
      replace hx3 := pc_ HB.out hx3
      replace hx4 := pc_ HB.out hx4
      replace hx5 := pc_ HB.out hx5
      have HR513_5 := a_ hi0
      have HC513_5 := a_ hl0
      clear hi0 hl0
      replace p0 := eq_true p0
      replace q0 := eq_true q0
      have p1 : 0 ≤ (x0 : Int) := ofd_
      have q1 : x0 < (l1.length : Int) := ofd_
      obtain ⟨ad1, A1, c1, e1, hx6, hx7, hx8, hx9, hx10, hx11, hl1, hi1⟩ := at_T51 HR1.out x0 p1 q1
      have hw11 := hx11
      have hw10 := hx10
      have hw9 := hx9
      have hw8 := hx8
      have hw7 := hx7
      have hw6 := hx6
      cases e1
      replace hx6 := pc_ HB.out hx6
      replace hx7 := pc_ HB.out hx7
      replace hx8 := pc_ HB.out hx8
      replace hx9 := pc_ HB.out hx9
      replace hx10 := pc_ HB.out hx10
      replace hx11 := pc_ HB.out hx11
      have HR514_5 := a_ hi1
      have HC514_5 := a_ hl1
      clear hi1 hl1
      replace p1 := eq_true p1
      replace q1 := eq_true q1
      refine start_ (n := 10) (S := fun w' => w'.cell? (ad0.add ((x0).toNat * 6)) = some (.int .i64 ((rd_T51 l0 x0).f0.f0)) ∧ w'.cell? ⟨(ad0.add ((x0).toNat * 6)).block, (ad0.add ((x0).toNat * 6)).off + 1, none⟩ = some (.int .u64 ((rd_T51 l0 x0).f0.f1.f0)) ∧ w'.cell? ⟨(ad0.add ((x0).toNat * 6)).block, (ad0.add ((x0).toNat * 6)).off + 2, none⟩ = some (.int .u64 ((rd_T51 l0 x0).f0.f1.f1)) ∧ w'.cell? ⟨(ad0.add ((x0).toNat * 6)).block, (ad0.add ((x0).toNat * 6)).off + 3, none⟩ = some (.int .u64 ((rd_T51 l0 x0).f0.f1.f2)) ∧ w'.cell? ⟨(ad0.add ((x0).toNat * 6)).block, (ad0.add ((x0).toNat * 6)).off + 4, none⟩ = some (.int .u64 ((rd_T51 l0 x0).f0.f1.f3)) ∧ w'.cell? ⟨(ad0.add ((x0).toNat * 6)).block, (ad0.add ((x0).toNat * 6)).off + 5, none⟩ = some (.slice A0 ((rd_T51 l0 x0).f1).length c0) ∧ w'.cell? (ad1.add ((x0).toNat * 6)) = some (.int .i64 ((rd_T51 l1 x0).f0.f0)) ∧ w'.cell? ⟨(ad1.add ((x0).toNat * 6)).block, (ad1.add ((x0).toNat * 6)).off + 1, none⟩ = some (.int .u64 ((rd_T51 l1 x0).f0.f1.f0)) ∧ w'.cell? ⟨(ad1.add ((x0).toNat * 6)).block, (ad1.add ((x0).toNat * 6)).off + 2, none⟩ = some (.int .u64 ((rd_T51 l1 x0).f0.f1.f1)) ∧ w'.cell? ⟨(ad1.add ((x0).toNat * 6)).block, (ad1.add ((x0).toNat * 6)).off + 3, none⟩ = some (.int .u64 ((rd_T51 l1 x0).f0.f1.f2)) ∧ w'.cell? ⟨(ad1.add ((x0).toNat * 6)).block, (ad1.add ((x0).toNat * 6)).off + 4, none⟩ = some (.int .u64 ((rd_T51 l1 x0).f0.f1.f3)) ∧ w'.cell? ⟨(ad1.add ((x0).toNat * 6)).block, (ad1.add ((x0).toNat * 6)).off + 5, none⟩ = some (.slice A1 ((rd_T51 l1 x0).f1).length c1)) (ds := []) #[false, false, false, false, false, false, false, false, false, false] (by kernel_rfl) rfl rfl ⟨(pc_ HB.out hw0), (pc_ HB.out hw1), (pc_ HB.out hw2), (pc_ HB.out hw3), (pc_ HB.out hw4), (pc_ HB.out hw5), (pc_ HB.out hw6), (pc_ HB.out hw7), (pc_ HB.out hw8), (pc_ HB.out hw9), (pc_ HB.out hw10), (pc_ HB.out hw11)⟩ (fun hHeld => ?_); refine with_tabW laws_eqGrowthS.tab6 laws_eqGrowthS.bits6 (fun HT HW_ => ?_)
      generalize wr.drew = w4 at HB HR513_5 HR514_5 hx0 hx1 hx2 hx3 hx4 hx5 hx6 hx7 hx8 hx9 hx10 hx11 hHeld ⊢
      refine qP_ 0 17 10 1 ?_
      refine qP_ 1 18 10 3 ?_
      refine qP_ 2 19 10 7 ?_
      refine qP_ 4 21 10 23 ?_
      refine qP_ 5 22 10 55 ?_
      refine qP_ 6 23 10 119 ?_
      refine qT_ 3 20 10 127 ?_
      refine qT_ 7 24 10 255 ?_
      refine oneP_ 8 (some 25) (b_ 10 511) HT (fun K hK => ?_)
      refine goN_ Try.func24 #[.agg #[.int .i64 ((rd_T51 l0 x0).f0.f0), .int .u64 ((rd_T51 l0 x0).f0.f1.f0), .int .u64 ((rd_T51 l0 x0).f0.f1.f1), .int .u64 ((rd_T51 l0 x0).f0.f1.f2), .int .u64 ((rd_T51 l0 x0).f0.f1.f3), .slice A0 ((rd_T51 l0 x0).f1).length c0], .agg #[.int .i64 ((rd_T51 l1 x0).f0.f0), .int .u64 ((rd_T51 l1 x0).f0.f1.f0), .int .u64 ((rd_T51 l1 x0).f0.f1.f1), .int .u64 ((rd_T51 l1 x0).f0.f1.f2), .int .u64 ((rd_T51 l1 x0).f0.f1.f3), .slice A1 ((rd_T51 l1 x0).f1).length c1]] ?_
      with_reducible refine (laws_eqGrowth.calls _ _ _ _ _ _ _ _ _ _ _ _ _ _ _ _ _ _ _ ?side1 ?side2 ?side3 ?side4 A4.out).mono ?_
      (case side1 => exact cU_ (Kd.C_below HR513_5.out HB.out))
      (case side2 => exact HC513_5.out)
      (case side3 => exact cU_ (Kd.C_below HR514_5.out HB.out))
      (case side4 => exact HC514_5.out)
      rintro e w1 ⟨rfl, hb⟩
      refine ⟨_, rfl, ?_⟩
      replace HB := s_ hb
      (try clear hb)
      refine hK.out _ _ ⟨(pc_ HB.out hw0), (pc_ HB.out hw1), (pc_ HB.out hw2), (pc_ HB.out hw3), (pc_ HB.out hw4), (pc_ HB.out hw5), (pc_ HB.out hw6), (pc_ HB.out hw7), (pc_ HB.out hw8), (pc_ HB.out hw9), (pc_ HB.out hw10), (pc_ HB.out hw11)⟩ (fun hHeld => ?_)
      clear hK K
      refine normP_ (some 25) ?_
      refine qP_ 9 26 10 1023 ?_
      refine done_ (done_of HT.out (by kernel_rfl)) ?_
      try go_wp2
      go_roundg k1
      case measure => have := HK1.out; omega
      case rel => exact ⟨(wrap64 (x0 + 1)), rl_, H', ⟨by have := HK1.out; omega⟩, ⟨bel_⟩⟩
     ·replace c8 := Bool.eq_false_iff.mpr c8
      subst c8
      rw [if_neg (show ¬ (false = true) by decide)] at H
      obtain rfl := Option.some.inj H
      try go_wp2
      replace HB := a_ (below_drew1 HB.out)
      have p0 : 0 ≤ (x0 : Int) := ofd_
      have q0 : x0 < (l0.length : Int) := ofd_
      obtain ⟨ad0, A0, c0, e0, hx0, hx1, hx2, hx3, hx4, hx5, hl0, hi0⟩ := at_T51 HR0.out x0 p0 q0
      have hw5 := hx5
      have hw4 := hx4
      have hw3 := hx3
      have hw2 := hx2
      have hw1 := hx1
      have hw0 := hx0
      cases e0
      replace hx0 := pc_ HB.out hx0
      replace hx1 := pc_ HB.out hx1
      replace hx2 := pc_ HB.out hx2
      replace hx3 := pc_ HB.out hx3
      replace hx4 := pc_ HB.out hx4
      replace hx5 := pc_ HB.out hx5
      have HR513_5 := a_ hi0
      have HC513_5 := a_ hl0
      clear hi0 hl0
      replace p0 := eq_true p0
      replace q0 := eq_true q0
      have p1 : 0 ≤ (x0 : Int) := ofd_
      have q1 : x0 < (l1.length : Int) := ofd_
      obtain ⟨ad1, A1, c1, e1, hx6, hx7, hx8, hx9, hx10, hx11, hl1, hi1⟩ := at_T51 HR1.out x0 p1 q1
      have hw11 := hx11
      have hw10 := hx10
      have hw9 := hx9
      have hw8 := hx8
      have hw7 := hx7
      have hw6 := hx6
      cases e1
      replace hx6 := pc_ HB.out hx6
      replace hx7 := pc_ HB.out hx7
      replace hx8 := pc_ HB.out hx8
      replace hx9 := pc_ HB.out hx9
      replace hx10 := pc_ HB.out hx10
      replace hx11 := pc_ HB.out hx11
      have HR514_5 := a_ hi1
      have HC514_5 := a_ hl1
      clear hi1 hl1
      replace p1 := eq_true p1
      replace q1 := eq_true q1
      refine start_ (n := 10) (S := fun w' => w'.cell? (ad0.add ((x0).toNat * 6)) = some (.int .i64 ((rd_T51 l0 x0).f0.f0)) ∧ w'.cell? ⟨(ad0.add ((x0).toNat * 6)).block, (ad0.add ((x0).toNat * 6)).off + 1, none⟩ = some (.int .u64 ((rd_T51 l0 x0).f0.f1.f0)) ∧ w'.cell? ⟨(ad0.add ((x0).toNat * 6)).block, (ad0.add ((x0).toNat * 6)).off + 2, none⟩ = some (.int .u64 ((rd_T51 l0 x0).f0.f1.f1)) ∧ w'.cell? ⟨(ad0.add ((x0).toNat * 6)).block, (ad0.add ((x0).toNat * 6)).off + 3, none⟩ = some (.int .u64 ((rd_T51 l0 x0).f0.f1.f2)) ∧ w'.cell? ⟨(ad0.add ((x0).toNat * 6)).block, (ad0.add ((x0).toNat * 6)).off + 4, none⟩ = some (.int .u64 ((rd_T51 l0 x0).f0.f1.f3)) ∧ w'.cell? ⟨(ad0.add ((x0).toNat * 6)).block, (ad0.add ((x0).toNat * 6)).off + 5, none⟩ = some (.slice A0 ((rd_T51 l0 x0).f1).length c0) ∧ w'.cell? (ad1.add ((x0).toNat * 6)) = some (.int .i64 ((rd_T51 l1 x0).f0.f0)) ∧ w'.cell? ⟨(ad1.add ((x0).toNat * 6)).block, (ad1.add ((x0).toNat * 6)).off + 1, none⟩ = some (.int .u64 ((rd_T51 l1 x0).f0.f1.f0)) ∧ w'.cell? ⟨(ad1.add ((x0).toNat * 6)).block, (ad1.add ((x0).toNat * 6)).off + 2, none⟩ = some (.int .u64 ((rd_T51 l1 x0).f0.f1.f1)) ∧ w'.cell? ⟨(ad1.add ((x0).toNat * 6)).block, (ad1.add ((x0).toNat * 6)).off + 3, none⟩ = some (.int .u64 ((rd_T51 l1 x0).f0.f1.f2)) ∧ w'.cell? ⟨(ad1.add ((x0).toNat * 6)).block, (ad1.add ((x0).toNat * 6)).off + 4, none⟩ = some (.int .u64 ((rd_T51 l1 x0).f0.f1.f3)) ∧ w'.cell? ⟨(ad1.add ((x0).toNat * 6)).block, (ad1.add ((x0).toNat * 6)).off + 5, none⟩ = some (.slice A1 ((rd_T51 l1 x0).f1).length c1)) (ds := []) #[false, false, false, false, false, false, false, false, false, false] (by kernel_rfl) rfl rfl ⟨(pc_ HB.out hw0), (pc_ HB.out hw1), (pc_ HB.out hw2), (pc_ HB.out hw3), (pc_ HB.out hw4), (pc_ HB.out hw5), (pc_ HB.out hw6), (pc_ HB.out hw7), (pc_ HB.out hw8), (pc_ HB.out hw9), (pc_ HB.out hw10), (pc_ HB.out hw11)⟩ (fun hHeld => ?_); refine with_tabW laws_eqGrowthS.tab6 laws_eqGrowthS.bits6 (fun HT HW_ => ?_)
      generalize wr.drew = w2 at HB HR513_5 HR514_5 hx0 hx1 hx2 hx3 hx4 hx5 hx6 hx7 hx8 hx9 hx10 hx11 hHeld ⊢
      refine qP_ 0 17 10 1 ?_
      refine qP_ 1 18 10 3 ?_
      refine qP_ 2 19 10 7 ?_
      refine qP_ 4 21 10 23 ?_
      refine qP_ 5 22 10 55 ?_
      refine qP_ 6 23 10 119 ?_
      refine qT_ 3 20 10 127 ?_
      refine qT_ 7 24 10 255 ?_
      refine oneP_ 8 (some 25) (b_ 10 511) HT (fun K hK => ?_)
      refine goN_ Try.func24 #[.agg #[.int .i64 ((rd_T51 l0 x0).f0.f0), .int .u64 ((rd_T51 l0 x0).f0.f1.f0), .int .u64 ((rd_T51 l0 x0).f0.f1.f1), .int .u64 ((rd_T51 l0 x0).f0.f1.f2), .int .u64 ((rd_T51 l0 x0).f0.f1.f3), .slice A0 ((rd_T51 l0 x0).f1).length c0], .agg #[.int .i64 ((rd_T51 l1 x0).f0.f0), .int .u64 ((rd_T51 l1 x0).f0.f1.f0), .int .u64 ((rd_T51 l1 x0).f0.f1.f1), .int .u64 ((rd_T51 l1 x0).f0.f1.f2), .int .u64 ((rd_T51 l1 x0).f0.f1.f3), .slice A1 ((rd_T51 l1 x0).f1).length c1]] ?_
      with_reducible refine (laws_eqGrowth.calls _ _ _ _ _ _ _ _ _ _ _ _ _ _ _ _ _ _ _ ?side1 ?side2 ?side3 ?side4 A4.out).mono ?_
      (case side1 => exact cU_ (Kd.C_below HR513_5.out HB.out))
      (case side2 => exact HC513_5.out)
      (case side3 => exact cU_ (Kd.C_below HR514_5.out HB.out))
      (case side4 => exact HC514_5.out)
      rintro e w3 ⟨rfl, hb⟩
      refine ⟨_, rfl, ?_⟩
      replace HB := s_ hb
      (try clear hb)
      refine hK.out _ _ ⟨(pc_ HB.out hw0), (pc_ HB.out hw1), (pc_ HB.out hw2), (pc_ HB.out hw3), (pc_ HB.out hw4), (pc_ HB.out hw5), (pc_ HB.out hw6), (pc_ HB.out hw7), (pc_ HB.out hw8), (pc_ HB.out hw9), (pc_ HB.out hw10), (pc_ HB.out hw11)⟩ (fun hHeld => ?_)
      clear hK K
      refine normP_ (some 25) ?_
      refine qP_ 9 26 10 1023 ?_
      refine done_ (done_of HT.out (by kernel_rfl)) ?_
      try go_wp2
      go_ret
      exact ⟨rfl_, bel_⟩
    ·rw [if_neg c4] at H
     have c16 := decide_eq_false c4
     clear c4
     obtain rfl := Option.some.inj H
     go_wp2
     go_ret
     exact ⟨rfl_, bel_⟩
 ·rw [if_neg c3] at H
  have c13 := beq_eq_false_iff_ne.mpr c3
  have c14 := bne_iff_ne.mpr c3
  have c15 : (l0.length == l1.length) = false := by first | simpa using c3 | (simp at c3 ⊢; omega)
  obtain rfl := Option.some.inj H
  go_enter Try.func16, Try.ntmps16
  go_wp2
  go_ret
  exact ⟨rfl_, bel_⟩
end
section
mutual
def spec_l3Digests.l0 : Nat → List (S29) → List (S29) → List (S29) → Int → Option ((List (S29)))
 | 0, _, _, _, _ => none
 | k + 1, x1, x3, x2, x0 => if x0 < (x1.length : Int) then (if 0 ≤ x0 then (if x2.length < 4398046511104 then (spec_l3Digests.l0 k x1 x3 (x2 ++ [(⟨(rd_T29 x1 x0).f0, (rd_T29 x1 x0).f1, (rd_T29 x1 x0).f2, (rd_T29 x1 x0).f3⟩ : S29)]) (wrap64 (x0 + 1))) else (none)) else (none)) else (spec_l3Digests.l1 k x3 x2 0)
def spec_l3Digests.l1 : Nat → List (S29) → List (S29) → Int → Option ((List (S29)))
 | 0, _, _, _ => none
 | k + 1, x1, x2, x0 => if x0 < (x1.length : Int) then (if 0 ≤ x0 then (if x2.length < 4398046511104 then (spec_l3Digests.l1 k x1 (x2 ++ [(⟨(rd_T29 x1 x0).f0, (rd_T29 x1 x0).f1, (rd_T29 x1 x0).f2, (rd_T29 x1 x0).f3⟩ : S29)]) (wrap64 (x0 + 1))) else (none)) else (none)) else (some x2)
end
def spec_l3Digests.f (k : Nat) (l0 l1 : List (S29)) : Option ((List (S29))) := spec_l3Digests.l0 k l0 l1 (([] : List (S29))) 0
theorem spec_l3Digests.calls (k : Nat) (A0 : Option Addr) (c1 : Nat) (l0 : List (S29)) (A1 : Option Addr) (c0 : Nat) (l1 r : List (S29)) (w : World) (hr0 : Kd.C k29 w A0 l0.length l0) (hc0 : l0.length ≤ c1) (hr1 : Kd.C k29 w A1 l1.length l1) (hc1 : l1.length ≤ c0) (h : spec_l3Digests.f k l0 l1 = some r) :
  Calls Try.prog 82 #[.slice A0 l0.length c1, .slice A1 l1.length c0] w fun e w' => ∃ v0_ : Value, e = .returned (v0_) ∧ Kd.R k29 29 w' w.heap.size (fun _ => True) v0_ r ∧ Below w.heap.size w w' := by
 have hu29 := Try.underlying29
 have HR0 := a_ hr0
 have HC0 := a_ hc0
 clear hr0 hc0
 have HR1 := a_ hr1
 have HC1 := a_ hc1
 clear hr1 hc1
 have HB := rB_ w
 have H := h
 unfold spec_l3Digests.f at H
 clear h
 obtain ⟨y0, hy0⟩ : ∃ y_ : List (S29), y_ = (([] : List (S29))) := ⟨_, rfl⟩
 replace H : (spec_l3Digests.l0 k l0 l1 y0 0) = some r := rpl_ hy0 H
 have Ny0 := a_ hy0
 clear hy0
 have H' := a_ H
 clear H
 go_enter Try.func82, Try.ntmps82
 go_wp2_with (first | ((with_reducible refine gate_dst (N := 8) rfl ?_); refine Kd.R_lit k29 _ 29 ?hg (N := 8) ?hd (xs := ([] : List (S29))) (inner := []) (ok := fun _ => True) (okp := fun _ => True) ?hr ?hp (fun _ hk => hk) trivial (Below.refl _ _) (Nat.le_refl _) (by simp) ?_; (case hd => rfl); (case hg => rfl); (case hr => first | (go_simp; done) | (go_simp; rfl)); (case hp => exact (Reps.none _ _)); intro v3 w2 ho0 hb hg_ hnew_; clear hg_ hnew_; (first | rw [← Ny0.out] at ho0 | (simp only [Int.reduceToNat] at ho0; rw [← Ny0.out] at ho0)); have HO0 := a_ (Kd.R_lower ho0 (below_size bel_)); replace HB := s_ hb; clear hb ho0))
 go_loopg [5, 6] k (fun kq v0 v1 w' => ∃ (x2 : List (S29)) (x0 : Int), v1 = .int .i64 x0 ∧ Aside0 (spec_l3Digests.l0 kq l0 l1 x2 x0 = some r) ∧ Aside0 (kq ≤ k) ∧ Aside0 (Kd.R k29 29 w' w.heap.size (fun _ => True) v0 x2) ∧ Aside0 (Below w.heap.size w w'))
 case atStart => exact ⟨(y0), (0), rl_, H', ⟨Nat.le_refl _⟩, ⟨kdU_ HO0.out⟩, ⟨bel_⟩⟩
 case round =>
  clear H'
  (try clear c0)
  obtain ⟨x2, x0, rfl, HA, HK1, HO_0, HB⟩ := hrel
  cases gk with
  | zero => exact absurd HA.out (by simp [spec_l3Digests.l0])
  | succ k1 =>
   have H := HA.out
   clear HA
   simp only [spec_l3Digests.l0] at H
   by_cases c5 : x0 < (l0.length : Int)
   ·rw [if_pos c5] at H
    have c12 := decide_eq_true c5
    clear c5
    obtain ⟨c13, H⟩ := ifd_ H
    obtain ⟨c7, H⟩ := ifn_ H
    have LMc1 := a_ c7
    clear c7
    obtain ⟨y1, hy1⟩ : ∃ y_ : List (S29), y_ = (x2 ++ [(⟨(rd_T29 l0 x0).f0, (rd_T29 l0 x0).f1, (rd_T29 l0 x0).f2, (rd_T29 l0 x0).f3⟩ : S29)]) := ⟨_, rfl⟩
    replace H : (spec_l3Digests.l0 k1 l0 l1 y1 (wrap64 (x0 + 1))) = some r := rpl_ hy1 H
    have Ny1 := a_ hy1
    clear hy1
    have H' := a_ H
    clear H
    have p0 : 0 ≤ (x0 : Int) := ofd_
    have q0 : x0 < (l0.length : Int) := ofd_
    obtain ⟨ad0, e0, hx0, hx1, hx2, hx3⟩ := at_T29 HR0.out x0 p0 q0
    cases e0
    replace hx0 := pc_ HB.out hx0
    replace hx1 := pc_ HB.out hx1
    replace hx2 := pc_ HB.out hx2
    replace hx3 := pc_ HB.out hx3
    replace p0 := eq_true p0
    replace q0 := eq_true q0
    go_wp2_with (first | ((with_reducible refine gate_builtin (b := .append) (xs := #[.tmp 15, .tmp 20]) rfl ?_); at_builtin; refine Kd.R_append k29 (w0 := w) w.heap.size rfl (.tmp 15) (.tmp 20) 49 29 (.agg #[(.int .u64 0), (.int .u64 0), (.int .u64 0), (.int .u64 0)]) 32 rfl Try.underlying49 info29 rfl (by decide) (by omega) u5 x2 (⟨(rd_T29 l0 x0).f0, (rd_T29 l0 x0).f1, (rd_T29 l0 x0).f2, (rd_T29 l0 x0).f3⟩ : S29) [.int .u64 ((rd_T29 l0 x0).f0), .int .u64 ((rd_T29 l0 x0).f1), .int .u64 ((rd_T29 l0 x0).f2), .int .u64 ((rd_T29 l0 x0).f3)] (fun _ => True) (fun _ => False) rfl rfl ?aP (fun _ hk => hk.elim) ?aF ?aO ?aB ?aS ?aL ?_; (case aP => exact k29_mkM _ _ _ (⟨(rd_T29 l0 x0).f0, (rd_T29 l0 x0).f1, (rd_T29 l0 x0).f2, (rd_T29 l0 x0).f3⟩ : S29)); (case aB => exact bel_); (case aF => exact (fun _ _ => trivial)); (case aO => exact (kdU_ HO_0.out)); (case aS => exact (below_size bel_)); (case aL => have := LMc1.out; omega); intro v4 w8 ho hb hg hat; rw [← Ny1.out] at ho; replace HB := a_ (hb); have HO1 := a_ (ho); clear HO_0; clear ho hb hg hat))
    go_roundg k1
    case measure => have := HK1.out; omega
    case rel => exact ⟨(y1), (wrap64 (x0 + 1)), rl_, H', ⟨by have := HK1.out; omega⟩, ⟨kdU_ HO1.out⟩, ⟨bel_⟩⟩
   ·rw [if_neg c5] at H
    have c12 := decide_eq_false c5
    clear c5
    have H' := a_ H
    clear H
    go_wp2
    go_loopg [5, 7] k1 (fun kq v0 v2 w' => ∃ (x3 : List (S29)) (x1 : Int), v2 = .int .i64 x1 ∧ Aside0 (spec_l3Digests.l1 kq l1 x3 x1 = some r) ∧ Aside0 (kq ≤ k1) ∧ Aside0 (Kd.R k29 29 w' w.heap.size (fun _ => True) v0 x3) ∧ Aside0 (Below w.heap.size w w'))
    case atStart => exact ⟨(x2), (0), rl_, H', ⟨Nat.le_refl _⟩, ⟨kdU_ HO_0.out⟩, ⟨bel_⟩⟩
    case round =>
     clear H'
     (try clear c0); (try clear c5); (try clear c12); (try clear c6); (try clear c13); (try clear c7); (try clear hx0); (try clear hx1); (try clear hx2); (try clear hx3); (try clear p0); (try clear q0)
     obtain ⟨x3, x1, rfl, HA, HK2, HO_0, HB⟩ := hrel
     cases gk with
     | zero => exact absurd HA.out (by simp [spec_l3Digests.l1])
     | succ k2 =>
      have H := HA.out
      clear HA
      simp only [spec_l3Digests.l1] at H
      by_cases c9 : x1 < (l1.length : Int)
      ·rw [if_pos c9] at H
       have c14 := decide_eq_true c9
       clear c9
       obtain ⟨c15, H⟩ := ifd_ H
       obtain ⟨c11, H⟩ := ifn_ H
       have LMc0 := a_ c11
       clear c11
       obtain ⟨y2, hy2⟩ : ∃ y_ : List (S29), y_ = (x3 ++ [(⟨(rd_T29 l1 x1).f0, (rd_T29 l1 x1).f1, (rd_T29 l1 x1).f2, (rd_T29 l1 x1).f3⟩ : S29)]) := ⟨_, rfl⟩
       replace H : (spec_l3Digests.l1 k2 l1 y2 (wrap64 (x1 + 1))) = some r := rpl_ hy2 H
       have Ny2 := a_ hy2
       clear hy2
       have H' := a_ H
       clear H
       have p1 : 0 ≤ (x1 : Int) := ofd_
       have q1 : x1 < (l1.length : Int) := ofd_
       obtain ⟨ad1, e1, hx4, hx5, hx6, hx7⟩ := at_T29 HR1.out x1 p1 q1
       cases e1
       replace hx4 := pc_ HB.out hx4
       replace hx5 := pc_ HB.out hx5
       replace hx6 := pc_ HB.out hx6
       replace hx7 := pc_ HB.out hx7
       replace p1 := eq_true p1
       replace q1 := eq_true q1
       go_wp2_with (first | ((with_reducible refine gate_builtin (b := .append) (xs := #[.tmp 28, .tmp 33]) rfl ?_); at_builtin; refine Kd.R_append k29 (w0 := w) w.heap.size rfl (.tmp 28) (.tmp 33) 49 29 (.agg #[(.int .u64 0), (.int .u64 0), (.int .u64 0), (.int .u64 0)]) 32 rfl Try.underlying49 info29 rfl (by decide) (by omega) u5 x3 (⟨(rd_T29 l1 x1).f0, (rd_T29 l1 x1).f1, (rd_T29 l1 x1).f2, (rd_T29 l1 x1).f3⟩ : S29) [.int .u64 ((rd_T29 l1 x1).f0), .int .u64 ((rd_T29 l1 x1).f1), .int .u64 ((rd_T29 l1 x1).f2), .int .u64 ((rd_T29 l1 x1).f3)] (fun _ => True) (fun _ => False) rfl rfl ?aP (fun _ hk => hk.elim) ?aF ?aO ?aB ?aS ?aL ?_; (case aP => exact k29_mkM _ _ _ (⟨(rd_T29 l1 x1).f0, (rd_T29 l1 x1).f1, (rd_T29 l1 x1).f2, (rd_T29 l1 x1).f3⟩ : S29)); (case aB => exact bel_); (case aF => exact (fun _ _ => trivial)); (case aO => exact (kdU_ HO_0.out)); (case aS => exact (below_size bel_)); (case aL => have := LMc0.out; omega); intro v5 w1 ho hb hg hat; rw [← Ny2.out] at ho; replace HB := a_ (hb); have HO2 := a_ (ho); clear HO_0; clear ho hb hg hat))
       go_roundg k2
       case measure => have := HK1.out; have := HK2.out; omega
       case rel => exact ⟨(y2), (wrap64 (x1 + 1)), rl_, H', ⟨by have := HK1.out; have := HK2.out; omega⟩, ⟨kdU_ HO2.out⟩, ⟨bel_⟩⟩
      ·rw [if_neg c9] at H
       have c14 := decide_eq_false c9
       clear c9
       obtain rfl := Option.some.inj H
       go_wp2
       go_ret
       exact ⟨_, rfl_, uR_ HO_0.out, bel_⟩
end
end
end Go.Proofs.Ytflckegggopdnaa.B
