/- What the Go functions of these names do; condition: .f gives an answer. -/
import Derived.Test.YtflckegggopdnaaZCCP0
import Derived.Test.YtflckegggopdnaaZCCP2
import Derived.Test.YtflckegggopdnaaZCCP18
import Derived.Test.YtflckegggopdnaaZCCFSpecClashOfGrowth
import Derived.Test.YtflckegggopdnaaZCCP17
import Derived.Test.YtflckegggopdnaaZCCP9
set_option linter.unusedVariables false
set_option maxHeartbeats 8000000
set_option maxRecDepth 100000
set_option linter.unusedSimpArgs false
namespace Go.Proofs.Ytflckegggopdnaa.B
open Go.RowKit Go.Proofs.YtflckegggopdnaaW
section
mutual
def spec_ClashOfChain.j0 : Nat → List (S51) → Int → ByteArray → List (S29) → ByteArray → List (S29) → Bool → Int → Int → Int → Int → Int → Int → Int → Int → Int → Int → Option (ByteArray × ByteArray × Bool)
 | 0, _, _, _, _, _, _, _, _, _, _, _, _, _, _, _, _, _ => none
 | k + 1, x0, x11, x12, x13, x14, x16, x15, x1, x2, x3, x4, x5, x6, x7, x8, x9, x10 => if x15 = true then (some ((⟨#[]⟩ : ByteArray), (⟨#[]⟩ : ByteArray), false)) else (spec_ClashOfChain.l0 k x0 x11 x12 x14 x16 x13 0 x6 x7 x8 x9 x10 x1 x2 x3 x4 x5)
def spec_ClashOfChain.l0 : Nat → List (S51) → Int → ByteArray → ByteArray → List (S29) → List (S29) → Int → Int → Int → Int → Int → Int → Int → Int → Int → Int → Int → Option (ByteArray × ByteArray × Bool)
 | 0, _, _, _, _, _, _, _, _, _, _, _, _, _, _, _, _, _ => none
 | k + 1, x1, x2, x3, x7, x8, x4, x0, x5, x9, x10, x11, x12, x6, x13, x14, x15, x16 => if x0 < (x1.length : Int) then (if 0 ≤ x0 then ((spec_GrowthLift.f k x6 ((rd_T51 x1 x0).f0.f0) x2 x4 ((rd_T51 x1 x0).f1)).bind fun bt2 => ((spec_PathCheck.f k ((rd_T51 x1 x0).f0.f0) ((rd_T51 x1 x0).f0.f1.f0) ((rd_T51 x1 x0).f0.f1.f1) ((rd_T51 x1 x0).f0.f1.f2) ((rd_T51 x1 x0).f0.f1.f3) x2 x3 bt2.1).bind fun t0 => (if t0 = true then (spec_ClashOfChain.l0 k x1 x2 x3 x7 x8 bt2.1 (wrap64 (x0 + 1)) x5 x9 x10 x11 x12 ((rd_T51 x1 x0).f0.f0) ((rd_T51 x1 x0).f0.f1.f0) ((rd_T51 x1 x0).f0.f1.f1) ((rd_T51 x1 x0).f0.f1.f2) ((rd_T51 x1 x0).f0.f1.f3)) else ((spec_ClashOfGrowth.f k x6 x13 x14 x15 x16 ((rd_T51 x1 x0).f0.f0) ((rd_T51 x1 x0).f0.f1.f0) ((rd_T51 x1 x0).f0.f1.f1) ((rd_T51 x1 x0).f0.f1.f2) ((rd_T51 x1 x0).f0.f1.f3) ((rd_T51 x1 x0).f1) x2 x3 x4).bind fun bt1 => (some (bt1.1, bt1.2.1, bt1.2.2)))))) else (none)) else ((spec_ClashOfPaths.f k x5 x2 x3 x4 x7 x8).bind fun bt0 => (some (bt0.1, bt0.2.1, bt0.2.2)))
end
def spec_ClashOfChain.f (k : Nat) (a0 a1 a2 a3 a4 : Int) (l1 : List (S51)) (a5 : Int) (a6 : ByteArray) (l3 : List (S29)) (a7 : ByteArray) (l4 : List (S29)) : Option (ByteArray × ByteArray × Bool) := (spec_ChainEnd.f k a0 a1 a2 a3 a4 l1).bind fun bt0 => (if bt0.2.2.2.2.2 = true then (if a6.toList = a7.toList then (spec_ClashOfChain.j0 k l1 a5 a6 l3 a7 l4 true a0 a1 a2 a3 a4 bt0.1 bt0.2.1 bt0.2.2.1 bt0.2.2.2.1 bt0.2.2.2.2.1) else ((spec_PathCheck.f k a0 a1 a2 a3 a4 a5 a6 l3).bind fun t0 => (if t0 = true then ((spec_PathCheck.f k bt0.1 bt0.2.1 bt0.2.2.1 bt0.2.2.2.1 bt0.2.2.2.2.1 a5 a7 l4).bind fun t1 => (spec_ClashOfChain.j0 k l1 a5 a6 l3 a7 l4 (!t1) a0 a1 a2 a3 a4 bt0.1 bt0.2.1 bt0.2.2.1 bt0.2.2.2.1 bt0.2.2.2.2.1)) else (spec_ClashOfChain.j0 k l1 a5 a6 l3 a7 l4 true a0 a1 a2 a3 a4 bt0.1 bt0.2.1 bt0.2.2.1 bt0.2.2.2.1 bt0.2.2.2.2.1)))) else (spec_ClashOfChain.j0 k l1 a5 a6 l3 a7 l4 true a0 a1 a2 a3 a4 bt0.1 bt0.2.1 bt0.2.2.1 bt0.2.2.2.1 bt0.2.2.2.2.1))
def spec_ClashOfChain.T9 : TT_ := (true, [([], []), ([0], [0]), ([], []), ([], []), ([2, 3], [2, 3]), ([4], [4]), ([5], [5]), ([6], [6]), ([], []), ([], []), ([], []), ([], []), ([10, 11], [10, 11]), ([12], [12]), ([13], [13]), ([1, 7, 8, 9, 14], [1, 7, 8, 9, 14]), ([15], [15]), ([16], [16]), ([16], [16]), ([17, 15, 0, 1, 2, 3, 4, 5, 6, 7, 8, 9, 10, 11, 12, 13, 14, 15, 16, 17], [17]), ([18, 19, 0, 1, 2, 3, 4, 5, 6, 7, 8, 9, 10, 11, 12, 13, 14, 15, 16, 17, 18, 19], [18])])
def spec_ClashOfChain.B9 : List Nat := [0, 1, 0, 0, 12, 28, 60, 124, 0, 0, 0, 0, 3072, 7168, 15360, 32767, 65535, 131071, 131071, 262143, 1048575]
theorem spec_ClashOfChain.tab9 : rtab .any (opsOf Try.f26 9) = spec_ClashOfChain.T9 := by kernel_rfl
theorem spec_ClashOfChain.bits9 : waitsOk spec_ClashOfChain.T9.2 spec_ClashOfChain.B9 = true := by kernel_rfl
def spec_ClashOfChain.T11 : TT_ := (true, [([], []), ([], []), ([], []), ([1, 2], [1, 2]), ([3], [3]), ([], []), ([], []), ([], []), ([0, 4, 5, 6, 7], [0, 4, 5, 6, 7]), ([8], [8]), ([8], [8]), ([9, 8, 0, 1, 2, 3, 4, 5, 6, 7, 8, 9, 10], [9]), ([10, 11, 0, 1, 2, 3, 4, 5, 6, 7, 8, 9, 10, 11], [10])])
def spec_ClashOfChain.B11 : List Nat := [0, 0, 0, 6, 14, 0, 0, 0, 255, 511, 511, 2047, 4095]
theorem spec_ClashOfChain.tab11 : rtab .any (opsOf Try.f26 11) = spec_ClashOfChain.T11 := by kernel_rfl
theorem spec_ClashOfChain.bits11 : waitsOk spec_ClashOfChain.T11.2 spec_ClashOfChain.B11 = true := by kernel_rfl
theorem spec_ClashOfChain.calls (k : Nat) (a0 a1 a2 a3 a4 : Int) (A2 : Option Addr) (c16 : Nat) (l1 : List (S51)) (a5 : Int) (a6 : ByteArray) (P4_ : Nat → Prop) (A1 : Option Addr) (c4 : Nat) (l3 : List (S29)) (a7 : ByteArray) (A7 : Option Addr) (c6 : Nat) (l4 : List (S29)) (r0 r1 : ByteArray) (r2 : Bool) (w : World) (hr1 : Kd.C k51 w A2 l1.length l1) (hc1 : l1.length ≤ c16) (hs0 : Kd.V k29 29 w w.heap.size (fun k_ => P4_ k_) (.slice A1 l3.length c4) l3) (hr6 : Kd.C k29 w A7 l4.length l4) (hc6 : l4.length ≤ c6) (h : spec_ClashOfChain.f k a0 a1 a2 a3 a4 l1 a5 a6 l3 a7 l4 = some (r0, r1, r2)) :
  Calls Try.prog 26 #[.agg #[.int .i64 a0, .int .u64 a1, .int .u64 a2, .int .u64 a3, .int .u64 a4], .slice A2 l1.length c16, .int .i64 a5, .string a6, .slice A1 l3.length c4, .string a7, .slice A7 l4.length c6] w fun e w' => e = .returned (.tuple #[.agg #[.string r0, .string r1], .bool r2]) ∧ Below w.heap.size w w' := by
 have hu31 := Try.underlying31
 have hu46 := Try.underlying46
 have hu51 := Try.underlying51
 have HR1 := a_ hr1
 have HC1 := a_ hc1
 clear hr1 hc1
 have HO0 := a_ (show Kd.V k29 29 w w.heap.size (fun k_ => (P4_ k_ ∨ w.heap.size ≤ k_)) (.slice A1 l3.length c4) l3 from Kd.V_mono hs0 (fun k_ hk => .inl hk))
 have HR6 := a_ hr6
 have HC6 := a_ hc6
 clear hr6 hc6
 have HB := rB_ w
 have H := h
 unfold spec_ClashOfChain.f at H
 clear h
 obtain ⟨⟨t0, t1, t2, t3, t4, t5⟩, A13, H⟩ := bnd_ H
 dsimp only at H
 have HC9 := a_ H
 clear H
 go_enter Try.func26, Try.ntmps26
 go_upto_region 2 with (first | ((with_reducible refine gate_dst (N := 7) rfl ?_); refine boxE_ (cs := #[.int .i64 a0, .int .u64 a1, .int .u64 a2, .int .u64 a3, .int .u64 a4]) (t := 31) ?_; intro gb3 hg w3 hbox hb; replace HO0 := a_ (Kd.V_below (Kd.V_elderB (uV_ HO0.out) gb3 (Nat.le_of_eq hg.symm)) hb); have BK2 := a_ (hbox); have GW1 := sizeB_ hg; replace HB := s_ hb; clear hb hbox hg) | ((with_reducible refine gate_dst (N := 14) rfl ?_); refine boxE_ (cs := #[.string (⟨#[]⟩ : ByteArray), .string (⟨#[]⟩ : ByteArray)]) (t := 46) ?_; intro gb2 hg w4 hbox hb; replace HO0 := a_ (Kd.V_below (Kd.V_elderB (uV_ HO0.out) gb2 (Nat.le_of_eq hg.symm)) hb); have BK1 := a_ (hbox); have GW0 := sizeB_ hg; replace HB := s_ hb; obtain ⟨NB1, NB2⟩ := ne2_ BK2.out hg; replace BK2 := bb_ BK2.out hb; clear hb hbox hg; have hnb0 := NB1.out; have hnc0 := NB2.out; obtain ⟨z0, z1, z2, z3, z4, f0, f1, f2, f3, f4⟩ := cz5_ BK2.out) | (refine gcB_ 11 26 Try.func11 (spec_ChainEnd.calls _ _ _ _ _ _ _ _ _ _ _ _ _ _ _ _ ?side1 ?side2 A13.out) ?_; (case side1 => exact cU_ (Kd.C_below HR1.out HB.out)); (case side2 => exact HC1.out); intro w5 hb; replace HO0 := a_ (Kd.V_below (uV_ HO0.out) hb); replace BK2 := bb_ BK2.out hb; replace BK1 := bb_ BK1.out hb; replace HB := s_ hb; clear hb) | ((with_reducible refine gate_dst (N := 16) rfl ?_); refine boxE_ (cs := #[.int .i64 0, .int .u64 0, .int .u64 0, .int .u64 0, .int .u64 0]) (t := 31) ?_; intro gb0 hg w6 hbox hb; replace HO0 := a_ (Kd.V_below (Kd.V_elderB (uV_ HO0.out) gb0 (Nat.le_of_eq hg.symm)) hb); have BK3 := a_ (hbox); have GW2 := sizeB_ hg; replace HB := s_ hb; obtain ⟨NB5, NB7⟩ := ne2_ BK2.out hg; replace BK2 := bb_ BK2.out hb; obtain ⟨NB3, NB4⟩ := ne2_ BK1.out hg; replace BK1 := bb_ BK1.out hb; clear hb hbox hg; have hnb1 := NB7.out; have hnc1 := NB5.out; have hnb2 := NB4.out; have hnc2 := NB3.out; obtain ⟨z5, z6, z7, z8, z9, f5, f6, f7, f8, f9⟩ := cz5_ BK3.out))
 (try simp only [Act.put, List.setIfInBounds_toArray, List.set_cons_zero, List.set_cons_succ])
 go_cut [51] (fun v3 wc => ∃ (kq : Nat) (x9 : Bool), v3 = .bool x9 ∧ Aside0 (spec_ClashOfChain.j0 kq l1 a5 a6 l3 a7 l4 x9 a0 a1 a2 a3 a4 t0 t1 t2 t3 t4 = some (r0, r1, r2)) ∧ Aside0 (kq ≤ k) ∧ Aside0 (Kd.V k29 29 wc w.heap.size (fun k_ => (P4_ k_ ∨ w.heap.size ≤ k_) ∧ k_ ≠ gb3 ∧ k_ ≠ gb2 ∧ k_ ≠ gb0) (.slice A1 l3.length c4) l3) ∧ Aside0 (wc.heap[gb3]? = some (.cells #[.int .i64 a0, .int .u64 a1, .int .u64 a2, .int .u64 a3, .int .u64 a4] 31 (0, 0))) ∧ Aside0 (wc.heap[gb2]? = some (.cells #[.string (⟨#[]⟩ : ByteArray), .string (⟨#[]⟩ : ByteArray)] 46 (0, 0))) ∧ Aside0 (wc.heap[gb0]? = some (.cells #[.int .i64 t0, .int .u64 t1, .int .u64 t2, .int .u64 t3, .int .u64 t4] 31 (0, 0))) ∧ Aside0 (Below w.heap.size w wc))
 case first =>
  have H := HC9.out
  clear HC9
  by_cases c12 : t5 = true
  ·subst c12
   rw [if_pos rfl] at H
   by_cases c0 : a6.toList = a7.toList
   ·rw [if_pos c0] at H
    have c11 := beq_iff_eq.mpr c0
    have c18 := bne_eq_false_iff_eq.mpr c0
    clear c0
    (first | rw [c11] | (simp only [i64_w, i32_w]; rw [c11]) | skip)
    have H' := a_ H
    clear H
    go_wp2
    go_meet
    case rel => exact ⟨_, (true), rl_, H', ⟨by first | omega | exact Nat.le_refl _⟩, ⟨uV_ (Kd.V_mono (Kd.V_far (p := ⟨gb0, 4, none⟩) (Kd.V_far (p := ⟨gb0, 3, none⟩) (Kd.V_far (p := ⟨gb0, 2, none⟩) (Kd.V_far (p := ⟨gb0, 1, none⟩) (Kd.V_far (p := ⟨gb0, 0, none⟩) (Kd.V_mono HO0.out (fun k_ hk => (⟨hk, hk.2⟩ : _ ∧ k_ ≠ gb0))) (fun _ hk => hk.2) (.int .i64 t0)) (fun _ hk => hk.2) (.int .u64 t1)) (fun _ hk => hk.2) (.int .u64 t2)) (fun _ hk => hk.2) (.int .u64 t3)) (fun _ hk => hk.2) (.int .u64 t4)) (fun _ hk => ⟨hk.1.1.1.1, ⟨hk.1.1.1.2, ⟨hk.1.1.2, hk.1.2⟩⟩⟩))⟩, ⟨blkU_ BK2.out⟩, ⟨blkU_ BK1.out⟩, ⟨blkF_ BK3.out⟩, ⟨bel_⟩⟩
   ·rw [if_neg c0] at H
    have c11 := beq_eq_false_iff_ne.mpr c0
    have c18 := bne_iff_ne.mpr c0
    (first | rw [c11] | (simp only [i64_w, i32_w]; rw [c11]) | skip)
    obtain ⟨t6, A4, H⟩ := bnd_ H
    by_cases c13 : t6 = true
    ·subst c13
     rw [if_pos rfl] at H
     obtain ⟨t7, A10, H⟩ := bnd_ H
     have H' := a_ H
     clear H
     have hnb3 := NB1.out
     have hnc3 := NB2.out
     have hnb4 := NB5.out
     have hnc4 := NB7.out
     obtain ⟨z10, z11, z12, z13, z14, f10, f11, f12, f13, f14⟩ := cz5_ BK2.out
     go_wp2_with (first | (go_at_call 46; (with_reducible refine (spec_PathCheck.calls _ _ _ _ _ _ _ _ _ _ _ _ _ ?side1 ?side2 A4.out).mono ?_); (case side1 => refine (Kd.V_reads' (e := 29) (base := w.heap.size) (ok := fun k_ => ((((P4_ k_ ∨ w.heap.size ≤ k_) ∧ k_ ≠ gb3) ∧ k_ ≠ gb2) ∧ k_ ≠ gb0)) (n := l3.length) (c := c4) ?_).2.2; exact (uV_ (Kd.V_mono (Kd.V_far (p := ⟨gb0, 4, none⟩) (Kd.V_far (p := ⟨gb0, 3, none⟩) (Kd.V_far (p := ⟨gb0, 2, none⟩) (Kd.V_far (p := ⟨gb0, 1, none⟩) (Kd.V_far (p := ⟨gb0, 0, none⟩) (Kd.V_mono HO0.out (fun k_ hk => (⟨hk, hk.2⟩ : _ ∧ k_ ≠ gb0))) (fun _ hk => hk.2) (.int .i64 t0)) (fun _ hk => hk.2) (.int .u64 t1)) (fun _ hk => hk.2) (.int .u64 t2)) (fun _ hk => hk.2) (.int .u64 t3)) (fun _ hk => hk.2) (.int .u64 t4)) (fun _ h_ => h_.1)))); (case side2 => exact (Kd.V_reads' HO0.out).2.1); rintro e w7 ⟨rfl, hb⟩; replace HO0 := a_ (Kd.V_below (uV_ (Kd.V_mono (Kd.V_far (p := ⟨gb0, 4, none⟩) (Kd.V_far (p := ⟨gb0, 3, none⟩) (Kd.V_far (p := ⟨gb0, 2, none⟩) (Kd.V_far (p := ⟨gb0, 1, none⟩) (Kd.V_far (p := ⟨gb0, 0, none⟩) (Kd.V_mono HO0.out (fun k_ hk => (⟨hk, hk.2⟩ : _ ∧ k_ ≠ gb0))) (fun _ hk => hk.2) (.int .i64 t0)) (fun _ hk => hk.2) (.int .u64 t1)) (fun _ hk => hk.2) (.int .u64 t2)) (fun _ hk => hk.2) (.int .u64 t3)) (fun _ hk => hk.2) (.int .u64 t4)) (fun _ h_ => h_.1))) hb); replace BK2 := bb_ BK2.out hb; replace BK1 := bb_ BK1.out hb; replace BK3 := blkPB_ (cs := #[.int .i64 t0, .int .u64 t1, .int .u64 t2, .int .u64 t3, .int .u64 t4]) BK3.out hb; replace HB := s_ hb; clear hb; have hnb5 := NB4.out; have hnc5 := NB3.out; obtain ⟨z15, z16, z17, z18, z19, f15, f16, f17, f18, f19⟩ := cz5_ BK3.out) | (go_at_call 46; (with_reducible refine (spec_PathCheck.calls _ _ _ _ _ _ _ _ _ _ _ _ _ ?side1 ?side2 A10.out).mono ?_); (case side1 => exact cU_ (Kd.C_below HR6.out HB.out)); (case side2 => exact HC6.out); rintro e w9 ⟨rfl, hb⟩; replace HO0 := a_ (Kd.V_below (uV_ HO0.out) hb); replace BK2 := bb_ BK2.out hb; replace BK1 := bb_ BK1.out hb; replace BK3 := bb_ BK3.out hb; replace HB := s_ hb; clear hb))
     go_meet
     case rel => exact ⟨_, (!t7), rl_, H', ⟨by first | omega | exact Nat.le_refl _⟩, ⟨uV_ (Kd.V_mono HO0.out (fun _ hk => ⟨hk.1.1.1, ⟨hk.1.1.2, ⟨hk.1.2, hk.2⟩⟩⟩))⟩, ⟨blkU_ BK2.out⟩, ⟨blkU_ BK1.out⟩, ⟨blkU_ BK3.out⟩, ⟨bel_⟩⟩
    ·replace c13 := Bool.eq_false_iff.mpr c13
     subst c13
     rw [if_neg (show ¬ (false = true) by decide)] at H
     have H' := a_ H
     clear H
     have hnb6 := NB1.out
     have hnc6 := NB2.out
     have hnb7 := NB5.out
     have hnc7 := NB7.out
     obtain ⟨z20, z21, z22, z23, z25, f20, f21, f22, f23, f24⟩ := cz5_ BK2.out
     go_wp2_with (first | (go_at_call 46; (with_reducible refine (spec_PathCheck.calls _ _ _ _ _ _ _ _ _ _ _ _ _ ?side1 ?side2 A4.out).mono ?_); (case side1 => refine (Kd.V_reads' (e := 29) (base := w.heap.size) (ok := fun k_ => ((((P4_ k_ ∨ w.heap.size ≤ k_) ∧ k_ ≠ gb3) ∧ k_ ≠ gb2) ∧ k_ ≠ gb0)) (n := l3.length) (c := c4) ?_).2.2; exact (uV_ (Kd.V_mono (Kd.V_far (p := ⟨gb0, 4, none⟩) (Kd.V_far (p := ⟨gb0, 3, none⟩) (Kd.V_far (p := ⟨gb0, 2, none⟩) (Kd.V_far (p := ⟨gb0, 1, none⟩) (Kd.V_far (p := ⟨gb0, 0, none⟩) (Kd.V_mono HO0.out (fun k_ hk => (⟨hk, hk.2⟩ : _ ∧ k_ ≠ gb0))) (fun _ hk => hk.2) (.int .i64 t0)) (fun _ hk => hk.2) (.int .u64 t1)) (fun _ hk => hk.2) (.int .u64 t2)) (fun _ hk => hk.2) (.int .u64 t3)) (fun _ hk => hk.2) (.int .u64 t4)) (fun _ h_ => h_.1)))); (case side2 => exact (Kd.V_reads' HO0.out).2.1); rintro e w10 ⟨rfl, hb⟩; replace HO0 := a_ (Kd.V_below (uV_ (Kd.V_mono (Kd.V_far (p := ⟨gb0, 4, none⟩) (Kd.V_far (p := ⟨gb0, 3, none⟩) (Kd.V_far (p := ⟨gb0, 2, none⟩) (Kd.V_far (p := ⟨gb0, 1, none⟩) (Kd.V_far (p := ⟨gb0, 0, none⟩) (Kd.V_mono HO0.out (fun k_ hk => (⟨hk, hk.2⟩ : _ ∧ k_ ≠ gb0))) (fun _ hk => hk.2) (.int .i64 t0)) (fun _ hk => hk.2) (.int .u64 t1)) (fun _ hk => hk.2) (.int .u64 t2)) (fun _ hk => hk.2) (.int .u64 t3)) (fun _ hk => hk.2) (.int .u64 t4)) (fun _ h_ => h_.1))) hb); replace BK2 := bb_ BK2.out hb; replace BK1 := bb_ BK1.out hb; replace BK3 := blkPB_ (cs := #[.int .i64 t0, .int .u64 t1, .int .u64 t2, .int .u64 t3, .int .u64 t4]) BK3.out hb; replace HB := s_ hb; clear hb))
     go_meet
     case rel => exact ⟨_, (true), rl_, H', ⟨by first | omega | exact Nat.le_refl _⟩, ⟨uV_ (Kd.V_mono HO0.out (fun _ hk => ⟨hk.1.1.1, ⟨hk.1.1.2, ⟨hk.1.2, hk.2⟩⟩⟩))⟩, ⟨blkU_ BK2.out⟩, ⟨blkU_ BK1.out⟩, ⟨blkU_ BK3.out⟩, ⟨bel_⟩⟩
  ·replace c12 := Bool.eq_false_iff.mpr c12
   subst c12
   rw [if_neg (show ¬ (false = true) by decide)] at H
   have H' := a_ H
   clear H
   go_wp2
   go_meet
   case rel => exact ⟨_, (true), rl_, H', ⟨by first | omega | exact Nat.le_refl _⟩, ⟨uV_ (Kd.V_mono (Kd.V_far (p := ⟨gb0, 4, none⟩) (Kd.V_far (p := ⟨gb0, 3, none⟩) (Kd.V_far (p := ⟨gb0, 2, none⟩) (Kd.V_far (p := ⟨gb0, 1, none⟩) (Kd.V_far (p := ⟨gb0, 0, none⟩) (Kd.V_mono HO0.out (fun k_ hk => (⟨hk, hk.2⟩ : _ ∧ k_ ≠ gb0))) (fun _ hk => hk.2) (.int .i64 t0)) (fun _ hk => hk.2) (.int .u64 t1)) (fun _ hk => hk.2) (.int .u64 t2)) (fun _ hk => hk.2) (.int .u64 t3)) (fun _ hk => hk.2) (.int .u64 t4)) (fun _ hk => ⟨hk.1.1.1.1, ⟨hk.1.1.1.2, ⟨hk.1.1.2, hk.1.2⟩⟩⟩))⟩, ⟨blkU_ BK2.out⟩, ⟨blkU_ BK1.out⟩, ⟨blkF_ BK3.out⟩, ⟨bel_⟩⟩
 case rest =>
  clear HC9
  (try clear c16); (try clear c4); (try clear c6); (try clear c12); (try clear c0); (try clear c11); (try clear c18); (try clear c13); (try clear z0 z1 z2 z3 z4); (try clear z5 z6 z7 z8 z9); (try clear z10 z11 z12 z13 z14); (try clear z15 z16 z17 z18 z19); (try clear z20 z21 z22 z23 z25); (try clear f0 f1 f2 f3 f4); (try clear f5 f6 f7 f8 f9); (try clear f10 f11 f12 f13 f14); (try clear f15 f16 f17 f18 f19); (try clear f20 f21 f22 f23 f24)
  obtain ⟨kq, x9, rfl, HA, HJ8, HO_1, BK2, BK1, BK3, HB⟩ := hcut
  cases kq with
  | zero => exact absurd HA.out (by simp [spec_ClashOfChain.j0])
  | succ kj0 =>
   have H := HA.out
   clear HA
   simp only [spec_ClashOfChain.j0] at H
   by_cases c15 : x9 = true
   ·subst c15
    rw [if_pos rfl] at H
    simp only [Option.some.injEq, Prod.mk.injEq] at H
    obtain ⟨rfl, rfl, rfl⟩ := H
    have hnb8 := NB2.out
    have hnc8 := NB1.out
    have hnb9 := NB3.out
    have hnc9 := NB4.out
    obtain ⟨z27, z28, f25, f26⟩ := cz2_ BK1.out
    go_wp2
    refine bodyPost_ret (results_ct rfl _ _ gb2 46 #[.string (⟨#[]⟩ : ByteArray), .string (⟨#[]⟩ : ByteArray)] (0, 0) _ rfl (blkF_ BK1.out) Try.underlying46 rfl (by kernel_rfl)) rfl ?_
    exact ⟨rfl_, bel_⟩
   ·replace c15 := Bool.eq_false_iff.mpr c15
    subst c15
    rw [if_neg (show ¬ (false = true) by decide)] at H
    have H' := a_ H
    clear H
    have hnb10 := NB1.out
    have hnc10 := NB2.out
    have hnb11 := NB5.out
    have hnc11 := NB7.out
    obtain ⟨z30, z32, z33, z34, z35, f27, f28, f29, f30, f31⟩ := cz5_ BK2.out
    go_wp2_with (first | (refine bx_ 18 #[.int .i64 0, .int .u64 0, .int .u64 0, .int .u64 0, .int .u64 0] 31 ?_; intro gb1 w11 hg hb BK0 GW3; replace HO_1 := a_ (Kd.V_below (Kd.V_elderB (uV_ HO_1.out) gb1 (Nat.le_of_eq hg.symm)) hb); replace HB := s_ hb; obtain ⟨NB10, NB11⟩ := ne2_ BK2.out hg; replace BK2 := bb_ BK2.out hb; obtain ⟨NB6, NB0⟩ := ne2_ BK1.out hg; replace BK1 := bb_ BK1.out hb; obtain ⟨NB8, NB9⟩ := ne2_ BK3.out hg; replace BK3 := bb_ BK3.out hb; clear hb hg; have hnb12 := NB11.out; have hnc12 := NB10.out; have hnb13 := NB0.out; have hnc13 := NB6.out; have hnb14 := NB9.out; have hnc14 := NB8.out; obtain ⟨z36, z37, z38, z39, z40, f32, f33, f34, f35, f36⟩ := cz5_ BK0.out))
    go_loopg [19, 20] kj0 (fun kq v1 v2 w' => ∃ (x6 : List (S29)) (x0 : Int) (x7 x8 : ByteArray) (x1 x2 x3 x4 x5 : Int), v2 = .int .i64 x0 ∧ Aside0 (spec_ClashOfChain.l0 kq l1 a5 a6 a7 l4 x6 x0 t0 t1 t2 t3 t4 x1 x2 x3 x4 x5 = some (r0, r1, r2)) ∧ Aside0 (kq ≤ kj0) ∧ Aside0 (Kd.V k29 29 w' w.heap.size (fun k_ => (P4_ k_ ∨ w.heap.size ≤ k_) ∧ k_ ≠ gb3 ∧ k_ ≠ gb2 ∧ k_ ≠ gb0 ∧ k_ ≠ gb1) v1 x6) ∧ Aside0 (w'.heap[gb3]? = some (.cells #[.int .i64 a0, .int .u64 a1, .int .u64 a2, .int .u64 a3, .int .u64 a4] 31 (0, 0))) ∧ Aside0 (w'.heap[gb2]? = some (.cells #[.string x7, .string x8] 46 (0, 0))) ∧ Aside0 (w'.heap[gb0]? = some (.cells #[.int .i64 t0, .int .u64 t1, .int .u64 t2, .int .u64 t3, .int .u64 t4] 31 (0, 0))) ∧ Aside0 (w'.heap[gb1]? = some (.cells #[.int .i64 x1, .int .u64 x2, .int .u64 x3, .int .u64 x4, .int .u64 x5] 31 (0, 0))) ∧ Aside0 (Below w.heap.size w w'))
    case atStart => exact ⟨(l3), (0), ((⟨#[]⟩ : ByteArray)), ((⟨#[]⟩ : ByteArray)), (a0), (a1), (a2), (a3), (a4), rl_, H', ⟨Nat.le_refl _⟩, ⟨uV_ (Kd.V_mono (Kd.V_far (p := ⟨gb1, 4, none⟩) (Kd.V_far (p := ⟨gb1, 3, none⟩) (Kd.V_far (p := ⟨gb1, 2, none⟩) (Kd.V_far (p := ⟨gb1, 1, none⟩) (Kd.V_far (p := ⟨gb1, 0, none⟩) (Kd.V_mono HO_1.out (fun k_ hk => (⟨hk, hk.2⟩ : _ ∧ k_ ≠ gb1))) (fun _ hk => hk.2) (.int .i64 a0)) (fun _ hk => hk.2) (.int .u64 a1)) (fun _ hk => hk.2) (.int .u64 a2)) (fun _ hk => hk.2) (.int .u64 a3)) (fun _ hk => hk.2) (.int .u64 a4)) (fun _ hk => ⟨hk.1.1.1, ⟨hk.1.1.2.1, ⟨hk.1.1.2.2.1, ⟨hk.1.1.2.2.2, hk.1.2⟩⟩⟩⟩))⟩, ⟨blkU_ BK2.out⟩, ⟨blkU_ BK1.out⟩, ⟨blkU_ BK3.out⟩, ⟨blkF_ BK0.out⟩, ⟨bel_⟩⟩
    case round =>
     clear H'
     (try clear c16); (try clear c4); (try clear c6); (try clear c12); (try clear c0); (try clear c11); (try clear c18); (try clear c13); (try clear c15); (try clear z0 z1 z2 z3 z4); (try clear z5 z6 z7 z8 z9); (try clear z10 z11 z12 z13 z14); (try clear z15 z16 z17 z18 z19); (try clear z20 z21 z22 z23 z25); (try clear z27 z28); (try clear z30 z32 z33 z34 z35); (try clear z36 z37 z38 z39 z40); (try clear f0 f1 f2 f3 f4); (try clear f5 f6 f7 f8 f9); (try clear f10 f11 f12 f13 f14); (try clear f15 f16 f17 f18 f19); (try clear f20 f21 f22 f23 f24); (try clear f25 f26); (try clear f27 f28 f29 f30 f31); (try clear f32 f33 f34 f35 f36)
     obtain ⟨x6, x0, x7, x8, x1, x2, x3, x4, x5, rfl, HA, HK2, HO_0, BK2, BK1, BK3, BK0, HB⟩ := hrel
     cases gk with
     | zero => exact absurd HA.out (by simp [spec_ClashOfChain.l0])
     | succ k2 =>
      have H := HA.out
      clear HA
      simp only [spec_ClashOfChain.l0] at H
      by_cases c14 : x0 < (l1.length : Int)
      ·rw [if_pos c14] at H
       have c22 := decide_eq_true c14
       clear c14
       obtain ⟨c24, H⟩ := ifd_ H
       obtain ⟨⟨t10, t15⟩, A5, H⟩ := bnd_ H
       dsimp only at H
       obtain ⟨t11, A6, H⟩ := bnd_ H
       by_cases c17 : t11 = true
       ·subst c17
        rw [if_pos rfl] at H
        have H' := a_ H
        clear H
        try go_wp2
        replace HO_0 := a_ (Kd.V_drew HO_0.out)
        replace BK2 := a_ (blk_drew BK2.out)
        replace BK1 := a_ (blk_drew BK1.out)
        replace BK3 := a_ (blk_drew BK3.out)
        replace BK0 := a_ (blk_drew BK0.out)
        replace HB := a_ (below_drew1 HB.out)
        have p0 : 0 ≤ (x0 : Int) := ofd_
        have q0 : x0 < (l1.length : Int) := ofd_
        obtain ⟨ad0, A0, c1, e0, hx2, hx3, hx4, hx5, hx6, hx0, hl0, hi0⟩ := at_T51 HR1.out x0 p0 q0
        have hw5 := hx0
        have hw4 := hx6
        have hw3 := hx5
        have hw2 := hx4
        have hw1 := hx3
        have hw0 := hx2
        cases e0
        replace hx2 := pc_ HB.out hx2
        replace hx3 := pc_ HB.out hx3
        replace hx4 := pc_ HB.out hx4
        replace hx5 := pc_ HB.out hx5
        replace hx6 := pc_ HB.out hx6
        replace hx0 := pc_ HB.out hx0
        have HR1054_5 := a_ hi0
        have HC1054_5 := a_ hl0
        clear hi0 hl0
        replace p0 := eq_true p0
        replace q0 := eq_true q0
        have p1 : 0 ≤ (x0 : Int) := ofd_
        have q1 : x0 < (l1.length : Int) := ofd_
        obtain ⟨ad1, A8, c20, e1, hx7, hx8, hx9, hx10, hx11, hx1, hl1, hi1⟩ := at_T51 HR1.out x0 p1 q1
        have hw11 := hx1
        have hw10 := hx11
        have hw9 := hx10
        have hw8 := hx9
        have hw7 := hx8
        have hw6 := hx7
        obtain rfl : ad0 = ad1 := (by injection e1)
        replace hx7 := pc_ HB.out hx7
        replace hx8 := pc_ HB.out hx8
        replace hx9 := pc_ HB.out hx9
        replace hx10 := pc_ HB.out hx10
        replace hx11 := pc_ HB.out hx11
        replace hx1 := pc_ HB.out hx1
        have HR1055_5 := a_ hi1
        have HC1055_5 := a_ hl1
        clear hi1 hl1
        replace p1 := eq_true p1
        replace q1 := eq_true q1
        have ea_ := Option.some.inj (hx0.symm.trans hx1)
        injection ea_ with ea_ en_ ec_
        subst ea_
        subst ec_
        clear en_
        obtain ⟨Ao1, co1, eo0⟩ := Kd.V_slice HO_0.out
        (first | subst eo0 | (injection eo0 with f1_ f2_ f3_; have f4_ := f1_.symm; have f5_ := f3_.symm; clear f1_ f2_ f3_; subst f4_; subst f5_))
        refine start_ (n := 21) (S := fun w' => w'.cell? ⟨gb1, 0, none⟩ = some (.int .i64 x1) ∧ w'.cell? ⟨gb1, 1, none⟩ = some (.int .u64 x2) ∧ w'.cell? ⟨gb1, 2, none⟩ = some (.int .u64 x3) ∧ w'.cell? ⟨gb1, 3, none⟩ = some (.int .u64 x4) ∧ w'.cell? ⟨gb1, 4, none⟩ = some (.int .u64 x5) ∧ w'.cell? (ad0.add ((x0).toNat * 6)) = some (.int .i64 ((rd_T51 l1 x0).f0.f0)) ∧ w'.cell? ⟨(ad0.add ((x0).toNat * 6)).block, (ad0.add ((x0).toNat * 6)).off + 1, none⟩ = some (.int .u64 ((rd_T51 l1 x0).f0.f1.f0)) ∧ w'.cell? ⟨(ad0.add ((x0).toNat * 6)).block, (ad0.add ((x0).toNat * 6)).off + 2, none⟩ = some (.int .u64 ((rd_T51 l1 x0).f0.f1.f1)) ∧ w'.cell? ⟨(ad0.add ((x0).toNat * 6)).block, (ad0.add ((x0).toNat * 6)).off + 3, none⟩ = some (.int .u64 ((rd_T51 l1 x0).f0.f1.f2)) ∧ w'.cell? ⟨(ad0.add ((x0).toNat * 6)).block, (ad0.add ((x0).toNat * 6)).off + 4, none⟩ = some (.int .u64 ((rd_T51 l1 x0).f0.f1.f3)) ∧ w'.cell? ⟨(ad0.add ((x0).toNat * 6)).block, (ad0.add ((x0).toNat * 6)).off + 5, none⟩ = some (.slice A0 ((rd_T51 l1 x0).f1).length c1) ∧ w'.cell? (ad0.add ((x0).toNat * 6)) = some (.int .i64 ((rd_T51 l1 x0).f0.f0)) ∧ w'.cell? ⟨(ad0.add ((x0).toNat * 6)).block, (ad0.add ((x0).toNat * 6)).off + 1, none⟩ = some (.int .u64 ((rd_T51 l1 x0).f0.f1.f0)) ∧ w'.cell? ⟨(ad0.add ((x0).toNat * 6)).block, (ad0.add ((x0).toNat * 6)).off + 2, none⟩ = some (.int .u64 ((rd_T51 l1 x0).f0.f1.f1)) ∧ w'.cell? ⟨(ad0.add ((x0).toNat * 6)).block, (ad0.add ((x0).toNat * 6)).off + 3, none⟩ = some (.int .u64 ((rd_T51 l1 x0).f0.f1.f2)) ∧ w'.cell? ⟨(ad0.add ((x0).toNat * 6)).block, (ad0.add ((x0).toNat * 6)).off + 4, none⟩ = some (.int .u64 ((rd_T51 l1 x0).f0.f1.f3)) ∧ w'.cell? ⟨(ad0.add ((x0).toNat * 6)).block, (ad0.add ((x0).toNat * 6)).off + 5, none⟩ = some (.slice A0 ((rd_T51 l1 x0).f1).length c1)) (ds := []) #[false, false, false, false, false, false, false, false, false, false, false, false, false, false, false, false, false, false, false, false, false] (by kernel_rfl) rfl rfl ⟨(blk_cell BK0.out 0).trans rfl, (blk_cell BK0.out 1).trans rfl, (blk_cell BK0.out 2).trans rfl, (blk_cell BK0.out 3).trans rfl, (blk_cell BK0.out 4).trans rfl, (pc_ HB.out hw0), (pc_ HB.out hw1), (pc_ HB.out hw2), (pc_ HB.out hw3), (pc_ HB.out hw4), (pc_ HB.out hw5), (pc_ HB.out hw6), (pc_ HB.out hw7), (pc_ HB.out hw8), (pc_ HB.out hw9), (pc_ HB.out hw10), (pc_ HB.out hw11)⟩ (fun hHeld => ?_); refine with_tabW spec_ClashOfChain.tab9 spec_ClashOfChain.bits9 (fun HT HW_ => ?_)
        generalize wr.drew = w12 at HO_0 BK2 BK1 BK3 BK0 HB HR1054_5 HR1055_5 hx2 hx3 hx4 hx5 hx6 hx0 hx7 hx8 hx9 hx10 hx11 hx1 hHeld ⊢
        refine qP_ 0 62 21 1 ?_
        refine qP_ 2 64 21 5 ?_
        refine qP_ 3 65 21 13 ?_
        refine qP_ 4 66 21 29 ?_
        refine qP_ 5 67 21 61 ?_
        refine qP_ 6 68 21 125 ?_
        refine qP_ 8 70 21 381 ?_
        refine qP_ 9 71 21 893 ?_
        refine qP_ 10 72 21 1917 ?_
        refine qP_ 11 73 21 3965 ?_
        refine qP_ 12 74 21 8061 ?_
        refine qP_ 13 75 21 16253 ?_
        refine qT_ 1 63 21 16255 ?_
        refine qT_ 7 69 21 16383 ?_
        refine qT_ 14 76 21 32767 ?_
        refine oneP_ 15 (some 77) (b_ 21 65535) HT (fun K hK => ?_)
        refine goN_ Try.func41 #[.int .i64 x1, .int .i64 ((rd_T51 l1 x0).f0.f0), .int .i64 a5, .slice Ao1 x6.length co1, .slice A0 ((rd_T51 l1 x0).f1).length c1] ?_
        with_reducible refine (spec_GrowthLift.calls _ _ _ _ _ _ _ _ _ _ _ _ _ ?side1 ?side2 ?side3 ?side4 A5.out).mono ?_
        (case side1 => exact cU_ (Kd.V_reads' HO_0.out).2.2)
        (case side2 => exact (Kd.V_reads' HO_0.out).2.1)
        (case side3 => exact cU_ (Kd.C_below HR1055_5.out HB.out))
        (case side4 => exact HC1055_5.out)
        rintro e w13 ⟨v0, rfl, ho0, hb⟩
        refine ⟨_, rfl, ?_⟩
        replace HO_0 := a_ (Kd.V_elder' (uV_ HO_0.out) (Kd.R_base ho0) hb)
        have HO1 := a_ (Kd.R_lower (Kd.R_newM (M := fun k_ => (w.heap.size ≤ k_)) ho0 (below_size bel_) (fun k_ h_ => h_)) (below_size bel_))
        replace BK2 := bb_ BK2.out hb
        replace BK1 := bb_ BK1.out hb
        replace BK3 := bb_ BK3.out hb
        replace BK0 := bb_ BK0.out hb
        replace HB := s_ hb
        (try clear hb); (try clear ho0)
        refine hK.out _ _ ⟨(blk_cell BK0.out 0).trans rfl, (blk_cell BK0.out 1).trans rfl, (blk_cell BK0.out 2).trans rfl, (blk_cell BK0.out 3).trans rfl, (blk_cell BK0.out 4).trans rfl, (pc_ HB.out hw0), (pc_ HB.out hw1), (pc_ HB.out hw2), (pc_ HB.out hw3), (pc_ HB.out hw4), (pc_ HB.out hw5), (pc_ HB.out hw6), (pc_ HB.out hw7), (pc_ HB.out hw8), (pc_ HB.out hw9), (pc_ HB.out hw10), (pc_ HB.out hw11)⟩ (fun hHeld => ?_)
        clear hK K
        refine normP_ (some 77) ?_
        refine qP_ 16 61 21 131071 ?_
        refine qP_ 17 78 21 262143 ?_
        refine qP_ 18 79 21 524287 ?_
        refine qP_ 19 21 21 1048575 ?_
        refine qP_ 20 22 21 2097151 ?_
        refine done_ (done_of HT.out (by kernel_rfl)) ?_
        have p2 : 0 ≤ (x0 : Int) := ofd_
        have q2 : x0 < (l1.length : Int) := ofd_
        obtain ⟨ad2, A9, c21, e2, hx12, hx13, hx14, hx15, hx16, hx17, hl2, hi2⟩ := at_T51 HR1.out x0 p2 q2
        obtain rfl : ad0 = ad2 := (by injection e2)
        replace hx12 := pc_ HB.out hx12
        replace hx13 := pc_ HB.out hx13
        replace hx14 := pc_ HB.out hx14
        replace hx15 := pc_ HB.out hx15
        replace hx16 := pc_ HB.out hx16
        replace hx17 := pc_ HB.out hx17
        have HR1060_5 := a_ hi2
        have HC1060_5 := a_ hl2
        clear hi2 hl2
        replace p2 := eq_true p2
        replace q2 := eq_true q2
        obtain ⟨Ao2, co2, eo2⟩ := Kd.R_slice HO1.out
        subst eo2
        try go_wp2_with (first | (refine gcB_ 46 88 Try.func46 (spec_PathCheck.calls _ _ _ _ _ _ _ _ _ _ _ _ _ ?side1 ?side2 A6.out) ?_; (case side1 => exact cU_ (Kd.R_reads' HO1.out).2.2); (case side2 => exact (Kd.R_reads' HO1.out).2.1); intro w14 hb; replace HO_0 := a_ (Kd.V_below (uV_ HO_0.out) hb); replace HO1 := rb_ HO1.out hb; replace BK2 := bb_ BK2.out hb; replace BK1 := bb_ BK1.out hb; replace BK3 := bb_ BK3.out hb; replace BK0 := bb_ BK0.out hb; replace HB := s_ hb; clear hb; have p3 : 0 ≤ (x0 : Int) := ofd_; have q3 : x0 < (l1.length : Int) := ofd_; obtain ⟨ad3, A14, c23, e3, hx24, hx25, hx26, hx27, hx28, hx29, hl3, hi3⟩ := at_T51 HR1.out x0 p3 q3; obtain rfl : ad0 = ad3 := (by injection e3); replace hx24 := pc_ HB.out hx24; replace hx25 := pc_ HB.out hx25; replace hx26 := pc_ HB.out hx26; replace hx27 := pc_ HB.out hx27; replace hx28 := pc_ HB.out hx28; replace hx29 := pc_ HB.out hx29; have HR1062_5 := a_ hi3; have HC1062_5 := a_ hl3; clear hi3 hl3; replace p3 := eq_true p3; replace q3 := eq_true q3; have hnb15 := NB11.out; have hnc15 := NB10.out; have hnb16 := NB0.out; have hnc16 := NB6.out; have hnb17 := NB9.out; have hnc17 := NB8.out; obtain ⟨z41, z43, z44, z45, z46, f37, f38, f39, f40, f41⟩ := cz5_ BK0.out))
        go_roundg k2
        case measure => have := HJ8.out; have := HK2.out; omega
        case rel => exact ⟨(t10), (wrap64 (x0 + 1)), (x7), (x8), ((rd_T51 l1 x0).f0.f0), ((rd_T51 l1 x0).f0.f1.f0), ((rd_T51 l1 x0).f0.f1.f1), ((rd_T51 l1 x0).f0.f1.f2), ((rd_T51 l1 x0).f0.f1.f3), rl_, H', ⟨by have := HJ8.out; have := HK2.out; omega⟩, ⟨Kd.V_mono (ok := fun k_ => w.heap.size ≤ k_ ∧ k_ ≠ gb3 ∧ k_ ≠ gb2 ∧ k_ ≠ gb0 ∧ k_ ≠ gb1) (Kd.R_V (uR_ (Kd.R_mono (Kd.R_far (p := ⟨gb1, 4, none⟩) (Kd.R_far (p := ⟨gb1, 3, none⟩) (Kd.R_far (p := ⟨gb1, 2, none⟩) (Kd.R_far (p := ⟨gb1, 1, none⟩) (Kd.R_far (p := ⟨gb1, 0, none⟩) (Kd.R_types (Kd.R_types (Kd.R_types (Kd.R_types (Kd.R_types HO1.out BK2.out (by decide)) BK1.out (by decide)) BK3.out (by decide)) BK0.out (by decide)) BK0.out (by decide)) (fun _ hk => hk.2) (.int .i64 ((rd_T51 l1 x0).f0.f0))) (fun _ hk => hk.2) (.int .u64 ((rd_T51 l1 x0).f0.f1.f0))) (fun _ hk => hk.2) (.int .u64 ((rd_T51 l1 x0).f0.f1.f1))) (fun _ hk => hk.2) (.int .u64 ((rd_T51 l1 x0).f0.f1.f2))) (fun _ hk => hk.2) (.int .u64 ((rd_T51 l1 x0).f0.f1.f3))) (fun _ hk => ⟨hk.1.1.1.1.1.1, ⟨hk.1.1.1.1.2, ⟨hk.1.1.1.2, ⟨hk.1.1.2, hk.1.2⟩⟩⟩⟩)))) (fun k_ hk => by first | exact ⟨(.inr (hk.1)), hk.2⟩ | exact (.inr (hk)))⟩, ⟨blkU_ BK2.out⟩, ⟨blkU_ BK1.out⟩, ⟨blkU_ BK3.out⟩, ⟨blkF_ BK0.out⟩, ⟨bel_⟩⟩
       ·replace c17 := Bool.eq_false_iff.mpr c17
        subst c17
        rw [if_neg (show ¬ (false = true) by decide)] at H
        obtain ⟨⟨t12, t13, t16⟩, A11, H⟩ := bnd_ H
        dsimp only at H
        simp only [Option.some.injEq, Prod.mk.injEq] at H
        obtain ⟨rfl, rfl, rfl⟩ := H
        try go_wp2
        replace HO_0 := a_ (Kd.V_drew HO_0.out)
        replace BK2 := a_ (blk_drew BK2.out)
        replace BK1 := a_ (blk_drew BK1.out)
        replace BK3 := a_ (blk_drew BK3.out)
        replace BK0 := a_ (blk_drew BK0.out)
        replace HB := a_ (below_drew1 HB.out)
        have p0 : 0 ≤ (x0 : Int) := ofd_
        have q0 : x0 < (l1.length : Int) := ofd_
        obtain ⟨ad0, A0, c1, e0, hx2, hx3, hx4, hx5, hx6, hx0, hl0, hi0⟩ := at_T51 HR1.out x0 p0 q0
        have hw5 := hx0
        have hw4 := hx6
        have hw3 := hx5
        have hw2 := hx4
        have hw1 := hx3
        have hw0 := hx2
        cases e0
        replace hx2 := pc_ HB.out hx2
        replace hx3 := pc_ HB.out hx3
        replace hx4 := pc_ HB.out hx4
        replace hx5 := pc_ HB.out hx5
        replace hx6 := pc_ HB.out hx6
        replace hx0 := pc_ HB.out hx0
        have HR1054_5 := a_ hi0
        have HC1054_5 := a_ hl0
        clear hi0 hl0
        replace p0 := eq_true p0
        replace q0 := eq_true q0
        have p1 : 0 ≤ (x0 : Int) := ofd_
        have q1 : x0 < (l1.length : Int) := ofd_
        obtain ⟨ad1, A8, c20, e1, hx7, hx8, hx9, hx10, hx11, hx1, hl1, hi1⟩ := at_T51 HR1.out x0 p1 q1
        have hw11 := hx1
        have hw10 := hx11
        have hw9 := hx10
        have hw8 := hx9
        have hw7 := hx8
        have hw6 := hx7
        obtain rfl : ad0 = ad1 := (by injection e1)
        replace hx7 := pc_ HB.out hx7
        replace hx8 := pc_ HB.out hx8
        replace hx9 := pc_ HB.out hx9
        replace hx10 := pc_ HB.out hx10
        replace hx11 := pc_ HB.out hx11
        replace hx1 := pc_ HB.out hx1
        have HR1055_5 := a_ hi1
        have HC1055_5 := a_ hl1
        clear hi1 hl1
        replace p1 := eq_true p1
        replace q1 := eq_true q1
        have ea_ := Option.some.inj (hx0.symm.trans hx1)
        injection ea_ with ea_ en_ ec_
        subst ea_
        subst ec_
        clear en_
        obtain ⟨Ao0, co0, eo1⟩ := Kd.V_slice HO_0.out
        (first | subst eo1 | (injection eo1 with f1_ f2_ f3_; have f4_ := f1_.symm; have f5_ := f3_.symm; clear f1_ f2_ f3_; subst f4_; subst f5_))
        refine start_ (n := 21) (S := fun w' => w'.cell? ⟨gb1, 0, none⟩ = some (.int .i64 x1) ∧ w'.cell? ⟨gb1, 1, none⟩ = some (.int .u64 x2) ∧ w'.cell? ⟨gb1, 2, none⟩ = some (.int .u64 x3) ∧ w'.cell? ⟨gb1, 3, none⟩ = some (.int .u64 x4) ∧ w'.cell? ⟨gb1, 4, none⟩ = some (.int .u64 x5) ∧ w'.cell? (ad0.add ((x0).toNat * 6)) = some (.int .i64 ((rd_T51 l1 x0).f0.f0)) ∧ w'.cell? ⟨(ad0.add ((x0).toNat * 6)).block, (ad0.add ((x0).toNat * 6)).off + 1, none⟩ = some (.int .u64 ((rd_T51 l1 x0).f0.f1.f0)) ∧ w'.cell? ⟨(ad0.add ((x0).toNat * 6)).block, (ad0.add ((x0).toNat * 6)).off + 2, none⟩ = some (.int .u64 ((rd_T51 l1 x0).f0.f1.f1)) ∧ w'.cell? ⟨(ad0.add ((x0).toNat * 6)).block, (ad0.add ((x0).toNat * 6)).off + 3, none⟩ = some (.int .u64 ((rd_T51 l1 x0).f0.f1.f2)) ∧ w'.cell? ⟨(ad0.add ((x0).toNat * 6)).block, (ad0.add ((x0).toNat * 6)).off + 4, none⟩ = some (.int .u64 ((rd_T51 l1 x0).f0.f1.f3)) ∧ w'.cell? ⟨(ad0.add ((x0).toNat * 6)).block, (ad0.add ((x0).toNat * 6)).off + 5, none⟩ = some (.slice A0 ((rd_T51 l1 x0).f1).length c1) ∧ w'.cell? (ad0.add ((x0).toNat * 6)) = some (.int .i64 ((rd_T51 l1 x0).f0.f0)) ∧ w'.cell? ⟨(ad0.add ((x0).toNat * 6)).block, (ad0.add ((x0).toNat * 6)).off + 1, none⟩ = some (.int .u64 ((rd_T51 l1 x0).f0.f1.f0)) ∧ w'.cell? ⟨(ad0.add ((x0).toNat * 6)).block, (ad0.add ((x0).toNat * 6)).off + 2, none⟩ = some (.int .u64 ((rd_T51 l1 x0).f0.f1.f1)) ∧ w'.cell? ⟨(ad0.add ((x0).toNat * 6)).block, (ad0.add ((x0).toNat * 6)).off + 3, none⟩ = some (.int .u64 ((rd_T51 l1 x0).f0.f1.f2)) ∧ w'.cell? ⟨(ad0.add ((x0).toNat * 6)).block, (ad0.add ((x0).toNat * 6)).off + 4, none⟩ = some (.int .u64 ((rd_T51 l1 x0).f0.f1.f3)) ∧ w'.cell? ⟨(ad0.add ((x0).toNat * 6)).block, (ad0.add ((x0).toNat * 6)).off + 5, none⟩ = some (.slice A0 ((rd_T51 l1 x0).f1).length c1)) (ds := []) #[false, false, false, false, false, false, false, false, false, false, false, false, false, false, false, false, false, false, false, false, false] (by kernel_rfl) rfl rfl ⟨(blk_cell BK0.out 0).trans rfl, (blk_cell BK0.out 1).trans rfl, (blk_cell BK0.out 2).trans rfl, (blk_cell BK0.out 3).trans rfl, (blk_cell BK0.out 4).trans rfl, (pc_ HB.out hw0), (pc_ HB.out hw1), (pc_ HB.out hw2), (pc_ HB.out hw3), (pc_ HB.out hw4), (pc_ HB.out hw5), (pc_ HB.out hw6), (pc_ HB.out hw7), (pc_ HB.out hw8), (pc_ HB.out hw9), (pc_ HB.out hw10), (pc_ HB.out hw11)⟩ (fun hHeld => ?_); refine with_tabW spec_ClashOfChain.tab9 spec_ClashOfChain.bits9 (fun HT HW_ => ?_)
        generalize wr.drew = w15 at HO_0 BK2 BK1 BK3 BK0 HB HR1054_5 HR1055_5 hx2 hx3 hx4 hx5 hx6 hx0 hx7 hx8 hx9 hx10 hx11 hx1 hHeld ⊢
        refine qP_ 0 62 21 1 ?_
        refine qP_ 2 64 21 5 ?_
        refine qP_ 3 65 21 13 ?_
        refine qP_ 4 66 21 29 ?_
        refine qP_ 5 67 21 61 ?_
        refine qP_ 6 68 21 125 ?_
        refine qP_ 8 70 21 381 ?_
        refine qP_ 9 71 21 893 ?_
        refine qP_ 10 72 21 1917 ?_
        refine qP_ 11 73 21 3965 ?_
        refine qP_ 12 74 21 8061 ?_
        refine qP_ 13 75 21 16253 ?_
        refine qT_ 1 63 21 16255 ?_
        refine qT_ 7 69 21 16383 ?_
        refine qT_ 14 76 21 32767 ?_
        refine oneP_ 15 (some 77) (b_ 21 65535) HT (fun K hK => ?_)
        refine goN_ Try.func41 #[.int .i64 x1, .int .i64 ((rd_T51 l1 x0).f0.f0), .int .i64 a5, .slice Ao0 x6.length co0, .slice A0 ((rd_T51 l1 x0).f1).length c1] ?_
        with_reducible refine (spec_GrowthLift.calls _ _ _ _ _ _ _ _ _ _ _ _ _ ?side1 ?side2 ?side3 ?side4 A5.out).mono ?_
        (case side1 => exact cU_ (Kd.V_reads' HO_0.out).2.2)
        (case side2 => exact (Kd.V_reads' HO_0.out).2.1)
        (case side3 => exact cU_ (Kd.C_below HR1055_5.out HB.out))
        (case side4 => exact HC1055_5.out)
        rintro e w64 ⟨v0, rfl, ho0, hb⟩
        refine ⟨_, rfl, ?_⟩
        replace HO_0 := a_ (Kd.V_elder' (uV_ HO_0.out) (Kd.R_base ho0) hb)
        have HO1 := a_ (Kd.R_lower (Kd.R_newM (M := fun k_ => (w.heap.size ≤ k_)) ho0 (below_size bel_) (fun k_ h_ => h_)) (below_size bel_))
        replace BK2 := bb_ BK2.out hb
        replace BK1 := bb_ BK1.out hb
        replace BK3 := bb_ BK3.out hb
        replace BK0 := bb_ BK0.out hb
        replace HB := s_ hb
        (try clear hb); (try clear ho0)
        refine hK.out _ _ ⟨(blk_cell BK0.out 0).trans rfl, (blk_cell BK0.out 1).trans rfl, (blk_cell BK0.out 2).trans rfl, (blk_cell BK0.out 3).trans rfl, (blk_cell BK0.out 4).trans rfl, (pc_ HB.out hw0), (pc_ HB.out hw1), (pc_ HB.out hw2), (pc_ HB.out hw3), (pc_ HB.out hw4), (pc_ HB.out hw5), (pc_ HB.out hw6), (pc_ HB.out hw7), (pc_ HB.out hw8), (pc_ HB.out hw9), (pc_ HB.out hw10), (pc_ HB.out hw11)⟩ (fun hHeld => ?_)
        clear hK K
        refine normP_ (some 77) ?_
        refine qP_ 16 61 21 131071 ?_
        refine qP_ 17 78 21 262143 ?_
        refine qP_ 18 79 21 524287 ?_
        refine qP_ 19 21 21 1048575 ?_
        refine qP_ 20 22 21 2097151 ?_
        refine done_ (done_of HT.out (by kernel_rfl)) ?_
        have p2 : 0 ≤ (x0 : Int) := ofd_
        have q2 : x0 < (l1.length : Int) := ofd_
        obtain ⟨ad2, A9, c21, e2, hx12, hx13, hx14, hx15, hx16, hx17, hl2, hi2⟩ := at_T51 HR1.out x0 p2 q2
        obtain rfl : ad0 = ad2 := (by injection e2)
        replace hx12 := pc_ HB.out hx12
        replace hx13 := pc_ HB.out hx13
        replace hx14 := pc_ HB.out hx14
        replace hx15 := pc_ HB.out hx15
        replace hx16 := pc_ HB.out hx16
        replace hx17 := pc_ HB.out hx17
        have HR1060_5 := a_ hi2
        have HC1060_5 := a_ hl2
        clear hi2 hl2
        replace p2 := eq_true p2
        replace q2 := eq_true q2
        obtain ⟨Ao3, co3, eo3⟩ := Kd.R_slice HO1.out
        subst eo3
        try go_wp2_with (first | (refine gcB_ 46 88 Try.func46 (spec_PathCheck.calls _ _ _ _ _ _ _ _ _ _ _ _ _ ?side1 ?side2 A6.out) ?_; (case side1 => exact cU_ (Kd.R_reads' HO1.out).2.2); (case side2 => exact (Kd.R_reads' HO1.out).2.1); intro w2 hb; replace HO_0 := a_ (Kd.V_below (uV_ HO_0.out) hb); replace HO1 := rb_ HO1.out hb; replace BK2 := bb_ BK2.out hb; replace BK1 := bb_ BK1.out hb; replace BK3 := bb_ BK3.out hb; replace BK0 := bb_ BK0.out hb; replace HB := s_ hb; clear hb))
        replace HO_0 := a_ (Kd.V_drew HO_0.out)
        replace HO1 := a_ (Kd.R_drew HO1.out)
        replace BK2 := a_ (blk_drew BK2.out)
        replace BK1 := a_ (blk_drew BK1.out)
        replace BK3 := a_ (blk_drew BK3.out)
        replace BK0 := a_ (blk_drew BK0.out)
        replace HB := a_ (below_drew1 HB.out)
        have p4 : 0 ≤ (x0 : Int) := ofd_
        have q4 : x0 < (l1.length : Int) := ofd_
        obtain ⟨ad4, A3, c19, e4, hx18, hx19, hx20, hx21, hx22, hx23, hl4, hi4⟩ := at_T51 HR1.out x0 p4 q4
        have hw17 := hx23
        have hw16 := hx22
        have hw15 := hx21
        have hw14 := hx20
        have hw13 := hx19
        have hw12 := hx18
        obtain rfl : ad0 = ad4 := (by injection e4)
        replace hx18 := pc_ HB.out hx18
        replace hx19 := pc_ HB.out hx19
        replace hx20 := pc_ HB.out hx20
        replace hx21 := pc_ HB.out hx21
        replace hx22 := pc_ HB.out hx22
        replace hx23 := pc_ HB.out hx23
        have HR1063_5 := a_ hi4
        have HC1063_5 := a_ hl4
        clear hi4 hl4
        replace p4 := eq_true p4
        replace q4 := eq_true q4
        refine start_ (n := 13) (S := fun w' => w'.cell? ⟨gb1, 0, none⟩ = some (.int .i64 x1) ∧ w'.cell? ⟨gb1, 1, none⟩ = some (.int .u64 x2) ∧ w'.cell? ⟨gb1, 2, none⟩ = some (.int .u64 x3) ∧ w'.cell? ⟨gb1, 3, none⟩ = some (.int .u64 x4) ∧ w'.cell? ⟨gb1, 4, none⟩ = some (.int .u64 x5) ∧ w'.cell? (ad0.add ((x0).toNat * 6)) = some (.int .i64 ((rd_T51 l1 x0).f0.f0)) ∧ w'.cell? ⟨(ad0.add ((x0).toNat * 6)).block, (ad0.add ((x0).toNat * 6)).off + 1, none⟩ = some (.int .u64 ((rd_T51 l1 x0).f0.f1.f0)) ∧ w'.cell? ⟨(ad0.add ((x0).toNat * 6)).block, (ad0.add ((x0).toNat * 6)).off + 2, none⟩ = some (.int .u64 ((rd_T51 l1 x0).f0.f1.f1)) ∧ w'.cell? ⟨(ad0.add ((x0).toNat * 6)).block, (ad0.add ((x0).toNat * 6)).off + 3, none⟩ = some (.int .u64 ((rd_T51 l1 x0).f0.f1.f2)) ∧ w'.cell? ⟨(ad0.add ((x0).toNat * 6)).block, (ad0.add ((x0).toNat * 6)).off + 4, none⟩ = some (.int .u64 ((rd_T51 l1 x0).f0.f1.f3)) ∧ w'.cell? ⟨(ad0.add ((x0).toNat * 6)).block, (ad0.add ((x0).toNat * 6)).off + 5, none⟩ = some (.slice A3 ((rd_T51 l1 x0).f1).length c19)) (ds := []) #[false, false, false, false, false, false, false, false, false, false, false, false, false] (by kernel_rfl) rfl rfl ⟨(blk_cell BK0.out 0).trans rfl, (blk_cell BK0.out 1).trans rfl, (blk_cell BK0.out 2).trans rfl, (blk_cell BK0.out 3).trans rfl, (blk_cell BK0.out 4).trans rfl, (pc_ HB.out hw12), (pc_ HB.out hw13), (pc_ HB.out hw14), (pc_ HB.out hw15), (pc_ HB.out hw16), (pc_ HB.out hw17)⟩ (fun hHeld => ?_); refine with_tabW spec_ClashOfChain.tab11 spec_ClashOfChain.bits11 (fun HT HW_ => ?_)
        generalize w2.drew = w16 at HO_0 HO1 BK2 BK1 BK3 BK0 HB HR1063_5 hx18 hx19 hx20 hx21 hx22 hx23 hHeld ⊢
        refine qP_ 1 91 13 2 ?_
        refine qP_ 2 92 13 6 ?_
        refine qP_ 3 93 13 14 ?_
        refine qP_ 5 95 13 46 ?_
        refine qP_ 6 96 13 110 ?_
        refine qP_ 7 97 13 238 ?_
        refine qT_ 0 90 13 239 ?_
        refine qT_ 4 94 13 255 ?_
        refine oneP_ 8 (some 98) (b_ 13 511) HT (fun K hK => ?_)
        refine goN_ Try.func19 #[.agg #[.int .i64 x1, .int .u64 x2, .int .u64 x3, .int .u64 x4, .int .u64 x5], .agg #[.int .i64 ((rd_T51 l1 x0).f0.f0), .int .u64 ((rd_T51 l1 x0).f0.f1.f0), .int .u64 ((rd_T51 l1 x0).f0.f1.f1), .int .u64 ((rd_T51 l1 x0).f0.f1.f2), .int .u64 ((rd_T51 l1 x0).f0.f1.f3), .slice A3 ((rd_T51 l1 x0).f1).length c19], .int .i64 a5, .string a6, .slice Ao0 x6.length co0] ?_
        with_reducible refine (spec_ClashOfGrowth.calls _ _ _ _ _ _ _ _ _ _ _ _ _ _ _ _ _ _ _ _ _ _ _ ?side1 ?side2 ?side3 ?side4 A11.out).mono ?_
        (case side1 => exact cU_ (Kd.C_below HR1063_5.out HB.out))
        (case side2 => exact HC1063_5.out)
        (case side3 => exact cU_ (Kd.V_reads' HO_0.out).2.2)
        (case side4 => exact (Kd.V_reads' HO_0.out).2.1)
        rintro e w1 ⟨rfl, hb⟩
        refine ⟨_, rfl, ?_⟩
        replace HO_0 := a_ (Kd.V_below (uV_ HO_0.out) hb)
        replace HO1 := rb_ HO1.out hb
        replace BK2 := bb_ BK2.out hb
        replace BK1 := bb_ BK1.out hb
        replace BK3 := bb_ BK3.out hb
        replace BK0 := bb_ BK0.out hb
        replace HB := s_ hb
        (try clear hb)
        refine hK.out _ _ ⟨(blk_cell BK0.out 0).trans rfl, (blk_cell BK0.out 1).trans rfl, (blk_cell BK0.out 2).trans rfl, (blk_cell BK0.out 3).trans rfl, (blk_cell BK0.out 4).trans rfl, (pc_ HB.out hw12), (pc_ HB.out hw13), (pc_ HB.out hw14), (pc_ HB.out hw15), (pc_ HB.out hw16), (pc_ HB.out hw17)⟩ (fun hHeld => ?_)
        clear hK K
        refine normP_ (some 98) ?_
        refine qP_ 9 99 13 1023 ?_
        refine qP_ 10 100 13 2047 ?_
        refine oneP_ 11 none (b_ 13 4095) HT (fun K hK => ?_)
        have hs1 : w1.cell? ⟨gb2, 0, none⟩ = some (.string x7) := (blk_cell BK1.out 0).trans rfl
        have hfs69 := blk_frozen BK1.out 0
        have hns69_0 := NB1.out
        have hns69_2 := NB4.out
        have hns69_3 := NB0.out
        have hms69_0 := NB2.out
        have hms69_2 := NB3.out
        have hms69_3 := NB6.out
        have hs2 : w1.cell? ⟨gb2, 1, none⟩ = some (.string x8) := (blk_cell BK1.out 1).trans rfl
        have hfs70 := blk_frozen BK1.out 1
        have hns70_0 := NB1.out
        have hns70_2 := NB4.out
        have hns70_3 := NB0.out
        have hms70_0 := NB2.out
        have hms70_2 := NB3.out
        have hms70_3 := NB6.out
        refine skip_ (w1 := ?_) (by rfl) rfl ?_ ?_
        rotate_left
        ·go_simp
         rfl
        refine hK.out _ _ ⟨(cf2_ NB0.out hHeld.1), (cf2_ NB0.out hHeld.2.1), (cf2_ NB0.out hHeld.2.2.1), (cf2_ NB0.out hHeld.2.2.2.1), (cf2_ NB0.out hHeld.2.2.2.2.1), (cf2_ (nw_ hw12 GW0.out) hHeld.2.2.2.2.2.1), (cf2_ (nw_ hw13 GW0.out) hHeld.2.2.2.2.2.2.1), (cf2_ (nw_ hw14 GW0.out) hHeld.2.2.2.2.2.2.2.1), (cf2_ (nw_ hw15 GW0.out) hHeld.2.2.2.2.2.2.2.2.1), (cf2_ (nw_ hw16 GW0.out) hHeld.2.2.2.2.2.2.2.2.2.1), (cf2_ (nw_ hw17 GW0.out) hHeld.2.2.2.2.2.2.2.2.2.2)⟩ (fun hHeld => ?_)
        clear hK K
        refine qP_ 12 15 13 8191 ?_
        refine done_ (done_of HT.out (by kernel_rfl)) ?_
        try go_wp2
        refine bodyPost_ret (results_ct rfl _ _ gb2 46 #[.string t12, .string t13] (0, 0) _ rfl (blkF_ BK1.out) Try.underlying46 rfl (by kernel_rfl)) rfl ?_
        exact ⟨rfl_, bel_⟩
      ·rw [if_neg c14] at H
       have c22 := decide_eq_false c14
       clear c14
       obtain ⟨⟨t8, t9, t14⟩, A12, H⟩ := bnd_ H
       dsimp only at H
       simp only [Option.some.injEq, Prod.mk.injEq] at H
       obtain ⟨rfl, rfl, rfl⟩ := H
       have hnb18 := NB7.out
       have hnc18 := NB5.out
       have hnb19 := NB4.out
       have hnc19 := NB3.out
       have hnb20 := NB8.out
       have hnc20 := NB9.out
       obtain ⟨z47, z48, z49, z50, z52, f42, f43, f44, f45, f46⟩ := cz5_ BK3.out
       obtain ⟨Ao4, co4, eo4⟩ := Kd.V_slice HO_0.out
       subst eo4
       go_wp2_with (first | (refine gcB_ 56 114 Try.func56 (spec_ClashOfPaths.calls _ _ _ _ _ _ _ _ _ _ _ _ _ _ _ ?side1 ?side2 ?side3 ?side4 A12.out) ?_; (case side1 => exact cU_ (Kd.V_reads' HO_0.out).2.2); (case side2 => exact (Kd.V_reads' HO_0.out).2.1); (case side3 => exact cU_ (Kd.C_below HR6.out HB.out)); (case side4 => exact HC6.out); intro w17 hb; replace HO_0 := a_ (Kd.V_below (uV_ HO_0.out) hb); replace BK2 := bb_ BK2.out hb; replace BK1 := bb_ BK1.out hb; replace BK3 := bb_ BK3.out hb; replace BK0 := bb_ BK0.out hb; replace HB := s_ hb; clear hb; have hnb21 := NB2.out; have hnc21 := NB1.out; have hnb22 := NB6.out; have hnc22 := NB0.out; obtain ⟨z53, z54, f47, f48⟩ := cz2_ BK1.out))
       refine bodyPost_ret (results_ct rfl _ _ gb2 46 #[.string t8, .string t9] (0, 0) _ rfl (blkF_ BK1.out) Try.underlying46 rfl (by kernel_rfl)) rfl ?_
       exact ⟨rfl_, bel_⟩
end
end Go.Proofs.Ytflckegggopdnaa.B
