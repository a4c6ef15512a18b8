/- What the Go functions of these names do; condition: .f gives an answer. -/
import Derived.Test.YtflckegggopdnaaZCHP0
import Derived.Test.YtflckegggopdnaaZCHP16
import Derived.Test.YtflckegggopdnaaZCHP3
import Derived.Test.YtflckegggopdnaaZCHP7
import Derived.Test.YtflckegggopdnaaZCHP6
import Derived.Test.YtflckegggopdnaaZCHFSpecClashOfGrowth
import Derived.Test.YtflckegggopdnaaZCHGLawD1
import Derived.Test.YtflckegggopdnaaZCHP4
namespace Go.Proofs.Ytflckegggopdnaa.B
open Go.RowKit Go.Proofs.YtflckegggopdnaaW.PrintWords Go.Proofs.YtflckegggopdnaaW.PrintLast Go.Proofs.YtflckegggopdnaaW.PrintMore
attribute [local go_sem] max2_int min2_int max_two min_two max_three min_three max_four min_four
set_option linter.unusedVariables false
set_option maxHeartbeats 8000000
set_option maxRecDepth 100000
set_option linter.unusedSimpArgs false
section
def laws_FnExactClashOfGrowth.j0 : Nat → List (S24) → List (S29) → Bool → Int → Int → Int → Int → Int → List (S24) → Int → Int → Int → Int → Int → List (S29) → Option (Bool)
 | 0, _, _, _, _, _, _, _, _, _, _, _, _, _, _, _ => none
 | k + 1, x4, x15, x65, x960000, x960001, x960002, x960003, x960004, x960005, x991000, x991001, x991002, x991003, x991004, x991005 => if x65 = true then (some false) else ((laws_toGrowth.f k x960000 x960001 x960002 x960003 x960004 x960005).bind fun bt1004 => ((laws_eqGrowth.f k x991000 x991001 x991002 x991003 x991004 x991005 bt1004.1 bt1004.2.1 bt1004.2.2.1 bt1004.2.2.2.1 bt1004.2.2.2.2.1 bt1004.2.2.2.2.2).bind fun t1012 => (if t1012 = true then ((laws_toDigestS.f k x4).bind fun t1013 => ((laws_eqDigestS.f k x15 t1013).bind fun t1016 => (if t1016 = true then (some true) else (some false)))) else (some false))))
def laws_FnExactClashOfGrowth.f (k : Nat) (a0_0 a0_1 : Int) (a0_2 a0_3 : Int) (a0_4 a1_0 : Int) (a1_1 a1_2 : Int) (a1_3 a1_4 : Int) (l1_5 : List (S24)) (a2 : Int) (a3 : ByteArray) (l4 : List (S24)) : Option (Bool) := if (a3.size : Int) > 1048576 then (some true) else ((laws_szGrowth.f a1_0 a1_1 a1_2 a1_3 a1_4 l1_5 1048576).bind fun t960 => (if t960 < 0 then (some true) else ((laws_szDigestS.f l4 t960).bind fun t961 => (if t961 < 0 then (some true) else ((laws_toPoint.f a0_0 a0_1 a0_2 a0_3 a0_4).bind fun bt962 => ((laws_toGrowth.f k a1_0 a1_1 a1_2 a1_3 a1_4 l1_5).bind fun bt967 => ((laws_toDigestS.f k l4).bind fun t975 => ((spec_ClashOfGrowth.f k bt962.1 bt962.2.1 bt962.2.2.1 bt962.2.2.2.1 bt962.2.2.2.2 bt967.1 bt967.2.1 bt967.2.2.1 bt967.2.2.2.1 bt967.2.2.2.2.1 bt967.2.2.2.2.2 a2 a3 t975).bind fun bt978 => ((laws_toGrowth.f k a1_0 a1_1 a1_2 a1_3 a1_4 l1_5).bind fun bt982 => ((laws_toDigestS.f k l4).bind fun t991 => ((laws_toPoint.f a0_0 a0_1 a0_2 a0_3 a0_4).bind fun bt994 => ((impl_ClashOfGrowth.f k bt994.1 bt994.2.1 bt994.2.2.1 bt994.2.2.2.1 bt994.2.2.2.2 bt982.1 bt982.2.1 bt982.2.2.1 bt982.2.2.2.1 bt982.2.2.2.2.1 bt982.2.2.2.2.2 a2 a3 t991).bind fun bt999 => ((laws_eqClash.f bt999.1 bt999.2.1 bt978.1 bt978.2.1).bind fun t1003 => (if t1003 = true then (laws_FnExactClashOfGrowth.j0 k l4 t991 (bt999.2.2 != bt978.2.2) a1_0 a1_1 a1_2 a1_3 a1_4 l1_5 bt982.1 bt982.2.1 bt982.2.2.1 bt982.2.2.2.1 bt982.2.2.2.2.1 bt982.2.2.2.2.2) else (laws_FnExactClashOfGrowth.j0 k l4 t991 true a1_0 a1_1 a1_2 a1_3 a1_4 l1_5 bt982.1 bt982.2.1 bt982.2.2.1 bt982.2.2.2.1 bt982.2.2.2.2.1 bt982.2.2.2.2.2)))))))))))))))
def laws_FnExactClashOfGrowth.T10 : Bool × List (List Nat × List Nat) := (true, [([], []), ([0], [0]), ([], []), ([2, 1], [2]), ([], []), ([], []), ([], []), ([6, 3], [6]), ([1, 3, 4, 5, 7, 7], [1, 3, 4, 5, 7]), ([8], [8]), ([9], [9]), ([9], [9]), ([], []), ([12, 10, 8, 0, 1, 2, 3, 4, 5, 6, 7, 8, 9, 10, 12], [10, 12]), ([11, 13, 0, 1, 2, 3, 4, 5, 6, 7, 8, 9, 10, 11, 12, 13], [11])])
def laws_FnExactClashOfGrowth.B10 : List Nat := [0, 1, 0, 7, 0, 0, 0, 79, 255, 511, 1023, 1023, 0, 6143, 16383]
theorem laws_FnExactClashOfGrowth.tab10 : rtab .any (opsOf Try.f4 10) = laws_FnExactClashOfGrowth.T10 := by kernel_rfl
theorem laws_FnExactClashOfGrowth.bits10 : waitsOk laws_FnExactClashOfGrowth.T10.2 laws_FnExactClashOfGrowth.B10 = true := by kernel_rfl
def laws_FnExactClashOfGrowth.T13 : Bool × List (List Nat × List Nat) := (true, [([], []), ([0], [0]), ([], []), ([], []), ([], []), ([], []), ([1, 2, 3, 4, 5, 1], [1, 2, 3, 4, 5]), ([6], [6]), ([7], [7]), ([7], [7]), ([], []), ([10, 8, 6, 0, 1, 2, 3, 4, 5, 6, 7, 8, 10], [8, 10]), ([9, 11, 0, 1, 2, 3, 4, 5, 6, 7, 8, 9, 10, 11], [9])])
def laws_FnExactClashOfGrowth.B13 : List Nat := [0, 1, 0, 0, 0, 0, 63, 127, 255, 255, 0, 1535, 4095]
theorem laws_FnExactClashOfGrowth.tab13 : rtab .any (opsOf Try.f4 13) = laws_FnExactClashOfGrowth.T13 := by kernel_rfl
theorem laws_FnExactClashOfGrowth.bits13 : waitsOk laws_FnExactClashOfGrowth.T13.2 laws_FnExactClashOfGrowth.B13 = true := by kernel_rfl
theorem laws_FnExactClashOfGrowth.calls (k : Nat) (a0_0 a0_1 : Int) (a0_2 a0_3 : Int) (a0_4 a1_0 : Int) (a1_1 a1_2 : Int) (a1_3 a1_4 : Int) (A1_5 : Option Addr) (c1_5 : Nat) (l1_5 : List (S24)) (a2 : Int) (a3 : ByteArray) (A4 : Option Addr) (c4 : Nat) (l4 : List (S24)) (r : Bool) (hr_ : r = true) (w : World) (hr1_5 : Kd.C k24 w A1_5 l1_5.length l1_5) (hc1_5 : l1_5.length ≤ c1_5) (hr4 : Kd.C k24 w A4 l4.length l4) (hc4 : l4.length ≤ c4) (h : laws_FnExactClashOfGrowth.f k a0_0 a0_1 a0_2 a0_3 a0_4 a1_0 a1_1 a1_2 a1_3 a1_4 l1_5 a2 a3 l4 = some r) :
  Calls Try.prog 4 #[.agg #[.int .i64 a0_0, .int .u64 a0_1, .int .u64 a0_2, .int .u64 a0_3, .int .u64 a0_4], .agg #[.int .i64 a1_0, .int .u64 a1_1, .int .u64 a1_2, .int .u64 a1_3, .int .u64 a1_4, .slice A1_5 l1_5.length c1_5], .int .i64 a2, .string a3, .slice A4 l4.length c4] w fun e w' => e = .returned (.bool r) ∧ Below w.heap.size w w' := by
 have hu26 := Try.underlying26
 have hu42 := Try.underlying42
 have hu46 := Try.underlying46
 have hu51 := Try.underlying51
 have HR1_5 := Aside0.mk hr1_5
 have HC1_5 := Aside0.mk hc1_5
 clear hr1_5 hc1_5
 have HR4 := Aside0.mk hr4
 have HC4 := Aside0.mk hc4
 clear hr4 hc4
 have HB := a_ (Below.refl w.heap.size w)
 have H := h
 unfold laws_FnExactClashOfGrowth.f at H
 clear h
 by_cases c6 : (a3.size : Int) > 1048576
 ·rw [if_pos c6] at H
  have c6b0 : decide (1048576 < (a3.size : Int)) = true := decide_eq_true c6
  have c6b1 : decide (1048576 < a3.size) = true := decide_eq_true (by omega)
  clear c6
  obtain rfl := Option.some.inj H
  go_enter Try.func4, Try.ntmps4
  go_wp2_with (first | ((with_reducible refine gate_dst (N := 5) rfl ?_); refine boxE_ (cs := #[.int .i64 a0_0, .int .u64 a0_1, .int .u64 a0_2, .int .u64 a0_3, .int .u64 a0_4]) (t := 26) ?_; intro gb958 hg w7 hbox hb; have BK958 := a_ (hbox); have GW958 := sizeB_ hg; replace HB := stepB_ hb; clear hb hbox hg) | ((with_reducible refine gate_dst (N := 6) rfl ?_); refine boxE_ (cs := #[.int .i64 a1_0, .int .u64 a1_1, .int .u64 a1_2, .int .u64 a1_3, .int .u64 a1_4, .slice A1_5 l1_5.length c1_5]) (t := 42) ?_; intro gb959 hg w8 hbox hb; have BK959 := a_ (hbox); have GW959 := sizeB_ hg; replace HB := stepB_ hb; obtain ⟨NB958_959, NB959_958⟩ := ne2_ BK958.out hg; replace BK958 := bb_ BK958.out hb; clear hb hbox hg))
  go_ret
  exact ⟨rfl_, bel_⟩
 ·rw [if_neg c6] at H
  have c6b0 : decide (1048576 < (a3.size : Int)) = false := decide_eq_false c6
  have c6b1 : decide (1048576 < a3.size) = false := decide_eq_false (by omega)
  clear c6
  obtain ⟨t960, A9, H⟩ := bnd_ H
  by_cases c10 : t960 < 0
  ·rw [if_pos c10] at H
   have c10b0 := decide_eq_true c10
   clear c10
   obtain rfl := Option.some.inj H
   go_enter Try.func4, Try.ntmps4
   go_wp2_with (first | ((with_reducible refine gate_dst (N := 5) rfl ?_); refine boxE_ (cs := #[.int .i64 a0_0, .int .u64 a0_1, .int .u64 a0_2, .int .u64 a0_3, .int .u64 a0_4]) (t := 26) ?_; intro gb958 hg w11 hbox hb; have BK958 := a_ (hbox); have GW958 := sizeB_ hg; replace HB := stepB_ hb; clear hb hbox hg) | ((with_reducible refine gate_dst (N := 6) rfl ?_); refine boxE_ (cs := #[.int .i64 a1_0, .int .u64 a1_1, .int .u64 a1_2, .int .u64 a1_3, .int .u64 a1_4, .slice A1_5 l1_5.length c1_5]) (t := 42) ?_; intro gb959 hg w12 hbox hb; have BK959 := a_ (hbox); have GW959 := sizeB_ hg; replace HB := stepB_ hb; obtain ⟨NB958_959, NB959_958⟩ := ne2_ BK958.out hg; replace BK958 := bb_ BK958.out hb; clear hb hbox hg; have hnb13 := NB959_958.out; have hnc13 := NB958_959.out; obtain ⟨z14_0, z14_1, z14_2, z14_3, z14_4, z14_5, f14_0, f14_1, f14_2, f14_3, f14_4, f14_5⟩ := cz6_ BK959.out) | (refine gcL_ 17 (some 23) Try.func17 #[.agg #[.int .i64 a1_0, .int .u64 a1_1, .int .u64 a1_2, .int .u64 a1_3, .int .u64 a1_4, .slice A1_5 l1_5.length c1_5], .int .i64 1048576] ?_; (with_reducible refine (laws_szGrowth.calls a1_0 a1_1 a1_2 a1_3 a1_4 _ _ l1_5 1048576 t960 _ ?side1 ?side2 A9.out).mono ?_); (case side1 => exact cU_ (Kd.C_below HR1_5.out HB.out)); (case side2 => exact HC1_5.out); rintro e w15 ⟨rfl, hb⟩; refine ⟨_, rfl, ?_⟩; replace BK958 := bb_ BK958.out hb; replace BK959 := bb_ BK959.out hb; replace HB := stepB_ hb; (try clear hb)))
   go_ret
   exact ⟨rfl_, bel_⟩
  ·rw [if_neg c10] at H
   have c10b0 := decide_eq_false c10
   clear c10
   obtain ⟨t961, A16, H⟩ := bnd_ H
   by_cases c17 : t961 < 0
   ·rw [if_pos c17] at H
    have c17b0 := decide_eq_true c17
    clear c17
    obtain rfl := Option.some.inj H
    go_enter Try.func4, Try.ntmps4
    go_wp2_with (first | ((with_reducible refine gate_dst (N := 5) rfl ?_); refine boxE_ (cs := #[.int .i64 a0_0, .int .u64 a0_1, .int .u64 a0_2, .int .u64 a0_3, .int .u64 a0_4]) (t := 26) ?_; intro gb958 hg w18 hbox hb; have BK958 := a_ (hbox); have GW958 := sizeB_ hg; replace HB := stepB_ hb; clear hb hbox hg) | ((with_reducible refine gate_dst (N := 6) rfl ?_); refine boxE_ (cs := #[.int .i64 a1_0, .int .u64 a1_1, .int .u64 a1_2, .int .u64 a1_3, .int .u64 a1_4, .slice A1_5 l1_5.length c1_5]) (t := 42) ?_; intro gb959 hg w19 hbox hb; have BK959 := a_ (hbox); have GW959 := sizeB_ hg; replace HB := stepB_ hb; obtain ⟨NB958_959, NB959_958⟩ := ne2_ BK958.out hg; replace BK958 := bb_ BK958.out hb; clear hb hbox hg; have hnb20 := NB959_958.out; have hnc20 := NB958_959.out; obtain ⟨z21_0, z21_1, z21_2, z21_3, z21_4, z21_5, f21_0, f21_1, f21_2, f21_3, f21_4, f21_5⟩ := cz6_ BK959.out) | (refine gcL_ 17 (some 23) Try.func17 #[.agg #[.int .i64 a1_0, .int .u64 a1_1, .int .u64 a1_2, .int .u64 a1_3, .int .u64 a1_4, .slice A1_5 l1_5.length c1_5], .int .i64 1048576] ?_; (with_reducible refine (laws_szGrowth.calls a1_0 a1_1 a1_2 a1_3 a1_4 _ _ l1_5 1048576 t960 _ ?side1 ?side2 A9.out).mono ?_); (case side1 => exact cU_ (Kd.C_below HR1_5.out HB.out)); (case side2 => exact HC1_5.out); rintro e w22 ⟨rfl, hb⟩; refine ⟨_, rfl, ?_⟩; replace BK958 := bb_ BK958.out hb; replace BK959 := bb_ BK959.out hb; replace HB := stepB_ hb; (try clear hb)) | (refine gcL_ 18 (some 28) Try.func18 #[.slice A4 l4.length c4, .int .i64 t960] ?_; (with_reducible refine (laws_szDigestS.calls _ _ l4 t960 t961 _ ?side1 ?side2 A16.out).mono ?_); (case side1 => exact cU_ (Kd.C_below HR4.out HB.out)); (case side2 => exact HC4.out); rintro e w' ⟨rfl, ⟨nd, rfl⟩⟩; refine ⟨_, rfl, ?_⟩))
    go_ret
    exact ⟨rfl_, bel_⟩
   ·rw [if_neg c17] at H
    have c17b0 := decide_eq_false c17
    clear c17
    obtain ⟨⟨t962, t963, t964, t965, t966⟩, A23, H⟩ := bnd_ H
    dsimp only at H
    obtain ⟨⟨t967, t968, t969, t970, t971, t972⟩, A24, H⟩ := bnd_ H
    dsimp only at H
    obtain ⟨t975, A25, H⟩ := bnd_ H
    obtain ⟨⟨t978, t979, t980⟩, A26, H⟩ := bnd_ H
    dsimp only at H
    obtain ⟨⟨t982, t983, t984, t985, t986, t987⟩, A27, H⟩ := bnd_ H
    dsimp only at H
    obtain ⟨t991, A28, H⟩ := bnd_ H
    obtain ⟨⟨t994, t995, t996, t997, t998⟩, A29, H⟩ := bnd_ H
    dsimp only at H
    obtain ⟨⟨t999, t1000, t1001⟩, A30, H⟩ := bnd_ H
    dsimp only at H
    have HC31 := Aside0.mk H
    clear H
    go_enter Try.func4, Try.ntmps4
    try go_wp2_with (first | ((with_reducible refine gate_dst (N := 5) rfl ?_); refine boxE_ (cs := #[.int .i64 a0_0, .int .u64 a0_1, .int .u64 a0_2, .int .u64 a0_3, .int .u64 a0_4]) (t := 26) ?_; intro gb958 hg w32 hbox hb; have BK958 := a_ (hbox); have GW958 := sizeB_ hg; replace HB := stepB_ hb; clear hb hbox hg) | ((with_reducible refine gate_dst (N := 6) rfl ?_); refine boxE_ (cs := #[.int .i64 a1_0, .int .u64 a1_1, .int .u64 a1_2, .int .u64 a1_3, .int .u64 a1_4, .slice A1_5 l1_5.length c1_5]) (t := 42) ?_; intro gb959 hg w33 hbox hb; have BK959 := a_ (hbox); have GW959 := sizeB_ hg; replace HB := stepB_ hb; obtain ⟨NB958_959, NB959_958⟩ := ne2_ BK958.out hg; replace BK958 := bb_ BK958.out hb; clear hb hbox hg; have hnb34 := NB959_958.out; have hnc34 := NB958_959.out; obtain ⟨z35_0, z35_1, z35_2, z35_3, z35_4, z35_5, f35_0, f35_1, f35_2, f35_3, f35_4, f35_5⟩ := cz6_ BK959.out) | (refine gcL_ 17 (some 23) Try.func17 #[.agg #[.int .i64 a1_0, .int .u64 a1_1, .int .u64 a1_2, .int .u64 a1_3, .int .u64 a1_4, .slice A1_5 l1_5.length c1_5], .int .i64 1048576] ?_; (with_reducible refine (laws_szGrowth.calls a1_0 a1_1 a1_2 a1_3 a1_4 _ _ l1_5 1048576 t960 _ ?side1 ?side2 A9.out).mono ?_); (case side1 => exact cU_ (Kd.C_below HR1_5.out HB.out)); (case side2 => exact HC1_5.out); rintro e w36 ⟨rfl, hb⟩; refine ⟨_, rfl, ?_⟩; replace BK958 := bb_ BK958.out hb; replace BK959 := bb_ BK959.out hb; replace HB := stepB_ hb; (try clear hb)) | (refine gcL_ 18 (some 28) Try.func18 #[.slice A4 l4.length c4, .int .i64 t960] ?_; (with_reducible refine (laws_szDigestS.calls _ _ l4 t960 t961 _ ?side1 ?side2 A16.out).mono ?_); (case side1 => exact cU_ (Kd.C_below HR4.out HB.out)); (case side2 => exact HC4.out); rintro e w' ⟨rfl, ⟨nd, rfl⟩⟩; refine ⟨_, rfl, ?_⟩; (try (rw [drewN_self w36]; generalize hq_ : World.drewN w36 _ = w36; have n0_ : Aside0 (w36.heap[gb958]? = some (.cells #[.int .i64 a0_0, .int .u64 a0_1, .int .u64 a0_2, .int .u64 a0_3, .int .u64 a0_4] 26 (0, 0))) := ⟨by rw [← hq_]; exact (blkU_ BK958.out)⟩; have n1_ : Aside0 (w36.heap[gb959]? = some (.cells #[.int .i64 a1_0, .int .u64 a1_1, .int .u64 a1_2, .int .u64 a1_3, .int .u64 a1_4, .slice A1_5 l1_5.length c1_5] 42 (0, 0))) := ⟨by rw [← hq_]; exact (blkU_ BK959.out)⟩; have n2_ : Aside0 (Below w.heap.size w w36) := ⟨by rw [← hq_]; exact bel_⟩; clear BK958 BK959 HB hq_; have BK958 := n0_; have BK959 := n1_; have HB := n2_; clear n0_ n1_ n2_))))
    replace BK958 := a_ (blk_drew BK958.out)
    replace BK959 := a_ (blk_drew BK959.out)
    replace HB := a_ (below_drew1 HB.out)
    refine start_ (n := 15) (S := fun w' => hdc5_ w' gb958 (.int .i64 a0_0) (.int .u64 a0_1) (.int .u64 a0_2) (.int .u64 a0_3) (.int .u64 a0_4) (hd6_ w' gb959 (.int .i64 a1_0) (.int .u64 a1_1) (.int .u64 a1_2) (.int .u64 a1_3) (.int .u64 a1_4) (.slice A1_5 l1_5.length c1_5))) (ds := []) #[false, false, false, false, false, false, false, false, false, false, false, false, false, false, false] (by kernel_rfl) rfl rfl (hcc5_ BK958.out (hc6_ BK959.out)) (fun hHeld => ?_); refine with_tabW laws_FnExactClashOfGrowth.tab10 laws_FnExactClashOfGrowth.bits10 (fun HT HW_ => ?_)
    generalize w36.drew = w37 at BK958 BK959 HB hHeld ⊢
    refine pP_ 4 (some 36) (b_ 15 16) HT ?_
    refine pP_ 5 (some 37) (b_ 15 48) HT ?_
    refine pP_ 6 (some 38) (b_ 15 112) HT ?_
    refine takeP_ 0 (some 32) (b_ 15 113) HT HW_ hHeld ?_
    refine takeP_ 2 (some 34) (b_ 15 117) HT HW_ hHeld ?_
    refine join_ (σ := Value × Value × Nat) 2 (b_ 15 8191) (fun s_ => [(33, .agg #[.int .i64 t962, .int .u64 t963, .int .u64 t964, .int .u64 t965, .int .u64 t966]), (35, .agg #[.int .i64 t967, .int .u64 t968, .int .u64 t969, .int .u64 t970, .int .u64 t971, s_.1]), (39, s_.2.1), (40, .tuple #[.agg #[.string t978, .string t979], .bool t980]), (12, .pointer (some ⟨s_.2.2, 0, none⟩)), (31, .tuple #[.agg #[.string t978, .string t979], .bool t980]), (41, .agg #[.string t978, .string t979]), (42, .bool t980)]) (fun s_ w' => (hdc5_ w' gb958 (.int .i64 a0_0) (.int .u64 a0_1) (.int .u64 a0_2) (.int .u64 a0_3) (.int .u64 a0_4) (hd6_ w' gb959 (.int .i64 a1_0) (.int .u64 a1_1) (.int .u64 a1_2) (.int .u64 a1_3) (.int .u64 a1_4) (.slice A1_5 l1_5.length c1_5))) ∧ (Kd.R k29 29 w' w.heap.size (fun k_ => some k_ ≠ (s_.2.1 : Value).ownBlock) s_.1 t972) ∧ (Kd.R k29 29 w' w.heap.size (fun k_ => some k_ ≠ (s_.1 : Value).ownBlock) s_.2.1 t975) ∧ (w'.heap[gb958]? = some (.cells #[.int .i64 a0_0, .int .u64 a0_1, .int .u64 a0_2, .int .u64 a0_3, .int .u64 a0_4] 26 (0, 0))) ∧ (w'.heap[gb959]? = some (.cells #[.int .i64 a1_0, .int .u64 a1_1, .int .u64 a1_2, .int .u64 a1_3, .int .u64 a1_4, .slice A1_5 l1_5.length c1_5] 42 (0, 0))) ∧ (w'.heap[s_.2.2]? = some (.cells #[.string (⟨#[]⟩ : ByteArray), .string (⟨#[]⟩ : ByteArray)] 46 (0, 0))) ∧ (w.heap.size ≤ s_.2.2) ∧ (w.heap.size ≤ s_.2.2) ∧ (gb958 ≠ s_.2.2) ∧ (s_.2.2 ≠ gb958) ∧ (gb959 ≠ s_.2.2) ∧ (s_.2.2 ≠ gb959) ∧ (Below w.heap.size w w')) ?_ ?_
    rotate_left
    ·intro hJ1_3_7_8_12
     refine join_ (σ := Value × Value) 3 (b_ 15 4095) (fun s_ => [(33, .agg #[.int .i64 t962, .int .u64 t963, .int .u64 t964, .int .u64 t965, .int .u64 t966]), (35, .agg #[.int .i64 t967, .int .u64 t968, .int .u64 t969, .int .u64 t970, .int .u64 t971, s_.1]), (39, s_.2), (40, .tuple #[.agg #[.string t978, .string t979], .bool t980]), (31, .tuple #[.agg #[.string t978, .string t979], .bool t980]), (41, .agg #[.string t978, .string t979]), (42, .bool t980)]) (fun s_ w' => (hdc5_ w' gb958 (.int .i64 a0_0) (.int .u64 a0_1) (.int .u64 a0_2) (.int .u64 a0_3) (.int .u64 a0_4) (hd6_ w' gb959 (.int .i64 a1_0) (.int .u64 a1_1) (.int .u64 a1_2) (.int .u64 a1_3) (.int .u64 a1_4) (.slice A1_5 l1_5.length c1_5))) ∧ (Kd.R k29 29 w' w.heap.size (fun k_ => some k_ ≠ (s_.2 : Value).ownBlock) s_.1 t972) ∧ (Kd.R k29 29 w' w.heap.size (fun k_ => some k_ ≠ (s_.1 : Value).ownBlock) s_.2 t975) ∧ (w'.heap[gb958]? = some (.cells #[.int .i64 a0_0, .int .u64 a0_1, .int .u64 a0_2, .int .u64 a0_3, .int .u64 a0_4] 26 (0, 0))) ∧ (w'.heap[gb959]? = some (.cells #[.int .i64 a1_0, .int .u64 a1_1, .int .u64 a1_2, .int .u64 a1_3, .int .u64 a1_4, .slice A1_5 l1_5.length c1_5] 42 (0, 0))) ∧ (Below w.heap.size w w')) ?_ ?_
     rotate_left
     ·intro hJ1_3_7_8
      refine join_ (σ := Value × Value × Nat) 6 (b_ 15 4351) (fun s_ => [(33, .agg #[.int .i64 t962, .int .u64 t963, .int .u64 t964, .int .u64 t965, .int .u64 t966]), (35, .agg #[.int .i64 t967, .int .u64 t968, .int .u64 t969, .int .u64 t970, .int .u64 t971, s_.1]), (39, s_.2.1), (12, .pointer (some ⟨s_.2.2, 0, none⟩))]) (fun s_ w' => (hdc5_ w' gb958 (.int .i64 a0_0) (.int .u64 a0_1) (.int .u64 a0_2) (.int .u64 a0_3) (.int .u64 a0_4) (hd6_ w' gb959 (.int .i64 a1_0) (.int .u64 a1_1) (.int .u64 a1_2) (.int .u64 a1_3) (.int .u64 a1_4) (.slice A1_5 l1_5.length c1_5))) ∧ (Kd.R k29 29 w' w.heap.size (fun k_ => some k_ ≠ (s_.2.1 : Value).ownBlock) s_.1 t972) ∧ (Kd.R k29 29 w' w.heap.size (fun k_ => some k_ ≠ (s_.1 : Value).ownBlock) s_.2.1 t975) ∧ (w'.heap[gb958]? = some (.cells #[.int .i64 a0_0, .int .u64 a0_1, .int .u64 a0_2, .int .u64 a0_3, .int .u64 a0_4] 26 (0, 0))) ∧ (w'.heap[gb959]? = some (.cells #[.int .i64 a1_0, .int .u64 a1_1, .int .u64 a1_2, .int .u64 a1_3, .int .u64 a1_4, .slice A1_5 l1_5.length c1_5] 42 (0, 0))) ∧ (w'.heap[s_.2.2]? = some (.cells #[.string (⟨#[]⟩ : ByteArray), .string (⟨#[]⟩ : ByteArray)] 46 (0, 0))) ∧ (w.heap.size ≤ s_.2.2) ∧ (w.heap.size ≤ s_.2.2) ∧ (gb958 ≠ s_.2.2) ∧ (s_.2.2 ≠ gb958) ∧ (gb959 ≠ s_.2.2) ∧ (s_.2.2 ≠ gb959) ∧ (Below w.heap.size w w')) ?_ ?_
      rotate_left
      ·intro hJ1_3_7_12
       refine join_ (σ := Value × Value) 7 (b_ 15 255) (fun s_ => [(33, .agg #[.int .i64 t962, .int .u64 t963, .int .u64 t964, .int .u64 t965, .int .u64 t966]), (35, .agg #[.int .i64 t967, .int .u64 t968, .int .u64 t969, .int .u64 t970, .int .u64 t971, s_.1]), (39, s_.2)]) (fun s_ w' => (hdc5_ w' gb958 (.int .i64 a0_0) (.int .u64 a0_1) (.int .u64 a0_2) (.int .u64 a0_3) (.int .u64 a0_4) (hd6_ w' gb959 (.int .i64 a1_0) (.int .u64 a1_1) (.int .u64 a1_2) (.int .u64 a1_3) (.int .u64 a1_4) (.slice A1_5 l1_5.length c1_5))) ∧ (Kd.R k29 29 w' w.heap.size (fun k_ => some k_ ≠ (s_.2 : Value).ownBlock) s_.1 t972) ∧ (Kd.R k29 29 w' w.heap.size (fun k_ => some k_ ≠ (s_.1 : Value).ownBlock) s_.2 t975) ∧ (w'.heap[gb958]? = some (.cells #[.int .i64 a0_0, .int .u64 a0_1, .int .u64 a0_2, .int .u64 a0_3, .int .u64 a0_4] 26 (0, 0))) ∧ (w'.heap[gb959]? = some (.cells #[.int .i64 a1_0, .int .u64 a1_1, .int .u64 a1_2, .int .u64 a1_3, .int .u64 a1_4, .slice A1_5 l1_5.length c1_5] 42 (0, 0))) ∧ (Below w.heap.size w w')) ?_ ?_
       rotate_left
       ·intro hJ1_3_7
        refine join_ (σ := Value × Nat) 7 (b_ 15 4223) (fun s_ => [(33, .agg #[.int .i64 t962, .int .u64 t963, .int .u64 t964, .int .u64 t965, .int .u64 t966]), (35, .agg #[.int .i64 t967, .int .u64 t968, .int .u64 t969, .int .u64 t970, .int .u64 t971, s_.1]), (12, .pointer (some ⟨s_.2, 0, none⟩))]) (fun s_ w' => (hdc5_ w' gb958 (.int .i64 a0_0) (.int .u64 a0_1) (.int .u64 a0_2) (.int .u64 a0_3) (.int .u64 a0_4) (hd6_ w' gb959 (.int .i64 a1_0) (.int .u64 a1_1) (.int .u64 a1_2) (.int .u64 a1_3) (.int .u64 a1_4) (.slice A1_5 l1_5.length c1_5))) ∧ (Kd.R k29 29 w' w.heap.size (fun _ => True) s_.1 t972) ∧ (w'.heap[gb958]? = some (.cells #[.int .i64 a0_0, .int .u64 a0_1, .int .u64 a0_2, .int .u64 a0_3, .int .u64 a0_4] 26 (0, 0))) ∧ (w'.heap[gb959]? = some (.cells #[.int .i64 a1_0, .int .u64 a1_1, .int .u64 a1_2, .int .u64 a1_3, .int .u64 a1_4, .slice A1_5 l1_5.length c1_5] 42 (0, 0))) ∧ (w'.heap[s_.2]? = some (.cells #[.string (⟨#[]⟩ : ByteArray), .string (⟨#[]⟩ : ByteArray)] 46 (0, 0))) ∧ (w.heap.size ≤ s_.2) ∧ (w.heap.size ≤ s_.2) ∧ (gb958 ≠ s_.2) ∧ (s_.2 ≠ gb958) ∧ (gb959 ≠ s_.2) ∧ (s_.2 ≠ gb959) ∧ (Below w.heap.size w w')) ?_ ?_
        rotate_left
        ·intro hJ1_3_12
         refine join_ (σ := Value) 8 (b_ 15 127) (fun s_ => [(33, .agg #[.int .i64 t962, .int .u64 t963, .int .u64 t964, .int .u64 t965, .int .u64 t966]), (35, .agg #[.int .i64 t967, .int .u64 t968, .int .u64 t969, .int .u64 t970, .int .u64 t971, s_])]) (fun s_ w' => (hdc5_ w' gb958 (.int .i64 a0_0) (.int .u64 a0_1) (.int .u64 a0_2) (.int .u64 a0_3) (.int .u64 a0_4) (hd6_ w' gb959 (.int .i64 a1_0) (.int .u64 a1_1) (.int .u64 a1_2) (.int .u64 a1_3) (.int .u64 a1_4) (.slice A1_5 l1_5.length c1_5))) ∧ (Kd.R k29 29 w' w.heap.size (fun _ => True) s_ t972) ∧ (w'.heap[gb958]? = some (.cells #[.int .i64 a0_0, .int .u64 a0_1, .int .u64 a0_2, .int .u64 a0_3, .int .u64 a0_4] 26 (0, 0))) ∧ (w'.heap[gb959]? = some (.cells #[.int .i64 a1_0, .int .u64 a1_1, .int .u64 a1_2, .int .u64 a1_3, .int .u64 a1_4, .slice A1_5 l1_5.length c1_5] 42 (0, 0))) ∧ (Below w.heap.size w w')) ?_ ?_
         rotate_left
         ·intro hJ1_3
          refine join_ (σ := Nat) 8 (b_ 15 4215) (fun s_ => [(33, .agg #[.int .i64 t962, .int .u64 t963, .int .u64 t964, .int .u64 t965, .int .u64 t966]), (12, .pointer (some ⟨s_, 0, none⟩))]) (fun s_ w' => (hdc5_ w' gb958 (.int .i64 a0_0) (.int .u64 a0_1) (.int .u64 a0_2) (.int .u64 a0_3) (.int .u64 a0_4) (hd6_ w' gb959 (.int .i64 a1_0) (.int .u64 a1_1) (.int .u64 a1_2) (.int .u64 a1_3) (.int .u64 a1_4) (.slice A1_5 l1_5.length c1_5))) ∧ (w'.heap[gb958]? = some (.cells #[.int .i64 a0_0, .int .u64 a0_1, .int .u64 a0_2, .int .u64 a0_3, .int .u64 a0_4] 26 (0, 0))) ∧ (w'.heap[gb959]? = some (.cells #[.int .i64 a1_0, .int .u64 a1_1, .int .u64 a1_2, .int .u64 a1_3, .int .u64 a1_4, .slice A1_5 l1_5.length c1_5] 42 (0, 0))) ∧ (w'.heap[s_]? = some (.cells #[.string (⟨#[]⟩ : ByteArray), .string (⟨#[]⟩ : ByteArray)] 46 (0, 0))) ∧ (w.heap.size ≤ s_) ∧ (w.heap.size ≤ s_) ∧ (gb958 ≠ s_) ∧ (s_ ≠ gb958) ∧ (gb959 ≠ s_) ∧ (s_ ≠ gb959) ∧ (Below w.heap.size w w')) ?_ ?_
          rotate_left
          ·intro hJ1_12
           refine join_ (σ := Unit) 9 (b_ 15 119) (fun s_ => [(33, .agg #[.int .i64 t962, .int .u64 t963, .int .u64 t964, .int .u64 t965, .int .u64 t966])]) (fun s_ w' => (hdc5_ w' gb958 (.int .i64 a0_0) (.int .u64 a0_1) (.int .u64 a0_2) (.int .u64 a0_3) (.int .u64 a0_4) (hd6_ w' gb959 (.int .i64 a1_0) (.int .u64 a1_1) (.int .u64 a1_2) (.int .u64 a1_3) (.int .u64 a1_4) (.slice A1_5 l1_5.length c1_5))) ∧ (w'.heap[gb958]? = some (.cells #[.int .i64 a0_0, .int .u64 a0_1, .int .u64 a0_2, .int .u64 a0_3, .int .u64 a0_4] 26 (0, 0))) ∧ (w'.heap[gb959]? = some (.cells #[.int .i64 a1_0, .int .u64 a1_1, .int .u64 a1_2, .int .u64 a1_3, .int .u64 a1_4, .slice A1_5 l1_5.length c1_5] 42 (0, 0))) ∧ (Below w.heap.size w w')) ?_ ?_
           rotate_left
           ·intro hJ1
            refine join_ (σ := Nat) 9 (b_ 15 4213) (fun s_ => [(12, .pointer (some ⟨s_, 0, none⟩))]) (fun s_ w' => (hdc5_ w' gb958 (.int .i64 a0_0) (.int .u64 a0_1) (.int .u64 a0_2) (.int .u64 a0_3) (.int .u64 a0_4) (hd6_ w' gb959 (.int .i64 a1_0) (.int .u64 a1_1) (.int .u64 a1_2) (.int .u64 a1_3) (.int .u64 a1_4) (.slice A1_5 l1_5.length c1_5))) ∧ (w'.heap[gb958]? = some (.cells #[.int .i64 a0_0, .int .u64 a0_1, .int .u64 a0_2, .int .u64 a0_3, .int .u64 a0_4] 26 (0, 0))) ∧ (w'.heap[gb959]? = some (.cells #[.int .i64 a1_0, .int .u64 a1_1, .int .u64 a1_2, .int .u64 a1_3, .int .u64 a1_4, .slice A1_5 l1_5.length c1_5] 42 (0, 0))) ∧ (w'.heap[s_]? = some (.cells #[.string (⟨#[]⟩ : ByteArray), .string (⟨#[]⟩ : ByteArray)] 46 (0, 0))) ∧ (w.heap.size ≤ s_) ∧ (w.heap.size ≤ s_) ∧ (gb958 ≠ s_) ∧ (s_ ≠ gb958) ∧ (gb959 ≠ s_) ∧ (s_ ≠ gb959) ∧ (Below w.heap.size w w')) ?_ ?_
            rotate_left
            ·intro hJ12
             refine two_ (i := 1) (j := 12) (Ni := some 33) (Nj := some 12) (b_ 15 119) (b_ 15 4213) rfl rfl rfl rfl (two_of HT.out (by kernel_rfl)) (by decide) (by decide) (fun K hK => ?_) (fun K hK => ?_)
             ·skip
              refine goN_ Try.func12 #[.agg #[.int .i64 a0_0, .int .u64 a0_1, .int .u64 a0_2, .int .u64 a0_3, .int .u64 a0_4]] ?_
              with_reducible refine (laws_toPoint.calls a0_0 a0_1 a0_2 a0_3 a0_4 t962 t963 t964 t965 t966 _ A23.out).mono ?_
              rintro e w38 ⟨rfl, hb⟩
              refine ⟨_, rfl, ?_⟩
              replace BK958 := bb_ BK958.out hb
              replace BK959 := bb_ BK959.out hb
              replace HB := stepB_ hb
              (try clear hb)
              refine hK.out _ _ (hcc5_ BK958.out (hc6_ BK959.out)) (fun hHeld => ?_)
              clear hK K
              refine normP_ (some 33) ?_
              exact jn_ (hJ1 () _ ⟨hHeld, (blkU_ BK958.out), (blkU_ BK959.out), bel_⟩)
             ·skip
              refine box_step ?hg (N := 12) ?hd (cs := #[.string (⟨#[]⟩ : ByteArray), .string (⟨#[]⟩ : ByteArray)]) (t := 46) ?hr ?_; (case hd => rfl); (case hg => rfl); (case hr => first | (go_simp; done) | (go_simp; rfl))
              intro gb981 hg w38 hbox hb
              have BK981 := a_ (hbox)
              have GW981 := sizeB_ hg
              have GE981 := sizeB_ hg
              replace HB := stepB_ hb
              obtain ⟨NB958_981, NB981_958⟩ := ne2_ BK958.out hg
              replace BK958 := bb_ BK958.out hb
              obtain ⟨NB959_981, NB981_959⟩ := ne2_ BK959.out hg
              replace BK959 := bb_ BK959.out hb
              clear hb hbox hg
              refine hK.out _ _ (hcc5_ BK958.out (hc6_ BK959.out)) (fun hHeld => ?_)
              clear hK K
              refine normP_ (some 12) ?_
              exact jn_ (hJ12 (gb981) _ ⟨hHeld, (blkU_ BK958.out), (blkU_ BK959.out), (blkU_ BK981.out), GW981.out, GE981.out, NB958_981.out, NB981_958.out, NB959_981.out, NB981_959.out, bel_⟩)
            ·skip
             rintro gb981 w39 ⟨hS_, h0_, h1_, h2_, h3_, h4_, h5_, h6_, h7_, h8_, h9_⟩
             have n0_ := a_ h0_
             have n1_ := a_ h1_
             have n2_ := a_ h2_
             have n3_ := a_ h3_
             have n4_ := a_ h4_
             have n5_ := a_ h5_
             have n6_ := a_ h6_
             have n7_ := a_ h7_
             have n8_ := a_ h8_
             have n9_ := a_ h9_
             clear BK958
             clear BK959
             clear HB
             clear h0_ h1_ h2_ h3_ h4_ h5_ h6_ h7_ h8_ h9_
             have BK958 := n0_
             have BK959 := n1_
             have BK981 := n2_
             have GW981 := n3_
             have GE981 := n4_
             have NB958_981 := n5_
             have NB981_958 := n6_
             have NB959_981 := n7_
             have NB981_959 := n8_
             have HB := n9_
             clear n0_ n1_ n2_ n3_ n4_ n5_ n6_ n7_ n8_ n9_
             have hHeld : hdc5_ w39 gb958 (.int .i64 a0_0) (.int .u64 a0_1) (.int .u64 a0_2) (.int .u64 a0_3) (.int .u64 a0_4) (hd6_ w39 gb959 (.int .i64 a1_0) (.int .u64 a1_1) (.int .u64 a1_2) (.int .u64 a1_3) (.int .u64 a1_4) (.slice A1_5 l1_5.length c1_5)) := hS_
             refine norm_ (a' := ?_) ?_ ?_
             rotate_left
             ·simp only [putAll, Act.put, List.setIfInBounds_toArray, List.set_cons_zero, List.set_cons_succ]
              rfl
             refine oneP_ 1 (some 33) (b_ 15 4215) HT (fun K hK => ?_)
             refine goN_ Try.func12 #[.agg #[.int .i64 a0_0, .int .u64 a0_1, .int .u64 a0_2, .int .u64 a0_3, .int .u64 a0_4]] ?_
             with_reducible refine (laws_toPoint.calls a0_0 a0_1 a0_2 a0_3 a0_4 t962 t963 t964 t965 t966 _ A23.out).mono ?_
             rintro e w40 ⟨rfl, hb⟩
             refine ⟨_, rfl, ?_⟩
             replace BK958 := bb_ BK958.out hb
             replace BK959 := bb_ BK959.out hb
             replace BK981 := bb_ BK981.out hb
             replace HB := stepB_ hb
             (try clear hb)
             refine hK.out _ _ (hcc5_ BK958.out (hc6_ BK959.out)) (fun hHeld => ?_)
             clear hK K
             refine normP_ (some 33) ?_
             exact jn_ (hJ1_12 (gb981) _ ⟨hHeld, (blkU_ BK958.out), (blkU_ BK959.out), (blkU_ BK981.out), GW981.out, GE981.out, NB958_981.out, NB981_958.out, NB959_981.out, NB981_959.out, bel_⟩)
           ·skip
            rintro _ w39 ⟨hS_, h0_, h1_, h2_⟩
            have n0_ := a_ h0_
            have n1_ := a_ h1_
            have n2_ := a_ h2_
            clear BK958
            clear BK959
            clear HB
            clear h0_ h1_ h2_
            have BK958 := n0_
            have BK959 := n1_
            have HB := n2_
            clear n0_ n1_ n2_
            have hHeld : hdc5_ w39 gb958 (.int .i64 a0_0) (.int .u64 a0_1) (.int .u64 a0_2) (.int .u64 a0_3) (.int .u64 a0_4) (hd6_ w39 gb959 (.int .i64 a1_0) (.int .u64 a1_1) (.int .u64 a1_2) (.int .u64 a1_3) (.int .u64 a1_4) (.slice A1_5 l1_5.length c1_5)) := hS_
            refine norm_ (a' := ?_) ?_ ?_
            rotate_left
            ·simp only [putAll, Act.put, List.setIfInBounds_toArray, List.set_cons_zero, List.set_cons_succ]
             rfl
            refine two_ (i := 3) (j := 12) (Ni := some 35) (Nj := some 12) (b_ 15 127) (b_ 15 4215) rfl rfl rfl rfl (two_of HT.out (by kernel_rfl)) (by decide) (by decide) (fun K hK => ?_) (fun K hK => ?_)
            ·skip
             refine goN_ Try.func20 #[.agg #[.int .i64 a1_0, .int .u64 a1_1, .int .u64 a1_2, .int .u64 a1_3, .int .u64 a1_4, .slice A1_5 l1_5.length c1_5]] ?_
             with_reducible refine (laws_toGrowth.calls k a1_0 a1_1 a1_2 a1_3 a1_4 _ _ l1_5 t967 t968 t969 t970 t971 t972 _ ?side1 ?side2 A24.out).mono ?_
             (case side1 => exact cU_ (Kd.C_below HR1_5.out HB.out))
             (case side2 => exact HC1_5.out)
             rintro e w40 ⟨v973, rfl, ho0, hb⟩
             refine ⟨_, rfl, ?_⟩
             have HO974 := a_ (Kd.R_lower ho0 (below_size bel_))
             replace BK958 := bb_ BK958.out hb
             replace BK959 := bb_ BK959.out hb
             replace HB := stepB_ hb
             (try clear hb); (try clear ho0)
             refine hK.out _ _ (hcc5_ BK958.out (hc6_ BK959.out)) (fun hHeld => ?_)
             clear hK K
             refine normP_ (some 35) ?_
             exact jn_ (hJ1_3 (v973) _ ⟨hHeld, (kdU_ HO974.out), (blkU_ BK958.out), (blkU_ BK959.out), bel_⟩)
            ·skip
             refine box_step ?hg (N := 12) ?hd (cs := #[.string (⟨#[]⟩ : ByteArray), .string (⟨#[]⟩ : ByteArray)]) (t := 46) ?hr ?_; (case hd => rfl); (case hg => rfl); (case hr => first | (go_simp; done) | (go_simp; rfl))
             intro gb981 hg w40 hbox hb
             have BK981 := a_ (hbox)
             have GW981 := sizeB_ hg
             have GE981 := sizeB_ hg
             replace HB := stepB_ hb
             obtain ⟨NB958_981, NB981_958⟩ := ne2_ BK958.out hg
             replace BK958 := bb_ BK958.out hb
             obtain ⟨NB959_981, NB981_959⟩ := ne2_ BK959.out hg
             replace BK959 := bb_ BK959.out hb
             clear hb hbox hg
             refine hK.out _ _ (hcc5_ BK958.out (hc6_ BK959.out)) (fun hHeld => ?_)
             clear hK K
             refine normP_ (some 12) ?_
             exact jn_ (hJ1_12 (gb981) _ ⟨hHeld, (blkU_ BK958.out), (blkU_ BK959.out), (blkU_ BK981.out), GW981.out, GE981.out, NB958_981.out, NB981_958.out, NB959_981.out, NB981_959.out, bel_⟩)
          ·skip
           rintro gb981 w40 ⟨hS_, h0_, h1_, h2_, h3_, h4_, h5_, h6_, h7_, h8_, h9_⟩
           have n0_ := a_ h0_
           have n1_ := a_ h1_
           have n2_ := a_ h2_
           have n3_ := a_ h3_
           have n4_ := a_ h4_
           have n5_ := a_ h5_
           have n6_ := a_ h6_
           have n7_ := a_ h7_
           have n8_ := a_ h8_
           have n9_ := a_ h9_
           clear BK958
           clear BK959
           clear HB
           clear h0_ h1_ h2_ h3_ h4_ h5_ h6_ h7_ h8_ h9_
           have BK958 := n0_
           have BK959 := n1_
           have BK981 := n2_
           have GW981 := n3_
           have GE981 := n4_
           have NB958_981 := n5_
           have NB981_958 := n6_
           have NB959_981 := n7_
           have NB981_959 := n8_
           have HB := n9_
           clear n0_ n1_ n2_ n3_ n4_ n5_ n6_ n7_ n8_ n9_
           have hHeld : hdc5_ w40 gb958 (.int .i64 a0_0) (.int .u64 a0_1) (.int .u64 a0_2) (.int .u64 a0_3) (.int .u64 a0_4) (hd6_ w40 gb959 (.int .i64 a1_0) (.int .u64 a1_1) (.int .u64 a1_2) (.int .u64 a1_3) (.int .u64 a1_4) (.slice A1_5 l1_5.length c1_5)) := hS_
           refine norm_ (a' := ?_) ?_ ?_
           rotate_left
           ·simp only [putAll, Act.put, List.setIfInBounds_toArray, List.set_cons_zero, List.set_cons_succ]
            rfl
           refine oneP_ 3 (some 35) (b_ 15 4223) HT (fun K hK => ?_)
           refine goN_ Try.func20 #[.agg #[.int .i64 a1_0, .int .u64 a1_1, .int .u64 a1_2, .int .u64 a1_3, .int .u64 a1_4, .slice A1_5 l1_5.length c1_5]] ?_
           with_reducible refine (laws_toGrowth.calls k a1_0 a1_1 a1_2 a1_3 a1_4 _ _ l1_5 t967 t968 t969 t970 t971 t972 _ ?side1 ?side2 A24.out).mono ?_
           (case side1 => exact cU_ (Kd.C_below HR1_5.out HB.out))
           (case side2 => exact HC1_5.out)
           rintro e w41 ⟨v973, rfl, ho0, hb⟩
           refine ⟨_, rfl, ?_⟩
           have HO974 := a_ (Kd.R_lower ho0 (below_size bel_))
           replace BK958 := bb_ BK958.out hb
           replace BK959 := bb_ BK959.out hb
           replace BK981 := bb_ BK981.out hb
           replace HB := stepB_ hb
           (try clear hb); (try clear ho0)
           refine hK.out _ _ (hcc5_ BK958.out (hc6_ BK959.out)) (fun hHeld => ?_)
           clear hK K
           refine normP_ (some 35) ?_
           exact jn_ (hJ1_3_12 (v973, gb981) _ ⟨hHeld, (kdU_ HO974.out), (blkU_ BK958.out), (blkU_ BK959.out), (blkU_ BK981.out), GW981.out, GE981.out, NB958_981.out, NB981_958.out, NB959_981.out, NB981_959.out, bel_⟩)
         ·skip
          rintro v973 w40 ⟨hS_, h0_, h1_, h2_, h3_⟩
          have n0_ := a_ h0_
          have n1_ := a_ h1_
          have n2_ := a_ h2_
          have n3_ := a_ h3_
          clear BK958
          clear BK959
          clear HB
          clear h0_ h1_ h2_ h3_
          have HO974 := n0_
          have BK958 := n1_
          have BK959 := n2_
          have HB := n3_
          clear n0_ n1_ n2_ n3_
          have hHeld : hdc5_ w40 gb958 (.int .i64 a0_0) (.int .u64 a0_1) (.int .u64 a0_2) (.int .u64 a0_3) (.int .u64 a0_4) (hd6_ w40 gb959 (.int .i64 a1_0) (.int .u64 a1_1) (.int .u64 a1_2) (.int .u64 a1_3) (.int .u64 a1_4) (.slice A1_5 l1_5.length c1_5)) := hS_
          refine norm_ (a' := ?_) ?_ ?_
          rotate_left
          ·simp only [putAll, Act.put, List.setIfInBounds_toArray, List.set_cons_zero, List.set_cons_succ]
           rfl
          refine two_ (i := 7) (j := 12) (Ni := some 39) (Nj := some 12) (b_ 15 255) (b_ 15 4223) rfl rfl rfl rfl (two_of HT.out (by kernel_rfl)) (by decide) (by decide) (fun K hK => ?_) (fun K hK => ?_)
          ·skip
           refine goN_ Try.func21 #[.slice A4 l4.length c4] ?_
           with_reducible refine (laws_toDigestS.calls k _ _ l4 t975 _ ?side1 ?side2 A25.out).mono ?_
           (case side1 => exact cU_ (Kd.C_below HR4.out HB.out))
           (case side2 => exact HC4.out)
           rintro e w41 ⟨v976, rfl, ho0, hb⟩
           refine ⟨_, rfl, ?_⟩
           have HO977 := a_ (Kd.R_lower (Kd.R_new' ho0 (Kd.R_lt (kdU_ HO974.out))) (below_size bel_))
           replace HO974 := a_ (Kd.R_elder' (kdU_ HO974.out) (Kd.R_base ho0) hb)
           replace BK958 := bb_ BK958.out hb
           replace BK959 := bb_ BK959.out hb
           replace HB := stepB_ hb
           (try clear hb); (try clear ho0)
           refine hK.out _ _ (hcc5_ BK958.out (hc6_ BK959.out)) (fun hHeld => ?_)
           clear hK K
           refine normP_ (some 39) ?_
           exact jn_ (hJ1_3_7 (v973, v976) _ ⟨hHeld, (by (with_reducible repeat (first | apply Kd.R_alloc | apply Kd.R_drewN | apply Kd.R_drew)); exact Kd.R_mono HO974.out (fun _ hk => hk.2)), (by (with_reducible repeat (first | apply Kd.R_alloc | apply Kd.R_drewN | apply Kd.R_drew)); exact Kd.R_mono HO977.out (fun _ hk => hk.2)), (blkU_ BK958.out), (blkU_ BK959.out), bel_⟩)
          ·skip
           refine box_step ?hg (N := 12) ?hd (cs := #[.string (⟨#[]⟩ : ByteArray), .string (⟨#[]⟩ : ByteArray)]) (t := 46) ?hr ?_; (case hd => rfl); (case hg => rfl); (case hr => first | (go_simp; done) | (go_simp; rfl))
           intro gb981 hg w41 hbox hb
           replace HO974 := rb_ HO974.out hb
           have BK981 := a_ (hbox)
           have GW981 := sizeB_ hg
           have GE981 := sizeB_ hg
           replace HB := stepB_ hb
           obtain ⟨NB958_981, NB981_958⟩ := ne2_ BK958.out hg
           replace BK958 := bb_ BK958.out hb
           obtain ⟨NB959_981, NB981_959⟩ := ne2_ BK959.out hg
           replace BK959 := bb_ BK959.out hb
           clear hb hbox hg
           refine hK.out _ _ (hcc5_ BK958.out (hc6_ BK959.out)) (fun hHeld => ?_)
           clear hK K
           refine normP_ (some 12) ?_
           exact jn_ (hJ1_3_12 (v973, gb981) _ ⟨hHeld, (kdU_ HO974.out), (blkU_ BK958.out), (blkU_ BK959.out), (blkU_ BK981.out), GW981.out, GE981.out, NB958_981.out, NB981_958.out, NB959_981.out, NB981_959.out, bel_⟩)
        ·skip
         rintro ⟨v973, gb981⟩ w41 ⟨hS_, h0_, h1_, h2_, h3_, h4_, h5_, h6_, h7_, h8_, h9_, h10_⟩
         have n0_ : Aside0 (Kd.R k29 29 w41 w.heap.size (fun _ => True) v973 t972) := ⟨h0_⟩
         have n1_ : Aside0 (w41.heap[gb958]? = some (.cells #[.int .i64 a0_0, .int .u64 a0_1, .int .u64 a0_2, .int .u64 a0_3, .int .u64 a0_4] 26 (0, 0))) := ⟨h1_⟩
         have n2_ : Aside0 (w41.heap[gb959]? = some (.cells #[.int .i64 a1_0, .int .u64 a1_1, .int .u64 a1_2, .int .u64 a1_3, .int .u64 a1_4, .slice A1_5 l1_5.length c1_5] 42 (0, 0))) := ⟨h2_⟩
         have n3_ : Aside0 (w41.heap[gb981]? = some (.cells #[.string (⟨#[]⟩ : ByteArray), .string (⟨#[]⟩ : ByteArray)] 46 (0, 0))) := ⟨h3_⟩
         have n4_ : Aside0 (w.heap.size ≤ gb981) := ⟨h4_⟩
         have n5_ : Aside0 (w.heap.size ≤ gb981) := ⟨h5_⟩
         have n6_ : Aside0 (gb958 ≠ gb981) := ⟨h6_⟩
         have n7_ : Aside0 (gb981 ≠ gb958) := ⟨h7_⟩
         have n8_ : Aside0 (gb959 ≠ gb981) := ⟨h8_⟩
         have n9_ : Aside0 (gb981 ≠ gb959) := ⟨h9_⟩
         have n10_ : Aside0 (Below w.heap.size w w41) := ⟨h10_⟩
         clear BK958
         clear BK959
         clear HB
         clear h0_ h1_ h2_ h3_ h4_ h5_ h6_ h7_ h8_ h9_ h10_
         have HO974 := n0_
         have BK958 := n1_
         have BK959 := n2_
         have BK981 := n3_
         have GW981 := n4_
         have GE981 := n5_
         have NB958_981 := n6_
         have NB981_958 := n7_
         have NB959_981 := n8_
         have NB981_959 := n9_
         have HB := n10_
         clear n0_ n1_ n2_ n3_ n4_ n5_ n6_ n7_ n8_ n9_ n10_
         have hHeld : hdc5_ w41 gb958 (.int .i64 a0_0) (.int .u64 a0_1) (.int .u64 a0_2) (.int .u64 a0_3) (.int .u64 a0_4) (hd6_ w41 gb959 (.int .i64 a1_0) (.int .u64 a1_1) (.int .u64 a1_2) (.int .u64 a1_3) (.int .u64 a1_4) (.slice A1_5 l1_5.length c1_5)) := hS_
         refine norm_ (a' := ?_) ?_ ?_
         rotate_left
         ·simp only [putAll, Act.put, List.setIfInBounds_toArray, List.set_cons_zero, List.set_cons_succ]
          rfl
         refine oneP_ 7 (some 39) (b_ 15 4351) HT (fun K hK => ?_)
         refine goN_ Try.func21 #[.slice A4 l4.length c4] ?_
         with_reducible refine (laws_toDigestS.calls k _ _ l4 t975 _ ?side1 ?side2 A25.out).mono ?_
         (case side1 => exact cU_ (Kd.C_below HR4.out HB.out))
         (case side2 => exact HC4.out)
         rintro e w42 ⟨v976, rfl, ho0, hb⟩
         refine ⟨_, rfl, ?_⟩
         have HO977 := a_ (Kd.R_lower (Kd.R_new' ho0 (Kd.R_lt (kdU_ HO974.out))) (below_size bel_))
         replace HO974 := a_ (Kd.R_elder' (kdU_ HO974.out) (Kd.R_base ho0) hb)
         replace BK958 := bb_ BK958.out hb
         replace BK959 := bb_ BK959.out hb
         replace BK981 := bb_ BK981.out hb
         replace HB := stepB_ hb
         (try clear hb); (try clear hk); (try clear ho0)
         refine hK.out _ _ (hcc5_ BK958.out (hc6_ BK959.out)) (fun hHeld => ?_)
         clear hK K
         refine normP_ (some 39) ?_
         exact jn_ (hJ1_3_7_12 (v973, v976, gb981) _ ⟨hHeld, (by (with_reducible repeat (first | apply Kd.R_alloc | apply Kd.R_drewN | apply Kd.R_drew)); exact Kd.R_mono HO974.out (fun _ hk => hk.2)), (by (with_reducible repeat (first | apply Kd.R_alloc | apply Kd.R_drewN | apply Kd.R_drew)); exact Kd.R_mono HO977.out (fun _ hk => hk.2)), (blkU_ BK958.out), (blkU_ BK959.out), (blkU_ BK981.out), GW981.out, GE981.out, NB958_981.out, NB981_958.out, NB959_981.out, NB981_959.out, bel_⟩)
       ·skip
        rintro ⟨v973, v976⟩ w41 ⟨hS_, h0_, h1_, h2_, h3_, h4_⟩
        have n0_ : Aside0 (Kd.R k29 29 w41 w.heap.size (fun k_ => some k_ ≠ (v976 : Value).ownBlock) v973 t972) := ⟨h0_⟩
        have n1_ : Aside0 (Kd.R k29 29 w41 w.heap.size (fun k_ => some k_ ≠ (v973 : Value).ownBlock) v976 t975) := ⟨h1_⟩
        have n2_ : Aside0 (w41.heap[gb958]? = some (.cells #[.int .i64 a0_0, .int .u64 a0_1, .int .u64 a0_2, .int .u64 a0_3, .int .u64 a0_4] 26 (0, 0))) := ⟨h2_⟩
        have n3_ : Aside0 (w41.heap[gb959]? = some (.cells #[.int .i64 a1_0, .int .u64 a1_1, .int .u64 a1_2, .int .u64 a1_3, .int .u64 a1_4, .slice A1_5 l1_5.length c1_5] 42 (0, 0))) := ⟨h3_⟩
        have n4_ : Aside0 (Below w.heap.size w w41) := ⟨h4_⟩
        clear BK958
        clear BK959
        clear HB
        clear h0_ h1_ h2_ h3_ h4_
        have HO974 := n0_
        have HO977 := n1_
        have BK958 := n2_
        have BK959 := n3_
        have HB := n4_
        clear n0_ n1_ n2_ n3_ n4_
        have hHeld : hdc5_ w41 gb958 (.int .i64 a0_0) (.int .u64 a0_1) (.int .u64 a0_2) (.int .u64 a0_3) (.int .u64 a0_4) (hd6_ w41 gb959 (.int .i64 a1_0) (.int .u64 a1_1) (.int .u64 a1_2) (.int .u64 a1_3) (.int .u64 a1_4) (.slice A1_5 l1_5.length c1_5)) := hS_
        obtain ⟨Ao42, co42, eo42⟩ := Kd.R_slice HO974.out
        (first | subst eo42 | (injection eo42 with f1_ f2_ f3_; have f4_ := f1_.symm; have f5_ := f3_.symm; clear f1_ f2_ f3_; subst f4_; subst f5_))
        obtain ⟨Ao43, co43, eo43⟩ := Kd.R_slice HO977.out
        (first | subst eo43 | (injection eo43 with f1_ f2_ f3_; have f4_ := f1_.symm; have f5_ := f3_.symm; clear f1_ f2_ f3_; subst f4_; subst f5_))
        refine norm_ (a' := ?_) ?_ ?_
        rotate_left
        ·simp only [putAll, Act.put, List.setIfInBounds_toArray, List.set_cons_zero, List.set_cons_succ]
         rfl
        refine two_ (i := 8) (j := 12) (Ni := some 40) (Nj := some 12) (b_ 15 511) (b_ 15 4351) rfl rfl rfl rfl (two_of HT.out (by kernel_rfl)) (by decide) (by decide) (fun K hK => ?_) (fun K hK => ?_)
        ·skip
         refine goN_ Try.func19 #[.agg #[.int .i64 t962, .int .u64 t963, .int .u64 t964, .int .u64 t965, .int .u64 t966], .agg #[.int .i64 t967, .int .u64 t968, .int .u64 t969, .int .u64 t970, .int .u64 t971, .slice Ao42 t972.length co42], .int .i64 a2, .string a3, .slice Ao43 t975.length co43] ?_
         with_reducible refine (spec_ClashOfGrowth.calls k t962 t963 t964 t965 t966 t967 t968 t969 t970 t971 _ _ t972 a2 a3 _ _ t975 t978 t979 t980 _ ?side1 ?side2 ?side3 ?side4 A26.out).mono ?_
         (case side1 => exact cU_ (Kd.R_reads' HO974.out).2.2)
         (case side2 => exact (Kd.R_reads' HO974.out).2.1)
         (case side3 => exact cU_ (Kd.R_reads' HO977.out).2.2)
         (case side4 => exact (Kd.R_reads' HO977.out).2.1)
         rintro e w44 ⟨rfl, hb⟩
         refine ⟨_, rfl, ?_⟩
         replace HO974 := rb_ HO974.out hb
         replace HO977 := rb_ HO977.out hb
         replace BK958 := bb_ BK958.out hb
         replace BK959 := bb_ BK959.out hb
         replace HB := stepB_ hb
         (try clear hb); (try clear hk)
         refine hK.out _ _ (hcc5_ BK958.out (hc6_ BK959.out)) (fun hHeld => ?_)
         clear hK K
         refine normP_ (some 40) ?_
         refine pP_ 9 (some 31) (b_ 15 1023) HT ?_
         refine pP_ 10 (some 41) (b_ 15 2047) HT ?_
         refine pP_ 11 (some 42) (b_ 15 4095) HT ?_
         exact jn_ (hJ1_3_7_8 (.slice Ao42 t972.length co42, .slice Ao43 t975.length co43) _ ⟨hHeld, (kdU_ HO974.out), (kdU_ HO977.out), (blkU_ BK958.out), (blkU_ BK959.out), bel_⟩)
        ·skip
         refine box_step ?hg (N := 12) ?hd (cs := #[.string (⟨#[]⟩ : ByteArray), .string (⟨#[]⟩ : ByteArray)]) (t := 46) ?hr ?_; (case hd => rfl); (case hg => rfl); (case hr => first | (go_simp; done) | (go_simp; rfl))
         intro gb981 hg w42 hbox hb
         replace HO974 := rb_ HO974.out hb
         replace HO977 := rb_ HO977.out hb
         have BK981 := a_ (hbox)
         have GW981 := sizeB_ hg
         have GE981 := sizeB_ hg
         replace HB := stepB_ hb
         obtain ⟨NB958_981, NB981_958⟩ := ne2_ BK958.out hg
         replace BK958 := bb_ BK958.out hb
         obtain ⟨NB959_981, NB981_959⟩ := ne2_ BK959.out hg
         replace BK959 := bb_ BK959.out hb
         clear hb hbox hg
         refine hK.out _ _ (hcc5_ BK958.out (hc6_ BK959.out)) (fun hHeld => ?_)
         clear hK K
         refine normP_ (some 12) ?_
         exact jn_ (hJ1_3_7_12 (.slice Ao42 t972.length co42, .slice Ao43 t975.length co43, gb981) _ ⟨hHeld, (kdU_ HO974.out), (kdU_ HO977.out), (blkU_ BK958.out), (blkU_ BK959.out), (blkU_ BK981.out), GW981.out, GE981.out, NB958_981.out, NB981_958.out, NB959_981.out, NB981_959.out, bel_⟩)
      ·skip
       rintro ⟨v973, v976, gb981⟩ w42 ⟨hS_, h0_, h1_, h2_, h3_, h4_, h5_, h6_, h7_, h8_, h9_, h10_, h11_⟩
       have n0_ : Aside0 (Kd.R k29 29 w42 w.heap.size (fun k_ => some k_ ≠ (v976 : Value).ownBlock) v973 t972) := ⟨h0_⟩
       have n1_ : Aside0 (Kd.R k29 29 w42 w.heap.size (fun k_ => some k_ ≠ (v973 : Value).ownBlock) v976 t975) := ⟨h1_⟩
       have n2_ : Aside0 (w42.heap[gb958]? = some (.cells #[.int .i64 a0_0, .int .u64 a0_1, .int .u64 a0_2, .int .u64 a0_3, .int .u64 a0_4] 26 (0, 0))) := ⟨h2_⟩
       have n3_ : Aside0 (w42.heap[gb959]? = some (.cells #[.int .i64 a1_0, .int .u64 a1_1, .int .u64 a1_2, .int .u64 a1_3, .int .u64 a1_4, .slice A1_5 l1_5.length c1_5] 42 (0, 0))) := ⟨h3_⟩
       have n4_ : Aside0 (w42.heap[gb981]? = some (.cells #[.string (⟨#[]⟩ : ByteArray), .string (⟨#[]⟩ : ByteArray)] 46 (0, 0))) := ⟨h4_⟩
       have n5_ : Aside0 (w.heap.size ≤ gb981) := ⟨h5_⟩
       have n6_ : Aside0 (w.heap.size ≤ gb981) := ⟨h6_⟩
       have n7_ : Aside0 (gb958 ≠ gb981) := ⟨h7_⟩
       have n8_ : Aside0 (gb981 ≠ gb958) := ⟨h8_⟩
       have n9_ : Aside0 (gb959 ≠ gb981) := ⟨h9_⟩
       have n10_ : Aside0 (gb981 ≠ gb959) := ⟨h10_⟩
       have n11_ : Aside0 (Below w.heap.size w w42) := ⟨h11_⟩
       clear BK958
       clear BK959
       clear HB
       clear h0_ h1_ h2_ h3_ h4_ h5_ h6_ h7_ h8_ h9_ h10_ h11_
       have HO974 := n0_
       have HO977 := n1_
       have BK958 := n2_
       have BK959 := n3_
       have BK981 := n4_
       have GW981 := n5_
       have GE981 := n6_
       have NB958_981 := n7_
       have NB981_958 := n8_
       have NB959_981 := n9_
       have NB981_959 := n10_
       have HB := n11_
       clear n0_ n1_ n2_ n3_ n4_ n5_ n6_ n7_ n8_ n9_ n10_ n11_
       have hHeld : hdc5_ w42 gb958 (.int .i64 a0_0) (.int .u64 a0_1) (.int .u64 a0_2) (.int .u64 a0_3) (.int .u64 a0_4) (hd6_ w42 gb959 (.int .i64 a1_0) (.int .u64 a1_1) (.int .u64 a1_2) (.int .u64 a1_3) (.int .u64 a1_4) (.slice A1_5 l1_5.length c1_5)) := hS_
       obtain ⟨Ao43, co43, eo43⟩ := Kd.R_slice HO974.out
       (first | subst eo43 | (injection eo43 with f1_ f2_ f3_; have f4_ := f1_.symm; have f5_ := f3_.symm; clear f1_ f2_ f3_; subst f4_; subst f5_))
       obtain ⟨Ao44, co44, eo44⟩ := Kd.R_slice HO977.out
       (first | subst eo44 | (injection eo44 with f1_ f2_ f3_; have f4_ := f1_.symm; have f5_ := f3_.symm; clear f1_ f2_ f3_; subst f4_; subst f5_))
       refine norm_ (a' := ?_) ?_ ?_
       rotate_left
       ·simp only [putAll, Act.put, List.setIfInBounds_toArray, List.set_cons_zero, List.set_cons_succ]
        rfl
       refine oneP_ 8 (some 40) (b_ 15 4607) HT (fun K hK => ?_)
       refine goN_ Try.func19 #[.agg #[.int .i64 t962, .int .u64 t963, .int .u64 t964, .int .u64 t965, .int .u64 t966], .agg #[.int .i64 t967, .int .u64 t968, .int .u64 t969, .int .u64 t970, .int .u64 t971, .slice Ao43 t972.length co43], .int .i64 a2, .string a3, .slice Ao44 t975.length co44] ?_
       with_reducible refine (spec_ClashOfGrowth.calls k t962 t963 t964 t965 t966 t967 t968 t969 t970 t971 _ _ t972 a2 a3 _ _ t975 t978 t979 t980 _ ?side1 ?side2 ?side3 ?side4 A26.out).mono ?_
       (case side1 => exact cU_ (Kd.R_reads' HO974.out).2.2)
       (case side2 => exact (Kd.R_reads' HO974.out).2.1)
       (case side3 => exact cU_ (Kd.R_reads' HO977.out).2.2)
       (case side4 => exact (Kd.R_reads' HO977.out).2.1)
       rintro e w45 ⟨rfl, hb⟩
       refine ⟨_, rfl, ?_⟩
       replace HO974 := rb_ HO974.out hb
       replace HO977 := rb_ HO977.out hb
       replace BK958 := bb_ BK958.out hb
       replace BK959 := bb_ BK959.out hb
       replace BK981 := bb_ BK981.out hb
       replace HB := stepB_ hb
       (try clear hb); (try clear hk)
       refine hK.out _ _ (hcc5_ BK958.out (hc6_ BK959.out)) (fun hHeld => ?_)
       clear hK K
       refine normP_ (some 40) ?_
       refine pP_ 9 (some 31) (b_ 15 5119) HT ?_
       refine pP_ 10 (some 41) (b_ 15 6143) HT ?_
       refine pP_ 11 (some 42) (b_ 15 8191) HT ?_
       exact jn_ (hJ1_3_7_8_12 (.slice Ao43 t972.length co43, .slice Ao44 t975.length co44, gb981) _ ⟨hHeld, (kdU_ HO974.out), (kdU_ HO977.out), (blkU_ BK958.out), (blkU_ BK959.out), (blkU_ BK981.out), GW981.out, GE981.out, NB958_981.out, NB981_958.out, NB959_981.out, NB981_959.out, bel_⟩)
     ·skip
      rintro ⟨v973, v976⟩ w44 ⟨hS_, h0_, h1_, h2_, h3_, h4_⟩
      have n0_ : Aside0 (Kd.R k29 29 w44 w.heap.size (fun k_ => some k_ ≠ (v976 : Value).ownBlock) v973 t972) := ⟨h0_⟩
      have n1_ : Aside0 (Kd.R k29 29 w44 w.heap.size (fun k_ => some k_ ≠ (v973 : Value).ownBlock) v976 t975) := ⟨h1_⟩
      have n2_ : Aside0 (w44.heap[gb958]? = some (.cells #[.int .i64 a0_0, .int .u64 a0_1, .int .u64 a0_2, .int .u64 a0_3, .int .u64 a0_4] 26 (0, 0))) := ⟨h2_⟩
      have n3_ : Aside0 (w44.heap[gb959]? = some (.cells #[.int .i64 a1_0, .int .u64 a1_1, .int .u64 a1_2, .int .u64 a1_3, .int .u64 a1_4, .slice A1_5 l1_5.length c1_5] 42 (0, 0))) := ⟨h3_⟩
      have n4_ : Aside0 (Below w.heap.size w w44) := ⟨h4_⟩
      clear BK958
      clear BK959
      clear HB
      clear h0_ h1_ h2_ h3_ h4_
      have HO974 := n0_
      have HO977 := n1_
      have BK958 := n2_
      have BK959 := n3_
      have HB := n4_
      clear n0_ n1_ n2_ n3_ n4_
      have hHeld : hdc5_ w44 gb958 (.int .i64 a0_0) (.int .u64 a0_1) (.int .u64 a0_2) (.int .u64 a0_3) (.int .u64 a0_4) (hd6_ w44 gb959 (.int .i64 a1_0) (.int .u64 a1_1) (.int .u64 a1_2) (.int .u64 a1_3) (.int .u64 a1_4) (.slice A1_5 l1_5.length c1_5)) := hS_
      refine norm_ (a' := ?_) ?_ ?_
      rotate_left
      ·simp only [putAll, Act.put, List.setIfInBounds_toArray, List.set_cons_zero, List.set_cons_succ]
       rfl
      refine oneP_ 12 (some 12) (b_ 15 8191) HT (fun K hK => ?_)
      refine box_step ?hg (N := 12) ?hd (cs := #[.string (⟨#[]⟩ : ByteArray), .string (⟨#[]⟩ : ByteArray)]) (t := 46) ?hr ?_; (case hd => rfl); (case hg => rfl); (case hr => first | (go_simp; done) | (go_simp; rfl))
      intro gb981 hg w45 hbox hb
      replace HO974 := rb_ HO974.out hb
      replace HO977 := rb_ HO977.out hb
      have BK981 := a_ (hbox)
      have GW981 := sizeB_ hg
      have GE981 := sizeB_ hg
      replace HB := stepB_ hb
      obtain ⟨NB958_981, NB981_958⟩ := ne2_ BK958.out hg
      replace BK958 := bb_ BK958.out hb
      obtain ⟨NB959_981, NB981_959⟩ := ne2_ BK959.out hg
      replace BK959 := bb_ BK959.out hb
      clear hb hbox hg
      refine hK.out _ _ (hcc5_ BK958.out (hc6_ BK959.out)) (fun hHeld => ?_)
      clear hK K
      refine normP_ (some 12) ?_
      exact jn_ (hJ1_3_7_8_12 (v973, v976, gb981) _ ⟨hHeld, (kdU_ HO974.out), (kdU_ HO977.out), (blkU_ BK958.out), (blkU_ BK959.out), (blkU_ BK981.out), GW981.out, GE981.out, NB958_981.out, NB981_958.out, NB959_981.out, NB981_959.out, bel_⟩)
    rintro ⟨v973, v976, gb981⟩ w45 ⟨hS_, h0_, h1_, h2_, h3_, h4_, h5_, h6_, h7_, h8_, h9_, h10_, h11_⟩
    have n0_ : Aside0 (Kd.R k29 29 w45 w.heap.size (fun k_ => some k_ ≠ (v976 : Value).ownBlock) v973 t972) := ⟨h0_⟩
    have n1_ : Aside0 (Kd.R k29 29 w45 w.heap.size (fun k_ => some k_ ≠ (v973 : Value).ownBlock) v976 t975) := ⟨h1_⟩
    have n2_ : Aside0 (w45.heap[gb958]? = some (.cells #[.int .i64 a0_0, .int .u64 a0_1, .int .u64 a0_2, .int .u64 a0_3, .int .u64 a0_4] 26 (0, 0))) := ⟨h2_⟩
    have n3_ : Aside0 (w45.heap[gb959]? = some (.cells #[.int .i64 a1_0, .int .u64 a1_1, .int .u64 a1_2, .int .u64 a1_3, .int .u64 a1_4, .slice A1_5 l1_5.length c1_5] 42 (0, 0))) := ⟨h3_⟩
    have n4_ : Aside0 (w45.heap[gb981]? = some (.cells #[.string (⟨#[]⟩ : ByteArray), .string (⟨#[]⟩ : ByteArray)] 46 (0, 0))) := ⟨h4_⟩
    have n5_ : Aside0 (w.heap.size ≤ gb981) := ⟨h5_⟩
    have n6_ : Aside0 (w.heap.size ≤ gb981) := ⟨h6_⟩
    have n7_ : Aside0 (gb958 ≠ gb981) := ⟨h7_⟩
    have n8_ : Aside0 (gb981 ≠ gb958) := ⟨h8_⟩
    have n9_ : Aside0 (gb959 ≠ gb981) := ⟨h9_⟩
    have n10_ : Aside0 (gb981 ≠ gb959) := ⟨h10_⟩
    have n11_ : Aside0 (Below w.heap.size w w45) := ⟨h11_⟩
    clear BK958
    clear BK959
    clear HB
    clear h0_ h1_ h2_ h3_ h4_ h5_ h6_ h7_ h8_ h9_ h10_ h11_
    have HO974 := n0_
    have HO977 := n1_
    have BK958 := n2_
    have BK959 := n3_
    have BK981 := n4_
    have GW981 := n5_
    have GE981 := n6_
    have NB958_981 := n7_
    have NB981_958 := n8_
    have NB959_981 := n9_
    have NB981_959 := n10_
    have HB := n11_
    clear n0_ n1_ n2_ n3_ n4_ n5_ n6_ n7_ n8_ n9_ n10_ n11_
    have hHeld : hdc5_ w45 gb958 (.int .i64 a0_0) (.int .u64 a0_1) (.int .u64 a0_2) (.int .u64 a0_3) (.int .u64 a0_4) (hd6_ w45 gb959 (.int .i64 a1_0) (.int .u64 a1_1) (.int .u64 a1_2) (.int .u64 a1_3) (.int .u64 a1_4) (.slice A1_5 l1_5.length c1_5)) := hS_
    refine norm_ (a' := ?_) ?_ ?_
    rotate_left
    ·simp only [putAll, Act.put, List.setIfInBounds_toArray, List.set_cons_zero, List.set_cons_succ]
     rfl
    refine oneP_ 13 none (b_ 15 16383) HT (fun K hK => ?_)
    have hs46 : w45.cell? ⟨gb981, 0, none⟩ = some (.string (⟨#[]⟩ : ByteArray)) := (blk_cell BK981.out 0).trans rfl
    have hfs46 := blk_frozen BK981.out 0
    have hns46_0 := NB958_981.out
    have hns46_1 := NB959_981.out
    have hms46_0 := NB981_958.out
    have hms46_1 := NB981_959.out
    have hs47 : w45.cell? ⟨gb981, 1, none⟩ = some (.string (⟨#[]⟩ : ByteArray)) := (blk_cell BK981.out 1).trans rfl
    have hfs47 := blk_frozen BK981.out 1
    have hns47_0 := NB958_981.out
    have hns47_1 := NB959_981.out
    have hms47_0 := NB981_958.out
    have hms47_1 := NB981_959.out
    refine skip_ (w1 := ?_) (by rfl) rfl ?_ ?_
    rotate_left
    ·go_simp
     rfl
    refine hK.out _ _ ⟨(cf2_ NB958_981.out hHeld.1), (cf2_ NB958_981.out hHeld.2.1), (cf2_ NB958_981.out hHeld.2.2.1), (cf2_ NB958_981.out hHeld.2.2.2.1), (cf2_ NB958_981.out hHeld.2.2.2.2.1), (cf2_ NB959_981.out hHeld.2.2.2.2.2.1), (cf2_ NB959_981.out hHeld.2.2.2.2.2.2.1), (cf2_ NB959_981.out hHeld.2.2.2.2.2.2.2.1), (cf2_ NB959_981.out hHeld.2.2.2.2.2.2.2.2.1), (cf2_ NB959_981.out hHeld.2.2.2.2.2.2.2.2.2.1), (cf2_ NB959_981.out hHeld.2.2.2.2.2.2.2.2.2.2)⟩ (fun hHeld => ?_)
    clear hK K
    refine pP_ 14 (some 13) (b_ 15 32767) HT ?_
    refine done_ (done_of HT.out (by kernel_rfl)) ?_
    have hnb48 := NB959_981.out
    have hnc48 := NB981_959.out
    obtain ⟨z49_0, z49_1, z49_2, z49_3, z49_4, z49_5, f49_0, f49_1, f49_2, f49_3, f49_4, f49_5⟩ := cz6_ BK959.out
    try go_wp2_with (first | (refine gcL_ 20 (some 44) Try.func20 #[.agg #[.int .i64 a1_0, .int .u64 a1_1, .int .u64 a1_2, .int .u64 a1_3, .int .u64 a1_4, .slice A1_5 l1_5.length c1_5]] ?_; (with_reducible refine (laws_toGrowth.calls k a1_0 a1_1 a1_2 a1_3 a1_4 _ _ l1_5 t982 t983 t984 t985 t986 t987 _ ?side1 ?side2 A27.out).mono ?_); (case side1 => exact Kd.C_below HR1_5.out bel_); (case side2 => exact HC1_5.out); rintro e w50 ⟨v988, rfl, ho0, hb⟩; refine ⟨_, rfl, ?_⟩; have HO989 := a_ (Kd.R_lower (Kd.R_new' (Kd.R_new' ho0 (Kd.R_lt (by (with_reducible repeat (first | apply Kd.R_alloc | apply Kd.R_drewN | apply Kd.R_drew)); exact (Kd.R_mono (Kd.R_far (p := ⟨gb981, 1, none⟩) (Kd.R_far (p := ⟨gb981, 0, none⟩) (Kd.R_types HO974.out BK981.out (by decide)) (fun _ hk => hk.2) (.string t978)) (fun _ hk => hk.2) (.string t979)) (fun _ h_ => h_.1))))) (Kd.R_lt (by (with_reducible repeat (first | apply Kd.R_alloc | apply Kd.R_drewN | apply Kd.R_drew)); exact (Kd.R_mono (Kd.R_far (p := ⟨gb981, 1, none⟩) (Kd.R_far (p := ⟨gb981, 0, none⟩) (Kd.R_types HO977.out BK981.out (by decide)) (fun _ hk => hk.2) (.string t978)) (fun _ hk => hk.2) (.string t979)) (fun _ h_ => h_.1))))) (below_size bel_)); replace HO974 := a_ (Kd.R_elder' (by (with_reducible repeat (first | apply Kd.R_alloc | apply Kd.R_drewN | apply Kd.R_drew)); exact (Kd.R_mono (Kd.R_far (p := ⟨gb981, 1, none⟩) (Kd.R_far (p := ⟨gb981, 0, none⟩) (Kd.R_types HO974.out BK981.out (by decide)) (fun _ hk => hk.2) (.string t978)) (fun _ hk => hk.2) (.string t979)) (fun _ h_ => h_.1))) (Kd.R_base ho0) hb); replace HO977 := a_ (Kd.R_elder' (by (with_reducible repeat (first | apply Kd.R_alloc | apply Kd.R_drewN | apply Kd.R_drew)); exact (Kd.R_mono (Kd.R_far (p := ⟨gb981, 1, none⟩) (Kd.R_far (p := ⟨gb981, 0, none⟩) (Kd.R_types HO977.out BK981.out (by decide)) (fun _ hk => hk.2) (.string t978)) (fun _ hk => hk.2) (.string t979)) (fun _ h_ => h_.1))) (Kd.R_base ho0) hb); replace BK958 := bb_ BK958.out hb; replace BK959 := bb_ BK959.out hb; replace BK981 := blkPB_ (cs := #[.string t978, .string t979]) BK981.out hb; replace HB := stepB_ hb; (try clear hb); (try clear hk); (try clear ho0)) | ((with_reducible refine gate_dst (N := 14) rfl ?_); refine boxE_ (cs := #[.int .i64 0, .int .u64 0, .int .u64 0, .int .u64 0, .int .u64 0, .slice none 0 0]) (t := 51) ?_; intro gb990 hg w51 hbox hb; replace HO974 := rb_ HO974.out hb; replace HO977 := rb_ HO977.out hb; replace HO989 := rb_ HO989.out hb; have BK990 := a_ (hbox); have GW990 := sizeB_ hg; replace HB := stepB_ hb; obtain ⟨NB958_990, NB990_958⟩ := ne2_ BK958.out hg; replace BK958 := bb_ BK958.out hb; obtain ⟨NB959_990, NB990_959⟩ := ne2_ BK959.out hg; replace BK959 := bb_ BK959.out hb; obtain ⟨NB981_990, NB990_981⟩ := ne2_ BK981.out hg; replace BK981 := bb_ BK981.out hb; clear hb hbox hg; have hnb52 := NB990_958.out; have hnc52 := NB958_990.out; have hnb53 := NB990_959.out; have hnc53 := NB959_990.out; have hnb54 := NB990_981.out; have hnc54 := NB981_990.out; obtain ⟨z55_0, z55_1, z55_2, z55_3, z55_4, z55_5, f55_0, f55_1, f55_2, f55_3, f55_4, f55_5⟩ := cz6_ BK990.out; obtain ⟨Ao56, co56, eo56⟩ := Kd.R_slice HO989.out; subst eo56) | (refine gcL_ 21 (some 46) Try.func21 #[.slice A4 l4.length c4] ?_; (with_reducible refine (laws_toDigestS.calls k _ _ l4 t991 _ ?side1 ?side2 A28.out).mono ?_); (case side1 => exact Kd.C_below HR4.out bel_); (case side2 => exact HC4.out); rintro e w57 ⟨v992, rfl, ho0, hb⟩; refine ⟨_, rfl, ?_⟩; have HO993 := a_ (Kd.R_lower (Kd.R_new' (Kd.R_new' (Kd.R_new' ho0 (Kd.R_lt (by (with_reducible repeat (first | apply Kd.R_alloc | apply Kd.R_drewN | apply Kd.R_drew)); exact (Kd.R_mono (Kd.R_far (p := ⟨gb990, 5, none⟩) (Kd.R_far (p := ⟨gb990, 4, none⟩) (Kd.R_far (p := ⟨gb990, 3, none⟩) (Kd.R_far (p := ⟨gb990, 2, none⟩) (Kd.R_far (p := ⟨gb990, 1, none⟩) (Kd.R_far (p := ⟨gb990, 0, none⟩) (Kd.R_types HO974.out BK990.out (by decide)) (fun _ hk => hk.2) (.int .i64 t982)) (fun _ hk => hk.2) (.int .u64 t983)) (fun _ hk => hk.2) (.int .u64 t984)) (fun _ hk => hk.2) (.int .u64 t985)) (fun _ hk => hk.2) (.int .u64 t986)) (fun _ hk => hk.2) (.slice Ao56 t987.length co56)) (fun _ h_ => h_.1))))) (Kd.R_lt (by (with_reducible repeat (first | apply Kd.R_alloc | apply Kd.R_drewN | apply Kd.R_drew)); exact (Kd.R_mono (Kd.R_far (p := ⟨gb990, 5, none⟩) (Kd.R_far (p := ⟨gb990, 4, none⟩) (Kd.R_far (p := ⟨gb990, 3, none⟩) (Kd.R_far (p := ⟨gb990, 2, none⟩) (Kd.R_far (p := ⟨gb990, 1, none⟩) (Kd.R_far (p := ⟨gb990, 0, none⟩) (Kd.R_types HO977.out BK990.out (by decide)) (fun _ hk => hk.2) (.int .i64 t982)) (fun _ hk => hk.2) (.int .u64 t983)) (fun _ hk => hk.2) (.int .u64 t984)) (fun _ hk => hk.2) (.int .u64 t985)) (fun _ hk => hk.2) (.int .u64 t986)) (fun _ hk => hk.2) (.slice Ao56 t987.length co56)) (fun _ h_ => h_.1))))) (Kd.R_lt (by (with_reducible repeat (first | apply Kd.R_alloc | apply Kd.R_drewN | apply Kd.R_drew)); exact (Kd.R_mono (Kd.R_far (p := ⟨gb990, 5, none⟩) (Kd.R_far (p := ⟨gb990, 4, none⟩) (Kd.R_far (p := ⟨gb990, 3, none⟩) (Kd.R_far (p := ⟨gb990, 2, none⟩) (Kd.R_far (p := ⟨gb990, 1, none⟩) (Kd.R_far (p := ⟨gb990, 0, none⟩) (Kd.R_types HO989.out BK990.out (by decide)) (fun _ hk => hk.2) (.int .i64 t982)) (fun _ hk => hk.2) (.int .u64 t983)) (fun _ hk => hk.2) (.int .u64 t984)) (fun _ hk => hk.2) (.int .u64 t985)) (fun _ hk => hk.2) (.int .u64 t986)) (fun _ hk => hk.2) (.slice Ao56 t987.length co56)) (fun _ h_ => h_.1))))) (below_size bel_)); replace HO974 := a_ (Kd.R_elder' (by (with_reducible repeat (first | apply Kd.R_alloc | apply Kd.R_drewN | apply Kd.R_drew)); exact (Kd.R_mono (Kd.R_far (p := ⟨gb990, 5, none⟩) (Kd.R_far (p := ⟨gb990, 4, none⟩) (Kd.R_far (p := ⟨gb990, 3, none⟩) (Kd.R_far (p := ⟨gb990, 2, none⟩) (Kd.R_far (p := ⟨gb990, 1, none⟩) (Kd.R_far (p := ⟨gb990, 0, none⟩) (Kd.R_types HO974.out BK990.out (by decide)) (fun _ hk => hk.2) (.int .i64 t982)) (fun _ hk => hk.2) (.int .u64 t983)) (fun _ hk => hk.2) (.int .u64 t984)) (fun _ hk => hk.2) (.int .u64 t985)) (fun _ hk => hk.2) (.int .u64 t986)) (fun _ hk => hk.2) (.slice Ao56 t987.length co56)) (fun _ h_ => h_.1))) (Kd.R_base ho0) hb); replace HO977 := a_ (Kd.R_elder' (by (with_reducible repeat (first | apply Kd.R_alloc | apply Kd.R_drewN | apply Kd.R_drew)); exact (Kd.R_mono (Kd.R_far (p := ⟨gb990, 5, none⟩) (Kd.R_far (p := ⟨gb990, 4, none⟩) (Kd.R_far (p := ⟨gb990, 3, none⟩) (Kd.R_far (p := ⟨gb990, 2, none⟩) (Kd.R_far (p := ⟨gb990, 1, none⟩) (Kd.R_far (p := ⟨gb990, 0, none⟩) (Kd.R_types HO977.out BK990.out (by decide)) (fun _ hk => hk.2) (.int .i64 t982)) (fun _ hk => hk.2) (.int .u64 t983)) (fun _ hk => hk.2) (.int .u64 t984)) (fun _ hk => hk.2) (.int .u64 t985)) (fun _ hk => hk.2) (.int .u64 t986)) (fun _ hk => hk.2) (.slice Ao56 t987.length co56)) (fun _ h_ => h_.1))) (Kd.R_base ho0) hb); replace HO989 := a_ (Kd.R_elder' (by (with_reducible repeat (first | apply Kd.R_alloc | apply Kd.R_drewN | apply Kd.R_drew)); exact (Kd.R_mono (Kd.R_far (p := ⟨gb990, 5, none⟩) (Kd.R_far (p := ⟨gb990, 4, none⟩) (Kd.R_far (p := ⟨gb990, 3, none⟩) (Kd.R_far (p := ⟨gb990, 2, none⟩) (Kd.R_far (p := ⟨gb990, 1, none⟩) (Kd.R_far (p := ⟨gb990, 0, none⟩) (Kd.R_types HO989.out BK990.out (by decide)) (fun _ hk => hk.2) (.int .i64 t982)) (fun _ hk => hk.2) (.int .u64 t983)) (fun _ hk => hk.2) (.int .u64 t984)) (fun _ hk => hk.2) (.int .u64 t985)) (fun _ hk => hk.2) (.int .u64 t986)) (fun _ hk => hk.2) (.slice Ao56 t987.length co56)) (fun _ h_ => h_.1))) (Kd.R_base ho0) hb); replace BK958 := bb_ BK958.out hb; replace BK959 := bb_ BK959.out hb; replace BK981 := bb_ BK981.out hb; replace BK990 := blkPB_ (cs := #[.int .i64 t982, .int .u64 t983, .int .u64 t984, .int .u64 t985, .int .u64 t986, .slice Ao56 t987.length co56]) BK990.out hb; replace HB := stepB_ hb; (try clear hb); (try clear hk); (try clear ho0); obtain ⟨Ao58, co58, eo58⟩ := Kd.R_slice HO993.out; subst eo58))
    replace HO974 := a_ (Kd.R_drew HO974.out)
    replace HO977 := a_ (Kd.R_drew HO977.out)
    replace HO989 := a_ (Kd.R_drew HO989.out)
    replace HO993 := a_ (Kd.R_drew HO993.out)
    replace BK958 := a_ (blk_drew BK958.out)
    replace BK959 := a_ (blk_drew BK959.out)
    replace BK981 := a_ (blk_drew BK981.out)
    replace BK990 := a_ (blk_drew BK990.out)
    replace HB := a_ (below_drew1 HB.out)
    refine start_ (n := 13) (S := fun w' => hdc5_ w' gb958 (.int .i64 a0_0) (.int .u64 a0_1) (.int .u64 a0_2) (.int .u64 a0_3) (.int .u64 a0_4) (hd6_ w' gb990 (.int .i64 t982) (.int .u64 t983) (.int .u64 t984) (.int .u64 t985) (.int .u64 t986) (.slice Ao56 t987.length co56))) (ds := []) #[false, false, false, false, false, false, false, false, false, false, false, false, false] (by kernel_rfl) rfl rfl (hcc5_ BK958.out (hc6_ BK990.out)) (fun hHeld => ?_); refine with_tabW laws_FnExactClashOfGrowth.tab13 laws_FnExactClashOfGrowth.bits13 (fun HT HW_ => ?_)
    generalize w57.drew = w59 at HO974 HO977 HO989 HO993 BK958 BK959 BK981 BK990 HB hHeld ⊢
    refine pP_ 3 (some 51) (b_ 13 8) HT ?_
    refine pP_ 4 (some 52) (b_ 13 24) HT ?_
    refine pP_ 5 (some 53) (b_ 13 56) HT ?_
    refine takeP_ 0 (some 48) (b_ 13 57) HT HW_ hHeld ?_
    refine takeP_ 2 (some 50) (b_ 13 61) HT HW_ hHeld ?_
    refine join_ (σ := Nat) 2 (b_ 13 2047) (fun s_ => [(49, .agg #[.int .i64 t994, .int .u64 t995, .int .u64 t996, .int .u64 t997, .int .u64 t998]), (54, .tuple #[.agg #[.string t999, .string t1000], .bool t1001]), (16, .pointer (some ⟨s_, 0, none⟩)), (47, .tuple #[.agg #[.string t999, .string t1000], .bool t1001]), (55, .agg #[.string t999, .string t1000]), (56, .bool t1001)]) (fun s_ w' => (hdc5_ w' gb958 (.int .i64 a0_0) (.int .u64 a0_1) (.int .u64 a0_2) (.int .u64 a0_3) (.int .u64 a0_4) (hd6_ w' gb990 (.int .i64 t982) (.int .u64 t983) (.int .u64 t984) (.int .u64 t985) (.int .u64 t986) (.slice Ao56 t987.length co56))) ∧ (Kd.R k29 29 w' w.heap.size (fun k_ => some k_ ≠ (v976 : Value).ownBlock ∧ some k_ ≠ (.slice Ao56 t987.length co56 : Value).ownBlock ∧ some k_ ≠ (.slice Ao58 t991.length co58 : Value).ownBlock) v973 t972) ∧ (Kd.R k29 29 w' w.heap.size (fun k_ => some k_ ≠ (v973 : Value).ownBlock ∧ some k_ ≠ (.slice Ao56 t987.length co56 : Value).ownBlock ∧ some k_ ≠ (.slice Ao58 t991.length co58 : Value).ownBlock) v976 t975) ∧ (Kd.R k29 29 w' w.heap.size (fun k_ => some k_ ≠ (v973 : Value).ownBlock ∧ some k_ ≠ (v976 : Value).ownBlock ∧ some k_ ≠ (.slice Ao58 t991.length co58 : Value).ownBlock) (.slice Ao56 t987.length co56) t987) ∧ (Kd.R k29 29 w' w.heap.size (fun k_ => some k_ ≠ (v973 : Value).ownBlock ∧ some k_ ≠ (v976 : Value).ownBlock ∧ some k_ ≠ (.slice Ao56 t987.length co56 : Value).ownBlock) (.slice Ao58 t991.length co58) t991) ∧ (w'.heap[s_]? = some (.cells #[.string (⟨#[]⟩ : ByteArray), .string (⟨#[]⟩ : ByteArray)] 46 (0, 0))) ∧ (w'.heap[gb958]? = some (.cells #[.int .i64 a0_0, .int .u64 a0_1, .int .u64 a0_2, .int .u64 a0_3, .int .u64 a0_4] 26 (0, 0))) ∧ (w'.heap[gb959]? = some (.cells #[.int .i64 a1_0, .int .u64 a1_1, .int .u64 a1_2, .int .u64 a1_3, .int .u64 a1_4, .slice A1_5 l1_5.length c1_5] 42 (0, 0))) ∧ (w'.heap[gb981]? = some (.cells #[.string t978, .string t979] 46 (0, 0))) ∧ (w'.heap[gb990]? = some (.cells #[.int .i64 t982, .int .u64 t983, .int .u64 t984, .int .u64 t985, .int .u64 t986, .slice Ao56 t987.length co56] 51 (0, 0))) ∧ (w.heap.size ≤ s_) ∧ (w.heap.size ≤ s_) ∧ (gb958 ≠ s_) ∧ (s_ ≠ gb958) ∧ (gb959 ≠ s_) ∧ (s_ ≠ gb959) ∧ (gb981 ≠ s_) ∧ (s_ ≠ gb981) ∧ (gb990 ≠ s_) ∧ (s_ ≠ gb990) ∧ (Below w.heap.size w w')) ?_ ?_
    rotate_left
    ·intro hCont
     refine two_ (i := 1) (j := 10) (Ni := some 49) (Nj := some 16) (b_ 13 63) (b_ 13 1085) rfl rfl rfl rfl (two_of HT.out (by kernel_rfl)) (by decide) (by decide) (fun K hK => ?_) (fun K hK => ?_)
     ·skip
      refine goN_ Try.func12 #[.agg #[.int .i64 a0_0, .int .u64 a0_1, .int .u64 a0_2, .int .u64 a0_3, .int .u64 a0_4]] ?_
      with_reducible refine (laws_toPoint.calls a0_0 a0_1 a0_2 a0_3 a0_4 t994 t995 t996 t997 t998 _ A29.out).mono ?_
      rintro e w60 ⟨rfl, hb⟩
      refine ⟨_, rfl, ?_⟩
      replace HO974 := rb_ HO974.out hb
      replace HO977 := rb_ HO977.out hb
      replace HO989 := rb_ HO989.out hb
      replace HO993 := rb_ HO993.out hb
      replace BK958 := bb_ BK958.out hb
      replace BK959 := bb_ BK959.out hb
      replace BK981 := bb_ BK981.out hb
      replace BK990 := bb_ BK990.out hb
      replace HB := stepB_ hb
      (try clear hb); (try clear hk)
      refine hK.out _ _ (hcc5_ BK958.out (hc6_ BK990.out)) (fun hHeld => ?_)
      clear hK K
      refine normP_ (some 49) ?_
      refine two_ (i := 6) (j := 10) (Ni := some 54) (Nj := some 16) (b_ 13 127) (b_ 13 1087) rfl rfl rfl rfl (two_of HT.out (by kernel_rfl)) (by decide) (by decide) (fun K hK => ?_) (fun K hK => ?_)
      ·skip
       refine goN_ Try.func22 #[.agg #[.int .i64 t994, .int .u64 t995, .int .u64 t996, .int .u64 t997, .int .u64 t998], .agg #[.int .i64 t982, .int .u64 t983, .int .u64 t984, .int .u64 t985, .int .u64 t986, .slice Ao56 t987.length co56], .int .i64 a2, .string a3, .slice Ao58 t991.length co58] ?_
       with_reducible refine (impl_ClashOfGrowth.calls k t994 t995 t996 t997 t998 t982 t983 t984 t985 t986 _ _ t987 a2 a3 _ _ t991 t999 t1000 t1001 _ ?side1 ?side2 ?side3 ?side4 A30.out).mono ?_
       (case side1 => exact cU_ (Kd.R_reads' HO989.out).2.2)
       (case side2 => exact (Kd.R_reads' HO989.out).2.1)
       (case side3 => exact cU_ (Kd.R_reads' HO993.out).2.2)
       (case side4 => exact (Kd.R_reads' HO993.out).2.1)
       rintro e w61 ⟨rfl, hb⟩
       refine ⟨_, rfl, ?_⟩
       replace HO974 := rb_ HO974.out hb
       replace HO977 := rb_ HO977.out hb
       replace HO989 := rb_ HO989.out hb
       replace HO993 := rb_ HO993.out hb
       replace BK958 := bb_ BK958.out hb
       replace BK959 := bb_ BK959.out hb
       replace BK981 := bb_ BK981.out hb
       replace BK990 := bb_ BK990.out hb
       replace HB := stepB_ hb
       (try clear hb); (try clear hk)
       refine hK.out _ _ (hcc5_ BK958.out (hc6_ BK990.out)) (fun hHeld => ?_)
       clear hK K
       refine normP_ (some 54) ?_
       refine pP_ 7 (some 47) (b_ 13 255) HT ?_
       refine pP_ 8 (some 55) (b_ 13 511) HT ?_
       refine pP_ 9 (some 56) (b_ 13 1023) HT ?_
       refine oneP_ 10 (some 16) (b_ 13 2047) HT (fun K hK => ?_)
       refine box_step ?hg (N := 16) ?hd (cs := #[.string (⟨#[]⟩ : ByteArray), .string (⟨#[]⟩ : ByteArray)]) (t := 46) ?hr ?_; (case hd => rfl); (case hg => rfl); (case hr => first | (go_simp; done) | (go_simp; rfl))
       intro gb1002 hg w62 hbox hb
       replace HO974 := rb_ HO974.out hb
       replace HO977 := rb_ HO977.out hb
       replace HO989 := rb_ HO989.out hb
       replace HO993 := rb_ HO993.out hb
       have BK1002 := a_ (hbox)
       have GW1002 := sizeB_ hg
       have GE1002 := sizeB_ hg
       replace HB := stepB_ hb
       obtain ⟨NB958_1002, NB1002_958⟩ := ne2_ BK958.out hg
       replace BK958 := bb_ BK958.out hb
       obtain ⟨NB959_1002, NB1002_959⟩ := ne2_ BK959.out hg
       replace BK959 := bb_ BK959.out hb
       obtain ⟨NB981_1002, NB1002_981⟩ := ne2_ BK981.out hg
       replace BK981 := bb_ BK981.out hb
       obtain ⟨NB990_1002, NB1002_990⟩ := ne2_ BK990.out hg
       replace BK990 := bb_ BK990.out hb
       clear hb hbox hg
       refine hK.out _ _ (hcc5_ BK958.out (hc6_ BK990.out)) (fun hHeld => ?_)
       clear hK K
       refine normP_ (some 16) ?_
       exact norm_ (by simp only [putAll, Act.put, List.setIfInBounds_toArray, List.set_cons_zero, List.set_cons_succ]) (hCont (gb1002) _ ⟨hHeld, (by (with_reducible repeat (first | apply Kd.R_alloc | apply Kd.R_drewN | apply Kd.R_drew)); exact Kd.R_mono HO974.out (fun _ hk => ⟨hk.1.1, ⟨hk.1.2, hk.2⟩⟩)), (by (with_reducible repeat (first | apply Kd.R_alloc | apply Kd.R_drewN | apply Kd.R_drew)); exact Kd.R_mono HO977.out (fun _ hk => ⟨hk.1.1, ⟨hk.1.2, hk.2⟩⟩)), (by (with_reducible repeat (first | apply Kd.R_alloc | apply Kd.R_drewN | apply Kd.R_drew)); exact Kd.R_mono HO989.out (fun _ hk => ⟨hk.1.1.2, ⟨hk.1.2, hk.2⟩⟩)), (by (with_reducible repeat (first | apply Kd.R_alloc | apply Kd.R_drewN | apply Kd.R_drew)); exact Kd.R_mono HO993.out (fun _ hk => ⟨hk.1.1.2, ⟨hk.1.2, hk.2⟩⟩)), (blkU_ BK1002.out), (blkU_ BK958.out), (blkU_ BK959.out), (blkU_ BK981.out), (blkU_ BK990.out), GW1002.out, GE1002.out, NB958_1002.out, NB1002_958.out, NB959_1002.out, NB1002_959.out, NB981_1002.out, NB1002_981.out, NB990_1002.out, NB1002_990.out, bel_⟩)
      ·skip
       refine box_step ?hg (N := 16) ?hd (cs := #[.string (⟨#[]⟩ : ByteArray), .string (⟨#[]⟩ : ByteArray)]) (t := 46) ?hr ?_; (case hd => rfl); (case hg => rfl); (case hr => first | (go_simp; done) | (go_simp; rfl))
       intro gb1002 hg w61 hbox hb
       replace HO974 := rb_ HO974.out hb
       replace HO977 := rb_ HO977.out hb
       replace HO989 := rb_ HO989.out hb
       replace HO993 := rb_ HO993.out hb
       have BK1002 := a_ (hbox)
       have GW1002 := sizeB_ hg
       have GE1002 := sizeB_ hg
       replace HB := stepB_ hb
       obtain ⟨NB958_1002, NB1002_958⟩ := ne2_ BK958.out hg
       replace BK958 := bb_ BK958.out hb
       obtain ⟨NB959_1002, NB1002_959⟩ := ne2_ BK959.out hg
       replace BK959 := bb_ BK959.out hb
       obtain ⟨NB981_1002, NB1002_981⟩ := ne2_ BK981.out hg
       replace BK981 := bb_ BK981.out hb
       obtain ⟨NB990_1002, NB1002_990⟩ := ne2_ BK990.out hg
       replace BK990 := bb_ BK990.out hb
       clear hb hbox hg
       refine hK.out _ _ (hcc5_ BK958.out (hc6_ BK990.out)) (fun hHeld => ?_)
       clear hK K
       refine normP_ (some 16) ?_
       refine oneP_ 6 (some 54) (b_ 13 1151) HT (fun K hK => ?_)
       refine goN_ Try.func22 #[.agg #[.int .i64 t994, .int .u64 t995, .int .u64 t996, .int .u64 t997, .int .u64 t998], .agg #[.int .i64 t982, .int .u64 t983, .int .u64 t984, .int .u64 t985, .int .u64 t986, .slice Ao56 t987.length co56], .int .i64 a2, .string a3, .slice Ao58 t991.length co58] ?_
       with_reducible refine (impl_ClashOfGrowth.calls k t994 t995 t996 t997 t998 t982 t983 t984 t985 t986 _ _ t987 a2 a3 _ _ t991 t999 t1000 t1001 _ ?side1 ?side2 ?side3 ?side4 A30.out).mono ?_
       (case side1 => exact cU_ (Kd.R_reads' HO989.out).2.2)
       (case side2 => exact (Kd.R_reads' HO989.out).2.1)
       (case side3 => exact cU_ (Kd.R_reads' HO993.out).2.2)
       (case side4 => exact (Kd.R_reads' HO993.out).2.1)
       rintro e w62 ⟨rfl, hb⟩
       refine ⟨_, rfl, ?_⟩
       replace HO974 := rb_ HO974.out hb
       replace HO977 := rb_ HO977.out hb
       replace HO989 := rb_ HO989.out hb
       replace HO993 := rb_ HO993.out hb
       replace BK958 := bb_ BK958.out hb
       replace BK959 := bb_ BK959.out hb
       replace BK981 := bb_ BK981.out hb
       replace BK990 := bb_ BK990.out hb
       replace BK1002 := bb_ BK1002.out hb
       replace HB := stepB_ hb
       (try clear hb); (try clear hk)
       refine hK.out _ _ (hcc5_ BK958.out (hc6_ BK990.out)) (fun hHeld => ?_)
       clear hK K
       refine normP_ (some 54) ?_
       refine pP_ 7 (some 47) (b_ 13 1279) HT ?_
       refine pP_ 8 (some 55) (b_ 13 1535) HT ?_
       refine pP_ 9 (some 56) (b_ 13 2047) HT ?_
       exact norm_ (by simp only [putAll, Act.put, List.setIfInBounds_toArray, List.set_cons_zero, List.set_cons_succ]) (hCont (gb1002) _ ⟨hHeld, (by (with_reducible repeat (first | apply Kd.R_alloc | apply Kd.R_drewN | apply Kd.R_drew)); exact Kd.R_mono HO974.out (fun _ hk => ⟨hk.1.1, ⟨hk.1.2, hk.2⟩⟩)), (by (with_reducible repeat (first | apply Kd.R_alloc | apply Kd.R_drewN | apply Kd.R_drew)); exact Kd.R_mono HO977.out (fun _ hk => ⟨hk.1.1, ⟨hk.1.2, hk.2⟩⟩)), (by (with_reducible repeat (first | apply Kd.R_alloc | apply Kd.R_drewN | apply Kd.R_drew)); exact Kd.R_mono HO989.out (fun _ hk => ⟨hk.1.1.2, ⟨hk.1.2, hk.2⟩⟩)), (by (with_reducible repeat (first | apply Kd.R_alloc | apply Kd.R_drewN | apply Kd.R_drew)); exact Kd.R_mono HO993.out (fun _ hk => ⟨hk.1.1.2, ⟨hk.1.2, hk.2⟩⟩)), (blkU_ BK1002.out), (blkU_ BK958.out), (blkU_ BK959.out), (blkU_ BK981.out), (blkU_ BK990.out), GW1002.out, GE1002.out, NB958_1002.out, NB1002_958.out, NB959_1002.out, NB1002_959.out, NB981_1002.out, NB1002_981.out, NB990_1002.out, NB1002_990.out, bel_⟩)
     ·skip
      refine box_step ?hg (N := 16) ?hd (cs := #[.string (⟨#[]⟩ : ByteArray), .string (⟨#[]⟩ : ByteArray)]) (t := 46) ?hr ?_; (case hd => rfl); (case hg => rfl); (case hr => first | (go_simp; done) | (go_simp; rfl))
      intro gb1002 hg w60 hbox hb
      replace HO974 := rb_ HO974.out hb
      replace HO977 := rb_ HO977.out hb
      replace HO989 := rb_ HO989.out hb
      replace HO993 := rb_ HO993.out hb
      have BK1002 := a_ (hbox)
      have GW1002 := sizeB_ hg
      have GE1002 := sizeB_ hg
      replace HB := stepB_ hb
      obtain ⟨NB958_1002, NB1002_958⟩ := ne2_ BK958.out hg
      replace BK958 := bb_ BK958.out hb
      obtain ⟨NB959_1002, NB1002_959⟩ := ne2_ BK959.out hg
      replace BK959 := bb_ BK959.out hb
      obtain ⟨NB981_1002, NB1002_981⟩ := ne2_ BK981.out hg
      replace BK981 := bb_ BK981.out hb
      obtain ⟨NB990_1002, NB1002_990⟩ := ne2_ BK990.out hg
      replace BK990 := bb_ BK990.out hb
      clear hb hbox hg
      refine hK.out _ _ (hcc5_ BK958.out (hc6_ BK990.out)) (fun hHeld => ?_)
      clear hK K
      refine normP_ (some 16) ?_
      refine oneP_ 1 (some 49) (b_ 13 1087) HT (fun K hK => ?_)
      refine goN_ Try.func12 #[.agg #[.int .i64 a0_0, .int .u64 a0_1, .int .u64 a0_2, .int .u64 a0_3, .int .u64 a0_4]] ?_
      with_reducible refine (laws_toPoint.calls a0_0 a0_1 a0_2 a0_3 a0_4 t994 t995 t996 t997 t998 _ A29.out).mono ?_
      rintro e w61 ⟨rfl, hb⟩
      refine ⟨_, rfl, ?_⟩
      replace HO974 := rb_ HO974.out hb
      replace HO977 := rb_ HO977.out hb
      replace HO989 := rb_ HO989.out hb
      replace HO993 := rb_ HO993.out hb
      replace BK958 := bb_ BK958.out hb
      replace BK959 := bb_ BK959.out hb
      replace BK981 := bb_ BK981.out hb
      replace BK990 := bb_ BK990.out hb
      replace BK1002 := bb_ BK1002.out hb
      replace HB := stepB_ hb
      (try clear hb); (try clear hk)
      refine hK.out _ _ (hcc5_ BK958.out (hc6_ BK990.out)) (fun hHeld => ?_)
      clear hK K
      refine normP_ (some 49) ?_
      refine oneP_ 6 (some 54) (b_ 13 1151) HT (fun K hK => ?_)
      refine goN_ Try.func22 #[.agg #[.int .i64 t994, .int .u64 t995, .int .u64 t996, .int .u64 t997, .int .u64 t998], .agg #[.int .i64 t982, .int .u64 t983, .int .u64 t984, .int .u64 t985, .int .u64 t986, .slice Ao56 t987.length co56], .int .i64 a2, .string a3, .slice Ao58 t991.length co58] ?_
      with_reducible refine (impl_ClashOfGrowth.calls k t994 t995 t996 t997 t998 t982 t983 t984 t985 t986 _ _ t987 a2 a3 _ _ t991 t999 t1000 t1001 _ ?side1 ?side2 ?side3 ?side4 A30.out).mono ?_
      (case side1 => exact cU_ (Kd.R_reads' HO989.out).2.2)
      (case side2 => exact (Kd.R_reads' HO989.out).2.1)
      (case side3 => exact cU_ (Kd.R_reads' HO993.out).2.2)
      (case side4 => exact (Kd.R_reads' HO993.out).2.1)
      rintro e w62 ⟨rfl, hb⟩
      refine ⟨_, rfl, ?_⟩
      replace HO974 := rb_ HO974.out hb
      replace HO977 := rb_ HO977.out hb
      replace HO989 := rb_ HO989.out hb
      replace HO993 := rb_ HO993.out hb
      replace BK958 := bb_ BK958.out hb
      replace BK959 := bb_ BK959.out hb
      replace BK981 := bb_ BK981.out hb
      replace BK990 := bb_ BK990.out hb
      replace BK1002 := bb_ BK1002.out hb
      replace HB := stepB_ hb
      (try clear hb); (try clear hk)
      refine hK.out _ _ (hcc5_ BK958.out (hc6_ BK990.out)) (fun hHeld => ?_)
      clear hK K
      refine normP_ (some 54) ?_
      refine pP_ 7 (some 47) (b_ 13 1279) HT ?_
      refine pP_ 8 (some 55) (b_ 13 1535) HT ?_
      refine pP_ 9 (some 56) (b_ 13 2047) HT ?_
      exact norm_ (by simp only [putAll, Act.put, List.setIfInBounds_toArray, List.set_cons_zero, List.set_cons_succ]) (hCont (gb1002) _ ⟨hHeld, (by (with_reducible repeat (first | apply Kd.R_alloc | apply Kd.R_drewN | apply Kd.R_drew)); exact Kd.R_mono HO974.out (fun _ hk => ⟨hk.1.1, ⟨hk.1.2, hk.2⟩⟩)), (by (with_reducible repeat (first | apply Kd.R_alloc | apply Kd.R_drewN | apply Kd.R_drew)); exact Kd.R_mono HO977.out (fun _ hk => ⟨hk.1.1, ⟨hk.1.2, hk.2⟩⟩)), (by (with_reducible repeat (first | apply Kd.R_alloc | apply Kd.R_drewN | apply Kd.R_drew)); exact Kd.R_mono HO989.out (fun _ hk => ⟨hk.1.1.2, ⟨hk.1.2, hk.2⟩⟩)), (by (with_reducible repeat (first | apply Kd.R_alloc | apply Kd.R_drewN | apply Kd.R_drew)); exact Kd.R_mono HO993.out (fun _ hk => ⟨hk.1.1.2, ⟨hk.1.2, hk.2⟩⟩)), (blkU_ BK1002.out), (blkU_ BK958.out), (blkU_ BK959.out), (blkU_ BK981.out), (blkU_ BK990.out), GW1002.out, GE1002.out, NB958_1002.out, NB1002_958.out, NB959_1002.out, NB1002_959.out, NB981_1002.out, NB1002_981.out, NB990_1002.out, NB1002_990.out, bel_⟩)
    rintro gb1002 w63 ⟨hS_, h0_, h1_, h2_, h3_, h4_, h5_, h6_, h7_, h8_, h9_, h10_, h11_, h12_, h13_, h14_, h15_, h16_, h17_, h18_, h19_⟩
    have n0_ := a_ h0_
    have n1_ := a_ h1_
    have n2_ := a_ h2_
    have n3_ := a_ h3_
    have n4_ := a_ h4_
    have n5_ := a_ h5_
    have n6_ := a_ h6_
    have n7_ := a_ h7_
    have n8_ := a_ h8_
    have n9_ := a_ h9_
    have n10_ := a_ h10_
    have n11_ := a_ h11_
    have n12_ := a_ h12_
    have n13_ := a_ h13_
    have n14_ := a_ h14_
    have n15_ := a_ h15_
    have n16_ := a_ h16_
    have n17_ := a_ h17_
    have n18_ := a_ h18_
    have n19_ := a_ h19_
    clear HO974
    clear HO977
    clear HO989
    clear HO993
    clear BK958
    clear BK959
    clear BK981
    clear BK990
    clear HB
    clear h0_ h1_ h2_ h3_ h4_ h5_ h6_ h7_ h8_ h9_ h10_ h11_ h12_ h13_ h14_ h15_ h16_ h17_ h18_ h19_
    have HO974 := n0_
    have HO977 := n1_
    have HO989 := n2_
    have HO993 := n3_
    have BK1002 := n4_
    have BK958 := n5_
    have BK959 := n6_
    have BK981 := n7_
    have BK990 := n8_
    have GW1002 := n9_
    have GE1002 := n10_
    have NB958_1002 := n11_
    have NB1002_958 := n12_
    have NB959_1002 := n13_
    have NB1002_959 := n14_
    have NB981_1002 := n15_
    have NB1002_981 := n16_
    have NB990_1002 := n17_
    have NB1002_990 := n18_
    have HB := n19_
    clear n0_ n1_ n2_ n3_ n4_ n5_ n6_ n7_ n8_ n9_ n10_ n11_ n12_ n13_ n14_ n15_ n16_ n17_ n18_ n19_
    have hHeld : hdc5_ w63 gb958 (.int .i64 a0_0) (.int .u64 a0_1) (.int .u64 a0_2) (.int .u64 a0_3) (.int .u64 a0_4) (hd6_ w63 gb990 (.int .i64 t982) (.int .u64 t983) (.int .u64 t984) (.int .u64 t985) (.int .u64 t986) (.slice Ao56 t987.length co56)) := hS_
    refine norm_ (a' := ?_) ?_ ?_
    rotate_left
    ·simp only [putAll, Act.put, List.setIfInBounds_toArray, List.set_cons_zero, List.set_cons_succ]
     rfl
    refine oneP_ 11 none (b_ 13 4095) HT (fun K hK => ?_)
    have hs64 : w63.cell? ⟨gb1002, 0, none⟩ = some (.string (⟨#[]⟩ : ByteArray)) := (blk_cell BK1002.out 0).trans rfl
    have hfs64 := blk_frozen BK1002.out 0
    have hns64_0 := NB958_1002.out
    have hns64_1 := NB959_1002.out
    have hns64_2 := NB981_1002.out
    have hns64_3 := NB990_1002.out
    have hms64_0 := NB1002_958.out
    have hms64_1 := NB1002_959.out
    have hms64_2 := NB1002_981.out
    have hms64_3 := NB1002_990.out
    have hs65 : w63.cell? ⟨gb1002, 1, none⟩ = some (.string (⟨#[]⟩ : ByteArray)) := (blk_cell BK1002.out 1).trans rfl
    have hfs65 := blk_frozen BK1002.out 1
    have hns65_0 := NB958_1002.out
    have hns65_1 := NB959_1002.out
    have hns65_2 := NB981_1002.out
    have hns65_3 := NB990_1002.out
    have hms65_0 := NB1002_958.out
    have hms65_1 := NB1002_959.out
    have hms65_2 := NB1002_981.out
    have hms65_3 := NB1002_990.out
    refine skip_ (w1 := ?_) (by rfl) rfl ?_ ?_
    rotate_left
    ·go_simp
     rfl
    refine hK.out _ _ ⟨(cf2_ NB958_1002.out hHeld.1), (cf2_ NB958_1002.out hHeld.2.1), (cf2_ NB958_1002.out hHeld.2.2.1), (cf2_ NB958_1002.out hHeld.2.2.2.1), (cf2_ NB958_1002.out hHeld.2.2.2.2.1), (cf2_ NB990_1002.out hHeld.2.2.2.2.2.1), (cf2_ NB990_1002.out hHeld.2.2.2.2.2.2.1), (cf2_ NB990_1002.out hHeld.2.2.2.2.2.2.2.1), (cf2_ NB990_1002.out hHeld.2.2.2.2.2.2.2.2.1), (cf2_ NB990_1002.out hHeld.2.2.2.2.2.2.2.2.2.1), (cf2_ NB990_1002.out hHeld.2.2.2.2.2.2.2.2.2.2)⟩ (fun hHeld => ?_)
    clear hK K
    refine pP_ 12 (some 17) (b_ 13 8191) HT ?_
    refine done_ (done_of HT.out (by kernel_rfl)) ?_
    go_upto_region 14 with (fail)
    go_cut [65] (fun v65 wc => ∃ (kq : Nat) (x65_30 : Bool), v65 = .bool x65_30 ∧ Aside0 (laws_FnExactClashOfGrowth.j0 kq l4 t991 x65_30 a1_0 a1_1 a1_2 a1_3 a1_4 l1_5 t982 t983 t984 t985 t986 t987 = some r) ∧ Aside0 (kq ≤ k) ∧ Aside0 (Kd.R k29 29 wc w.heap.size (fun k_ => some k_ ≠ ((.slice Ao56 t987.length co56) : Value).ownBlock) (.slice Ao58 t991.length co58) t991) ∧ Aside0 (Kd.R k29 29 wc w.heap.size (fun k_ => some k_ ≠ ((.slice Ao58 t991.length co58) : Value).ownBlock) (.slice Ao56 t987.length co56) t987) ∧ Aside0 (wc.heap[gb958]? = some (.cells #[.int .i64 a0_0, .int .u64 a0_1, .int .u64 a0_2, .int .u64 a0_3, .int .u64 a0_4] 26 (0, 0))) ∧ Aside0 (wc.heap[gb959]? = some (.cells #[.int .i64 a1_0, .int .u64 a1_1, .int .u64 a1_2, .int .u64 a1_3, .int .u64 a1_4, (.slice A1_5 l1_5.length c1_5)] 42 (0, 0))) ∧ Aside0 (wc.heap[gb981]? = some (.cells #[.string t978, .string t979] 46 (0, 0))) ∧ Aside0 (wc.heap[gb990]? = some (.cells #[.int .i64 t982, .int .u64 t983, .int .u64 t984, .int .u64 t985, .int .u64 t986, (.slice Ao56 t987.length co56)] 51 (0, 0))) ∧ Aside0 (wc.heap[gb1002]? = some (.cells #[.string t999, .string t1000] 46 (0, 0))) ∧ Aside0 (Below w.heap.size w wc))
    case first =>
     have H := HC31.out
     clear HC31
     obtain ⟨t1003, A66, H⟩ := bnd_ H
     by_cases c67 : t1003 = true
     ·subst c67
      rw [if_pos rfl] at H
      have H' := Aside0.mk H
      clear H
      have hnb68 := NB1002_958.out
      have hnc68 := NB958_1002.out
      have hnb69 := NB1002_959.out
      have hnc69 := NB959_1002.out
      have hnb70 := NB1002_981.out
      have hnc70 := NB981_1002.out
      have hnb71 := NB1002_990.out
      have hnc71 := NB990_1002.out
      obtain ⟨z72_0, z72_1, f72_0, f72_1⟩ := cz2_ BK1002.out
      have hnb73 := NB981_958.out
      have hnc73 := NB958_981.out
      have hnb74 := NB981_959.out
      have hnc74 := NB959_981.out
      have hnb75 := NB981_990.out
      have hnc75 := NB990_981.out
      obtain ⟨z76_0, z76_1, f76_0, f76_1⟩ := cz2_ BK981.out
      go_wp2_with (first | (refine gcL_ 23 (some 59) Try.func23 #[.agg #[.string t999, .string t1000], .agg #[.string t978, .string t979]] ?_; (with_reducible refine (laws_eqClash.calls t999 t1000 t978 t979 true _ A66.out).mono ?_); rintro e w77 ⟨rfl, hb⟩; refine ⟨_, rfl, ?_⟩; replace HO974 := a_ (Kd.R_below (by (with_reducible repeat (first | apply Kd.R_alloc | apply Kd.R_drewN | apply Kd.R_drew)); exact (Kd.R_mono (Kd.R_far (p := ⟨gb1002, 1, none⟩) (Kd.R_far (p := ⟨gb1002, 0, none⟩) (Kd.R_types HO974.out BK1002.out (by decide)) (fun _ hk => hk.2) (.string t999)) (fun _ hk => hk.2) (.string t1000)) (fun _ h_ => h_.1))) hb); replace HO977 := a_ (Kd.R_below (by (with_reducible repeat (first | apply Kd.R_alloc | apply Kd.R_drewN | apply Kd.R_drew)); exact (Kd.R_mono (Kd.R_far (p := ⟨gb1002, 1, none⟩) (Kd.R_far (p := ⟨gb1002, 0, none⟩) (Kd.R_types HO977.out BK1002.out (by decide)) (fun _ hk => hk.2) (.string t999)) (fun _ hk => hk.2) (.string t1000)) (fun _ h_ => h_.1))) hb); replace HO989 := a_ (Kd.R_below (by (with_reducible repeat (first | apply Kd.R_alloc | apply Kd.R_drewN | apply Kd.R_drew)); exact (Kd.R_mono (Kd.R_far (p := ⟨gb1002, 1, none⟩) (Kd.R_far (p := ⟨gb1002, 0, none⟩) (Kd.R_types HO989.out BK1002.out (by decide)) (fun _ hk => hk.2) (.string t999)) (fun _ hk => hk.2) (.string t1000)) (fun _ h_ => h_.1))) hb); replace HO993 := a_ (Kd.R_below (by (with_reducible repeat (first | apply Kd.R_alloc | apply Kd.R_drewN | apply Kd.R_drew)); exact (Kd.R_mono (Kd.R_far (p := ⟨gb1002, 1, none⟩) (Kd.R_far (p := ⟨gb1002, 0, none⟩) (Kd.R_types HO993.out BK1002.out (by decide)) (fun _ hk => hk.2) (.string t999)) (fun _ hk => hk.2) (.string t1000)) (fun _ h_ => h_.1))) hb); replace BK958 := bb_ BK958.out hb; replace BK959 := bb_ BK959.out hb; replace BK981 := bb_ BK981.out hb; replace BK990 := bb_ BK990.out hb; replace BK1002 := blkPB_ (cs := #[.string t999, .string t1000]) BK1002.out hb; replace HB := stepB_ hb; (try clear hb); (try clear hk)))
      go_meet
      case rel => exact ⟨_, ((t1001 != t980)), rl_, H', ⟨by first | omega | exact Nat.le_refl _⟩, ⟨by (with_reducible repeat (first | apply Kd.R_alloc | apply Kd.R_drewN | apply Kd.R_drew)); exact Kd.R_mono HO993.out (fun _ hk => hk.2.2)⟩, ⟨by (with_reducible repeat (first | apply Kd.R_alloc | apply Kd.R_drewN | apply Kd.R_drew)); exact Kd.R_mono HO989.out (fun _ hk => hk.2.2)⟩, ⟨blkU_ BK958.out⟩, ⟨blkU_ BK959.out⟩, ⟨blkU_ BK981.out⟩, ⟨blkU_ BK990.out⟩, ⟨blkU_ BK1002.out⟩, ⟨bel_⟩⟩
     ·replace c67 := Bool.eq_false_iff.mpr c67
      subst c67
      rw [if_neg (show ¬ (false = true) by decide)] at H
      have H' := Aside0.mk H
      clear H
      have hnb78 := NB1002_958.out
      have hnc78 := NB958_1002.out
      have hnb79 := NB1002_959.out
      have hnc79 := NB959_1002.out
      have hnb80 := NB1002_981.out
      have hnc80 := NB981_1002.out
      have hnb81 := NB1002_990.out
      have hnc81 := NB990_1002.out
      obtain ⟨z82_0, z82_1, f82_0, f82_1⟩ := cz2_ BK1002.out
      have hnb83 := NB981_958.out
      have hnc83 := NB958_981.out
      have hnb84 := NB981_959.out
      have hnc84 := NB959_981.out
      have hnb85 := NB981_990.out
      have hnc85 := NB990_981.out
      obtain ⟨z86_0, z86_1, f86_0, f86_1⟩ := cz2_ BK981.out
      go_wp2_with (first | (refine gcL_ 23 (some 59) Try.func23 #[.agg #[.string t999, .string t1000], .agg #[.string t978, .string t979]] ?_; (with_reducible refine (laws_eqClash.calls t999 t1000 t978 t979 false _ A66.out).mono ?_); rintro e w87 ⟨rfl, hb⟩; refine ⟨_, rfl, ?_⟩; replace HO974 := a_ (Kd.R_below (by (with_reducible repeat (first | apply Kd.R_alloc | apply Kd.R_drewN | apply Kd.R_drew)); exact (Kd.R_mono (Kd.R_far (p := ⟨gb1002, 1, none⟩) (Kd.R_far (p := ⟨gb1002, 0, none⟩) (Kd.R_types HO974.out BK1002.out (by decide)) (fun _ hk => hk.2) (.string t999)) (fun _ hk => hk.2) (.string t1000)) (fun _ h_ => h_.1))) hb); replace HO977 := a_ (Kd.R_below (by (with_reducible repeat (first | apply Kd.R_alloc | apply Kd.R_drewN | apply Kd.R_drew)); exact (Kd.R_mono (Kd.R_far (p := ⟨gb1002, 1, none⟩) (Kd.R_far (p := ⟨gb1002, 0, none⟩) (Kd.R_types HO977.out BK1002.out (by decide)) (fun _ hk => hk.2) (.string t999)) (fun _ hk => hk.2) (.string t1000)) (fun _ h_ => h_.1))) hb); replace HO989 := a_ (Kd.R_below (by (with_reducible repeat (first | apply Kd.R_alloc | apply Kd.R_drewN | apply Kd.R_drew)); exact (Kd.R_mono (Kd.R_far (p := ⟨gb1002, 1, none⟩) (Kd.R_far (p := ⟨gb1002, 0, none⟩) (Kd.R_types HO989.out BK1002.out (by decide)) (fun _ hk => hk.2) (.string t999)) (fun _ hk => hk.2) (.string t1000)) (fun _ h_ => h_.1))) hb); replace HO993 := a_ (Kd.R_below (by (with_reducible repeat (first | apply Kd.R_alloc | apply Kd.R_drewN | apply Kd.R_drew)); exact (Kd.R_mono (Kd.R_far (p := ⟨gb1002, 1, none⟩) (Kd.R_far (p := ⟨gb1002, 0, none⟩) (Kd.R_types HO993.out BK1002.out (by decide)) (fun _ hk => hk.2) (.string t999)) (fun _ hk => hk.2) (.string t1000)) (fun _ h_ => h_.1))) hb); replace BK958 := bb_ BK958.out hb; replace BK959 := bb_ BK959.out hb; replace BK981 := bb_ BK981.out hb; replace BK990 := bb_ BK990.out hb; replace BK1002 := blkPB_ (cs := #[.string t999, .string t1000]) BK1002.out hb; replace HB := stepB_ hb; (try clear hb); (try clear hk)))
      go_meet
      case rel => exact ⟨_, (true), rl_, H', ⟨by first | omega | exact Nat.le_refl _⟩, ⟨by (with_reducible repeat (first | apply Kd.R_alloc | apply Kd.R_drewN | apply Kd.R_drew)); exact Kd.R_mono HO993.out (fun _ hk => hk.2.2)⟩, ⟨by (with_reducible repeat (first | apply Kd.R_alloc | apply Kd.R_drewN | apply Kd.R_drew)); exact Kd.R_mono HO989.out (fun _ hk => hk.2.2)⟩, ⟨blkU_ BK958.out⟩, ⟨blkU_ BK959.out⟩, ⟨blkU_ BK981.out⟩, ⟨blkU_ BK990.out⟩, ⟨blkU_ BK1002.out⟩, ⟨bel_⟩⟩
    case rest =>
     clear HC31
     (try clear c6); (try clear c67); (try clear z72_0 z72_1); (try clear z76_0 z76_1); (try clear z82_0 z82_1); (try clear z86_0 z86_1); (try clear f72_0 f72_1); (try clear f76_0 f76_1); (try clear f82_0 f82_1); (try clear f86_0 f86_1)
     obtain ⟨kq, x65_30, rfl, HA, HJ30, HO_15, HO_991005, BK958, BK959, BK981, BK990, BK1002, HB⟩ := hcut
     cases kq with
     | zero => exact absurd HA.out (by simp [laws_FnExactClashOfGrowth.j0])
     | succ kj30 =>
      have H := HA.out
      clear HA
      simp only [laws_FnExactClashOfGrowth.j0] at H
      by_cases c88 : x65_30 = true
      ·subst c88
       rw [if_pos rfl] at H
       exact absurd ((Option.some.inj H).trans hr_) (by decide)
      ·replace c88 := Bool.eq_false_iff.mpr c88
       subst c88
       rw [if_neg (show ¬ (false = true) by decide)] at H
       obtain ⟨⟨t1004, t1005, t1006, t1007, t1008, t1009⟩, A89, H⟩ := bnd_ H
       dsimp only at H
       obtain ⟨t1012, A90, H⟩ := bnd_ H
       by_cases c91 : t1012 = true
       ·subst c91
        rw [if_pos rfl] at H
        obtain ⟨t1013, A92, H⟩ := bnd_ H
        obtain ⟨t1016, A93, H⟩ := bnd_ H
        by_cases c94 : t1016 = true
        ·subst c94
         rw [if_pos rfl] at H
         obtain rfl := Option.some.inj H
         try go_wp2
         replace HO_15 := a_ (Kd.R_drew HO_15.out)
         replace HO_991005 := a_ (Kd.R_drew HO_991005.out)
         replace BK958 := a_ (blk_drew BK958.out)
         replace BK959 := a_ (blk_drew BK959.out)
         replace BK981 := a_ (blk_drew BK981.out)
         replace BK990 := a_ (blk_drew BK990.out)
         replace BK1002 := a_ (blk_drew BK1002.out)
         replace HB := a_ (below_drew1 HB.out)
         refine start_ (n := 5) (S := fun w' => hdc6_ w' gb990 (.int .i64 t982) (.int .u64 t983) (.int .u64 t984) (.int .u64 t985) (.int .u64 t986) (.slice Ao56 t987.length co56) (hd6_ w' gb959 (.int .i64 a1_0) (.int .u64 a1_1) (.int .u64 a1_2) (.int .u64 a1_3) (.int .u64 a1_4) (.slice A1_5 l1_5.length c1_5))) (ds := []) #[false, false, false, false, false] (by kernel_rfl) rfl rfl (hcc6_ BK990.out (hc6_ BK959.out)) (fun hHeld => ?_)
         generalize wc.drew = w95 at HO_15 HO_991005 BK958 BK959 BK981 BK990 BK1002 HB hHeld ⊢
         refine take_ (i := 0) (N := some 66) (v := ?_) (a' := ?_) #[true, false, false, false, false] rfl rfl (by kernel_rfl) (fun _ _ _ h => h) (Or.inl ⟨by rfl, ?_⟩) hHeld ?_ ?_
         rotate_left
         ·rintro w' ⟨s0, s1, s2, s3, s4, s5, s6, s7, s8, s9, s10, s11⟩
          go_simp
          with_reducible rfl
         rotate_left
         ·simp only [Act.put, List.setIfInBounds_toArray, List.set_cons_zero, List.set_cons_succ, i64_w, i32_w]
          rfl
         refine take_ (i := 1) (N := some 67) (v := ?_) (a' := ?_) #[true, true, false, false, false] rfl rfl (by kernel_rfl) (fun _ _ _ h => h) (Or.inl ⟨by rfl, ?_⟩) hHeld ?_ ?_
         rotate_left
         ·rintro w' ⟨s0, s1, s2, s3, s4, s5, s6, s7, s8, s9, s10, s11⟩
          go_simp
          with_reducible rfl
         rotate_left
         ·simp only [Act.put, List.setIfInBounds_toArray, List.set_cons_zero, List.set_cons_succ, i64_w, i32_w]
          rfl
         refine one_ (i := 2) (N := some 68) #[true, true, true, false, false] rfl rfl (by kernel_rfl) (by decide) (fun K hK => ?_)
         refine goN_ Try.func20 #[.agg #[.int .i64 a1_0, .int .u64 a1_1, .int .u64 a1_2, .int .u64 a1_3, .int .u64 a1_4, .slice A1_5 l1_5.length c1_5]] ?_
         with_reducible refine (laws_toGrowth.calls kj30 a1_0 a1_1 a1_2 a1_3 a1_4 _ _ l1_5 t1004 t1005 t1006 t1007 t1008 t1009 _ ?side1 ?side2 A89.out).mono ?_
         (case side1 => exact cU_ (Kd.C_below HR1_5.out HB.out))
         (case side2 => exact HC1_5.out)
         rintro e w96 ⟨v1010, rfl, ho0, hb⟩
         refine ⟨_, rfl, ?_⟩
         have HO1011 := a_ (Kd.R_lower (Kd.R_new' (Kd.R_new' ho0 (Kd.R_lt (kdU_ HO_15.out))) (Kd.R_lt (kdU_ HO_991005.out))) (below_size bel_))
         replace HO_15 := a_ (Kd.R_elder' (kdU_ HO_15.out) (Kd.R_base ho0) hb)
         replace HO_991005 := a_ (Kd.R_elder' (kdU_ HO_991005.out) (Kd.R_base ho0) hb)
         replace BK958 := bb_ BK958.out hb
         replace BK959 := bb_ BK959.out hb
         replace BK981 := bb_ BK981.out hb
         replace BK990 := bb_ BK990.out hb
         replace BK1002 := bb_ BK1002.out hb
         replace HB := stepB_ hb
         (try clear hb); (try clear hk); (try clear ho0)
         obtain ⟨Ao97, co97, eo97⟩ := Kd.R_slice HO1011.out
         (first | subst eo97 | (injection eo97 with f1_ f2_ f3_; have f4_ := f1_.symm; have f5_ := f3_.symm; clear f1_ f2_ f3_; subst f4_; subst f5_))
         refine hK.out _ _ (hcc6_ BK990.out (hc6_ BK959.out)) (fun hHeld => ?_)
         clear hK K
         refine normP_ (some 68) ?_
         refine one_ (i := 3) (N := some 69) #[true, true, true, true, false] rfl rfl (by kernel_rfl) (by decide) (fun K hK => ?_)
         refine goN_ Try.func24 #[.agg #[.int .i64 t982, .int .u64 t983, .int .u64 t984, .int .u64 t985, .int .u64 t986, .slice Ao56 t987.length co56], .agg #[.int .i64 t1004, .int .u64 t1005, .int .u64 t1006, .int .u64 t1007, .int .u64 t1008, .slice Ao97 t1009.length co97]] ?_
         with_reducible refine (laws_eqGrowth.calls kj30 t982 t983 t984 t985 t986 _ _ t987 t1004 t1005 t1006 t1007 t1008 _ _ t1009 true _ ?side1 ?side2 ?side3 ?side4 A90.out).mono ?_
         (case side1 => exact cU_ (Kd.R_reads' HO_991005.out).2.2)
         (case side2 => exact (Kd.R_reads' HO_991005.out).2.1)
         (case side3 => exact cU_ (Kd.R_reads' HO1011.out).2.2)
         (case side4 => exact (Kd.R_reads' HO1011.out).2.1)
         rintro e w98 ⟨rfl, hb⟩
         refine ⟨_, rfl, ?_⟩
         replace HO_15 := rb_ HO_15.out hb
         replace HO_991005 := rb_ HO_991005.out hb
         replace HO1011 := rb_ HO1011.out hb
         replace BK958 := bb_ BK958.out hb
         replace BK959 := bb_ BK959.out hb
         replace BK981 := bb_ BK981.out hb
         replace BK990 := bb_ BK990.out hb
         replace BK1002 := bb_ BK1002.out hb
         replace HB := stepB_ hb
         (try clear hb); (try clear hk)
         refine hK.out _ _ (hcc6_ BK990.out (hc6_ BK959.out)) (fun hHeld => ?_)
         clear hK K
         refine normP_ (some 69) ?_
         refine pure_ (i := 4) (N := some 70) (v := ?_) (a' := ?_) #[true, true, true, true, true] rfl rfl (by kernel_rfl) (fun _ _ _ h => h) (Or.inl ⟨by rfl, ?_⟩) ?_ ?_
         rotate_left
         ·intro w'
          go_simp
          with_reducible rfl
         rotate_left
         ·simp only [Act.put, List.setIfInBounds_toArray, List.set_cons_zero, List.set_cons_succ, i64_w, i32_w]
          rfl
         refine done_ (by kernel_rfl) ?_
         try go_wp2_with (first | (refine gcL_ 21 (some 73) Try.func21 #[.slice A4 l4.length c4] ?_; (with_reducible refine (laws_toDigestS.calls kj30 _ _ l4 t1013 _ ?side1 ?side2 A92.out).mono ?_); (case side1 => exact cU_ (Kd.C_below HR4.out HB.out)); (case side2 => exact HC4.out); rintro e w99 ⟨v1014, rfl, ho0, hb⟩; refine ⟨_, rfl, ?_⟩; have HO1015 := a_ (Kd.R_lower (Kd.R_new' (Kd.R_new' (Kd.R_new' ho0 (Kd.R_lt (kdU_ HO_15.out))) (Kd.R_lt (kdU_ HO_991005.out))) (Kd.R_lt (kdU_ HO1011.out))) (below_size bel_)); replace HO_15 := a_ (Kd.R_elder' (kdU_ HO_15.out) (Kd.R_base ho0) hb); replace HO_991005 := a_ (Kd.R_elder' (kdU_ HO_991005.out) (Kd.R_base ho0) hb); replace HO1011 := a_ (Kd.R_elder' (kdU_ HO1011.out) (Kd.R_base ho0) hb); replace BK958 := bb_ BK958.out hb; replace BK959 := bb_ BK959.out hb; replace BK981 := bb_ BK981.out hb; replace BK990 := bb_ BK990.out hb; replace BK1002 := bb_ BK1002.out hb; replace HB := stepB_ hb; (try clear hb); (try clear hk); (try clear ho0); obtain ⟨Ao100, co100, eo100⟩ := Kd.R_slice HO1015.out; subst eo100) | (refine gcL_ 25 (some 74) Try.func25 #[.slice Ao58 t991.length co58, .slice Ao100 t1013.length co100] ?_; (with_reducible refine (laws_eqDigestS.calls kj30 _ _ t991 _ _ t1013 true _ ?side1 ?side2 ?side3 ?side4 A93.out).mono ?_); (case side1 => exact cU_ (Kd.R_reads' HO_15.out).2.2); (case side2 => exact (Kd.R_reads' HO_15.out).2.1); (case side3 => exact cU_ (Kd.R_reads' HO1015.out).2.2); (case side4 => exact (Kd.R_reads' HO1015.out).2.1); rintro e w101 ⟨rfl, hb⟩; refine ⟨_, rfl, ?_⟩; replace HO_15 := rb_ HO_15.out hb; replace HO_991005 := rb_ HO_991005.out hb; replace HO1011 := rb_ HO1011.out hb; replace HO1015 := rb_ HO1015.out hb; replace BK958 := bb_ BK958.out hb; replace BK959 := bb_ BK959.out hb; replace BK981 := bb_ BK981.out hb; replace BK990 := bb_ BK990.out hb; replace BK1002 := bb_ BK1002.out hb; replace HB := stepB_ hb; (try clear hb); (try clear hk)))
         go_ret
         exact ⟨rfl_, bel_⟩
        ·replace c94 := Bool.eq_false_iff.mpr c94
         subst c94
         rw [if_neg (show ¬ (false = true) by decide)] at H
         exact absurd ((Option.some.inj H).trans hr_) (by decide)
       ·replace c91 := Bool.eq_false_iff.mpr c91
        subst c91
        rw [if_neg (show ¬ (false = true) by decide)] at H
        exact absurd ((Option.some.inj H).trans hr_) (by decide)
end
end Go.Proofs.Ytflckegggopdnaa.B
