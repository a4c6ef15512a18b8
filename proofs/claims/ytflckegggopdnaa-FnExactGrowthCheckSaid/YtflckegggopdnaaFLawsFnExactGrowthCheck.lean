/- What the Go functions loop.example/belfry/laws.FnExactGrowthCheck do is what the Lean functions .f of their names here say; condition: .f gives an answer. (Written by the session's program pp.py over the kit's print; Lean checks it.) -/
import Derived.Test.YtflckegggopdnaaK
import Derived.Test.YtflckegggopdnaaM
import Derived.Test.YtflckegggopdnaaFImplGrowthCheck
import Derived.Test.YtflckegggopdnaaFSpecGrowthCheck
import Derived.Test.YtflckegggopdnaaGLawD1
import Derived.Test.YtflckegggopdnaaGPoint1
namespace Go.Proofs.Ytflckegggopdnaa.B
open Go.RowKit Go.Proofs.YtflckegggopdnaaW.PrintWords Go.Proofs.YtflckegggopdnaaW.PrintLast Go.Proofs.YtflckegggopdnaaW.PrintMore
attribute [local go_sem] max2_int min2_int max_two min_two max_three min_three max_four min_four   -- for this text's walks alone
set_option linter.unusedVariables false
set_option linter.unusedSimpArgs false

section
/-! ### laws_FnExactGrowthCheck: function 7 -/
def laws_FnExactGrowthCheck.f (k : Nat) (a0_0 : Int) (a0_1 : Int) (a0_2 : Int) (a0_3 : Int) (a0_4 : Int) (a1_0 : Int) (a1_1 : Int) (a1_2 : Int) (a1_3 : Int) (a1_4 : Int) (l2 : List (S24)) : Option (Bool) := (laws_szDigestS.f l2 1048576).bind fun t1321 => (if t1321 < 0 then (some true) else ((laws_toPoint.f a0_0 a0_1 a0_2 a0_3 a0_4).bind fun bt1322 => ((laws_toPoint.f a1_0 a1_1 a1_2 a1_3 a1_4).bind fun bt1327 => ((laws_toDigestS.f k l2).bind fun t1332 => ((spec_GrowthCheck.f k bt1322.1 bt1322.2.1 bt1322.2.2.1 bt1322.2.2.2.1 bt1322.2.2.2.2 bt1327.1 bt1327.2.1 bt1327.2.2.1 bt1327.2.2.2.1 bt1327.2.2.2.2 t1332).bind fun t1335 => ((laws_toDigestS.f k l2).bind fun t1336 => ((laws_toPoint.f a0_0 a0_1 a0_2 a0_3 a0_4).bind fun bt1339 => ((laws_toPoint.f a1_0 a1_1 a1_2 a1_3 a1_4).bind fun bt1344 => ((impl_GrowthCheck.f k bt1339.1 bt1339.2.1 bt1339.2.2.1 bt1339.2.2.2.1 bt1339.2.2.2.2 bt1344.1 bt1344.2.1 bt1344.2.2.1 bt1344.2.2.2.1 bt1344.2.2.2.2 t1336).bind fun t1349 => (if t1349 = t1335 then ((laws_toDigestS.f k l2).bind fun t1350 => ((laws_eqDigestS.f k t1336 t1350).bind fun t1353 => (if t1353 = true then (some true) else (some false)))) else (some false)))))))))))
theorem laws_FnExactGrowthCheck.mono : ∀ a0 a1 a2 a3 a4 a5 a6 a7 a8 a9 a10 k, LeO (laws_FnExactGrowthCheck.f k a0 a1 a2 a3 a4 a5 a6 a7 a8 a9 a10) (laws_FnExactGrowthCheck.f (k + 1) a0 a1 a2 a3 a4 a5 a6 a7 a8 a9 a10) := by
  intro a0 a1 a2 a3 a4 a5 a6 a7 a8 a9 a10 k
  unfold laws_FnExactGrowthCheck.f
  repeat' first | (with_reducible first | exact impl_GrowthCheck.mono _ _ _ _ _ _ _ _ _ _ _ _ | exact laws_eqDigestS.mono _ _ _ | exact laws_toDigestS.mono _ _ | exact spec_GrowthCheck.mono _ _ _ _ _ _ _ _ _ _ _ _ | exact LeO.refl _ | exact LeO.none _ | refine LeO.ite ?_ ?_ | refine LeO.bind ?_ (fun _ => ?_)) | exact LeO.none _ | refine LeO.ite ?_ ?_ | refine LeO.bind ?_ (fun _ => ?_)
def laws_FnExactGrowthCheck.T5 : Bool × List (List Nat × List Nat) := (true, [([], []), ([0], [0]), ([], []), ([2, 1], [2]), ([], []), ([4, 3], [4]), ([1, 3, 5, 5], [1, 3, 5]), ([6, 6, 0, 1, 2, 3, 4, 5, 6], [6])])
def laws_FnExactGrowthCheck.B5 : List Nat := [0, 1, 0, 7, 0, 31, 63, 127]
theorem laws_FnExactGrowthCheck.tab5 : rtab .any (opsOf Try.f7 5) = laws_FnExactGrowthCheck.T5 := by kernel_rfl
theorem laws_FnExactGrowthCheck.bits5 : waitsOk laws_FnExactGrowthCheck.T5.2 laws_FnExactGrowthCheck.B5 = true := by kernel_rfl
set_option maxHeartbeats 8000000 in
set_option maxRecDepth 100000 in
theorem laws_FnExactGrowthCheck.calls (k : Nat) (a0_0 : Int) (a0_1 : Int) (a0_2 : Int) (a0_3 : Int) (a0_4 : Int) (a1_0 : Int) (a1_1 : Int) (a1_2 : Int) (a1_3 : Int) (a1_4 : Int) (A2 : Option Addr) (c2 : Nat) (l2 : List (S24)) (r : Bool) (hr_ : r = true) (w : World) (hr2 : Kd.C k24 w A2 l2.length l2) (hc2 : l2.length ≤ c2) (h : laws_FnExactGrowthCheck.f k a0_0 a0_1 a0_2 a0_3 a0_4 a1_0 a1_1 a1_2 a1_3 a1_4 l2 = some r) :
    Calls Try.prog 7 #[.agg #[.int .i64 a0_0, .int .u64 a0_1, .int .u64 a0_2, .int .u64 a0_3, .int .u64 a0_4], .agg #[.int .i64 a1_0, .int .u64 a1_1, .int .u64 a1_2, .int .u64 a1_3, .int .u64 a1_4], .slice A2 l2.length c2] w fun e w' => e = .returned (.bool r) ∧ Below w.heap.size w w' := by
  have hu26 := Try.underlying26
  have HR2 := Aside0.mk hr2
  have HC2 := Aside0.mk hc2
  clear hr2 hc2
  have HB := Aside0.mk (Below.refl w.heap.size w)
  have H : ((laws_szDigestS.f l2 1048576).bind fun t1321 => (if t1321 < 0 then (some true) else ((laws_toPoint.f a0_0 a0_1 a0_2 a0_3 a0_4).bind fun bt1322 => ((laws_toPoint.f a1_0 a1_1 a1_2 a1_3 a1_4).bind fun bt1327 => ((laws_toDigestS.f k l2).bind fun t1332 => ((spec_GrowthCheck.f k bt1322.1 bt1322.2.1 bt1322.2.2.1 bt1322.2.2.2.1 bt1322.2.2.2.2 bt1327.1 bt1327.2.1 bt1327.2.2.1 bt1327.2.2.2.1 bt1327.2.2.2.2 t1332).bind fun t1335 => ((laws_toDigestS.f k l2).bind fun t1336 => ((laws_toPoint.f a0_0 a0_1 a0_2 a0_3 a0_4).bind fun bt1339 => ((laws_toPoint.f a1_0 a1_1 a1_2 a1_3 a1_4).bind fun bt1344 => ((impl_GrowthCheck.f k bt1339.1 bt1339.2.1 bt1339.2.2.1 bt1339.2.2.2.1 bt1339.2.2.2.2 bt1344.1 bt1344.2.1 bt1344.2.2.1 bt1344.2.2.2.1 bt1344.2.2.2.2 t1336).bind fun t1349 => (if t1349 = t1335 then ((laws_toDigestS.f k l2).bind fun t1350 => ((laws_eqDigestS.f k t1336 t1350).bind fun t1353 => (if t1353 = true then (some true) else (some false)))) else (some false)))))))))))) = some r := h
  clear h
  obtain ⟨t1321, A4, H⟩ := bnd_ H
  by_cases c5 : t1321 < 0
  · rw [if_pos c5] at H
    have c5b0 : decide (t1321 < 0) = true := decide_eq_true c5
    clear c5
    obtain rfl := Option.some.inj H
    go_enter Try.func7, Try.ntmps7
    go_wp2_with (first | ((with_reducible refine gate_dst (N := 3) rfl ?_); refine boxE_ (cs := #[.int .i64 a0_0, .int .u64 a0_1, .int .u64 a0_2, .int .u64 a0_3, .int .u64 a0_4]) (t := 26) ?_; intro gb1319 hg w6 hbox hb; have BK1319 := Aside0.mk (hbox); have GW1319 := sizeB_ hg; have GE1319 := sizeB_ hg; replace HB := stepB_ hb; clear hb hbox hg) | ((with_reducible refine gate_dst (N := 4) rfl ?_); refine boxE_ (cs := #[.int .i64 a1_0, .int .u64 a1_1, .int .u64 a1_2, .int .u64 a1_3, .int .u64 a1_4]) (t := 26) ?_; intro gb1320 hg w7 hbox hb; have BK1320 := Aside0.mk (hbox); have GW1320 := sizeB_ hg; have GE1320 := sizeB_ hg; replace HB := stepB_ hb; have NB1319_1320 := neL_ BK1319.out hg; have NB1320_1319 := neG_ BK1319.out hg; replace BK1319 := blkBel_ BK1319.out hb; clear hb hbox hg) | ((with_reducible refine gate_callee (f := 18) rfl ?_); refine goL_ (some 13) Try.func18 #[.slice A2 l2.length c2, .int .i64 1048576] ?_; (with_reducible refine (laws_szDigestS.calls _ _ l2 1048576 t1321 _ ?side1 ?side2 A4.out).mono ?_); (case side1 => repeat (first | exact (Kd.C_below HR2.out HB.out) | (with_reducible refine Kd.C_alloc ?_ _) | (with_reducible refine Kd.C_drewN ?_ _) | (with_reducible refine Kd.C_drew ?_))); (case side2 => exact HC2.out); rintro e w' ⟨rfl, ⟨nd, rfl⟩⟩; refine ⟨_, rfl, ?_⟩))
    go_ret
    exact ⟨rfl_, bel_⟩
  · rw [if_neg c5] at H
    have c5b0 : decide (t1321 < 0) = false := decide_eq_false c5
    clear c5
    obtain ⟨⟨t1322, t1323, t1324, t1325, t1326⟩, A8, H⟩ := bnd_ H
    dsimp only at H
    obtain ⟨⟨t1327, t1328, t1329, t1330, t1331⟩, A9, H⟩ := bnd_ H
    dsimp only at H
    obtain ⟨t1332, A10, H⟩ := bnd_ H
    obtain ⟨t1335, A11, H⟩ := bnd_ H
    obtain ⟨t1336, A12, H⟩ := bnd_ H
    obtain ⟨⟨t1339, t1340, t1341, t1342, t1343⟩, A13, H⟩ := bnd_ H
    dsimp only at H
    obtain ⟨⟨t1344, t1345, t1346, t1347, t1348⟩, A14, H⟩ := bnd_ H
    dsimp only at H
    obtain ⟨t1349, A15, H⟩ := bnd_ H
    by_cases c16 : t1349 = t1335
    · rw [if_pos c16] at H
      have c16b0 : (t1349 == t1335) = true := beq_iff_eq.mpr c16
      have c16b1 : (t1349 != t1335) = false := bne_eq_false_iff_eq.mpr c16
      clear c16
      obtain ⟨t1350, A17, H⟩ := bnd_ H
      obtain ⟨t1353, A18, H⟩ := bnd_ H
      by_cases c19 : t1353 = true
      · subst c19
        rw [if_pos rfl] at H
        obtain rfl := Option.some.inj H
        go_enter Try.func7, Try.ntmps7
        try go_wp2_with (first | ((with_reducible refine gate_dst (N := 3) rfl ?_); refine boxE_ (cs := #[.int .i64 a0_0, .int .u64 a0_1, .int .u64 a0_2, .int .u64 a0_3, .int .u64 a0_4]) (t := 26) ?_; intro gb1319 hg w20 hbox hb; have BK1319 := Aside0.mk (hbox); have GW1319 := sizeB_ hg; have GE1319 := sizeB_ hg; replace HB := stepB_ hb; clear hb hbox hg) | ((with_reducible refine gate_dst (N := 4) rfl ?_); refine boxE_ (cs := #[.int .i64 a1_0, .int .u64 a1_1, .int .u64 a1_2, .int .u64 a1_3, .int .u64 a1_4]) (t := 26) ?_; intro gb1320 hg w21 hbox hb; have BK1320 := Aside0.mk (hbox); have GW1320 := sizeB_ hg; have GE1320 := sizeB_ hg; replace HB := stepB_ hb; have NB1319_1320 := neL_ BK1319.out hg; have NB1320_1319 := neG_ BK1319.out hg; replace BK1319 := blkBel_ BK1319.out hb; clear hb hbox hg) | ((with_reducible refine gate_callee (f := 18) rfl ?_); refine goL_ (some 13) Try.func18 #[.slice A2 l2.length c2, .int .i64 1048576] ?_; (with_reducible refine (laws_szDigestS.calls _ _ l2 1048576 t1321 _ ?side1 ?side2 A4.out).mono ?_); (case side1 => repeat (first | exact (Kd.C_below HR2.out HB.out) | (with_reducible refine Kd.C_alloc ?_ _) | (with_reducible refine Kd.C_drewN ?_ _) | (with_reducible refine Kd.C_drew ?_))); (case side2 => exact HC2.out); rintro e w' ⟨rfl, ⟨nd, rfl⟩⟩; refine ⟨_, rfl, ?_⟩))
        (try (rw [drewN_self w21]; generalize hq_ : World.drewN w21 _ = w21; have n0_ : Aside0 (w21.heap[gb1319]? = some (.cells #[.int .i64 a0_0, .int .u64 a0_1, .int .u64 a0_2, .int .u64 a0_3, .int .u64 a0_4] 26 (0, 0))) := ⟨by rw [← hq_]; exact (blkU_ BK1319.out)⟩; have n1_ : Aside0 (w21.heap[gb1320]? = some (.cells #[.int .i64 a1_0, .int .u64 a1_1, .int .u64 a1_2, .int .u64 a1_3, .int .u64 a1_4] 26 (0, 0))) := ⟨by rw [← hq_]; exact (blkU_ BK1320.out)⟩; have n2_ : Aside0 (Below w.heap.size w w21) := ⟨by rw [← hq_]; exact bel_⟩; clear BK1319 BK1320 HB hq_; have BK1319 := n0_; have BK1320 := n1_; have HB := n2_; clear n0_ n1_ n2_))
        replace BK1319 := Aside0.mk (blk_drew BK1319.out)
        replace BK1320 := Aside0.mk (blk_drew BK1320.out)
        replace HB := Aside0.mk (below_drew1 HB.out)
        refine start_ (n := 8) (S := fun w' => w'.cell? ⟨gb1319, 0, none⟩ = some (.int .i64 a0_0) ∧ w'.cell? ⟨gb1319, 1, none⟩ = some (.int .u64 a0_1) ∧ w'.cell? ⟨gb1319, 2, none⟩ = some (.int .u64 a0_2) ∧ w'.cell? ⟨gb1319, 3, none⟩ = some (.int .u64 a0_3) ∧ w'.cell? ⟨gb1319, 4, none⟩ = some (.int .u64 a0_4) ∧ w'.cell? ⟨gb1320, 0, none⟩ = some (.int .i64 a1_0) ∧ w'.cell? ⟨gb1320, 1, none⟩ = some (.int .u64 a1_1) ∧ w'.cell? ⟨gb1320, 2, none⟩ = some (.int .u64 a1_2) ∧ w'.cell? ⟨gb1320, 3, none⟩ = some (.int .u64 a1_3) ∧ w'.cell? ⟨gb1320, 4, none⟩ = some (.int .u64 a1_4)) (ds := []) #[false, false, false, false, false, false, false, false] (by kernel_rfl) rfl rfl ⟨(blk_cell BK1319.out 0).trans rfl, (blk_cell BK1319.out 1).trans rfl, (blk_cell BK1319.out 2).trans rfl, (blk_cell BK1319.out 3).trans rfl, (blk_cell BK1319.out 4).trans rfl, (blk_cell BK1320.out 0).trans rfl, (blk_cell BK1320.out 1).trans rfl, (blk_cell BK1320.out 2).trans rfl, (blk_cell BK1320.out 3).trans rfl, (blk_cell BK1320.out 4).trans rfl⟩ (fun hHeld => ?_); refine with_tabW laws_FnExactGrowthCheck.tab5 laws_FnExactGrowthCheck.bits5 (fun HT_ HW_ => ?_)
        generalize w21.drew = w22 at BK1319 BK1320 HB hHeld ⊢
        refine pureP_ 4 (some 20) #[false, false, false, false, true, false, false, false] HT_ ?_
        refine takeP_ 0 (some 16) #[true, false, false, false, true, false, false, false] HT_ HW_ hHeld ?_
        refine takeP_ 2 (some 18) #[true, false, true, false, true, false, false, false] HT_ HW_ hHeld ?_
        refine oneP_ 1 (some 17) #[true, true, true, false, true, false, false, false] HT_ (fun K hK => ?_)
        refine goN_ Try.func12 #[.agg #[.int .i64 a0_0, .int .u64 a0_1, .int .u64 a0_2, .int .u64 a0_3, .int .u64 a0_4]] ?_
        with_reducible refine (laws_toPoint.calls a0_0 a0_1 a0_2 a0_3 a0_4 t1322 t1323 t1324 t1325 t1326 _ A8.out).mono ?_
        rintro e w23 ⟨rfl, hb⟩
        refine ⟨_, rfl, ?_⟩
        replace BK1319 := blkBel_ BK1319.out hb
        replace BK1320 := blkBel_ BK1320.out hb
        replace HB := stepB_ hb
        (try clear hb)
        refine hK.out _ _ ⟨(blk_cell BK1319.out 0).trans rfl, (blk_cell BK1319.out 1).trans rfl, (blk_cell BK1319.out 2).trans rfl, (blk_cell BK1319.out 3).trans rfl, (blk_cell BK1319.out 4).trans rfl, (blk_cell BK1320.out 0).trans rfl, (blk_cell BK1320.out 1).trans rfl, (blk_cell BK1320.out 2).trans rfl, (blk_cell BK1320.out 3).trans rfl, (blk_cell BK1320.out 4).trans rfl⟩ (fun hHeld => ?_)
        clear hK K
        refine norm_ (a' := ?_) ?_ ?_
        rotate_left
        · show Act.put _ (some 17) _ = _
          simp only [Act.put, List.setIfInBounds_toArray, List.set_cons_zero, List.set_cons_succ, i64_w, i32_w]
          rfl
        refine oneP_ 3 (some 19) #[true, true, true, true, true, false, false, false] HT_ (fun K hK => ?_)
        refine goN_ Try.func12 #[.agg #[.int .i64 a1_0, .int .u64 a1_1, .int .u64 a1_2, .int .u64 a1_3, .int .u64 a1_4]] ?_
        with_reducible refine (laws_toPoint.calls a1_0 a1_1 a1_2 a1_3 a1_4 t1327 t1328 t1329 t1330 t1331 _ A9.out).mono ?_
        rintro e w24 ⟨rfl, hb⟩
        refine ⟨_, rfl, ?_⟩
        replace BK1319 := blkBel_ BK1319.out hb
        replace BK1320 := blkBel_ BK1320.out hb
        replace HB := stepB_ hb
        (try clear hb)
        refine hK.out _ _ ⟨(blk_cell BK1319.out 0).trans rfl, (blk_cell BK1319.out 1).trans rfl, (blk_cell BK1319.out 2).trans rfl, (blk_cell BK1319.out 3).trans rfl, (blk_cell BK1319.out 4).trans rfl, (blk_cell BK1320.out 0).trans rfl, (blk_cell BK1320.out 1).trans rfl, (blk_cell BK1320.out 2).trans rfl, (blk_cell BK1320.out 3).trans rfl, (blk_cell BK1320.out 4).trans rfl⟩ (fun hHeld => ?_)
        clear hK K
        refine norm_ (a' := ?_) ?_ ?_
        rotate_left
        · show Act.put _ (some 19) _ = _
          simp only [Act.put, List.setIfInBounds_toArray, List.set_cons_zero, List.set_cons_succ, i64_w, i32_w]
          rfl
        refine oneP_ 5 (some 21) #[true, true, true, true, true, true, false, false] HT_ (fun K hK => ?_)
        refine goN_ Try.func21 #[.slice A2 l2.length c2] ?_
        with_reducible refine (laws_toDigestS.calls k _ _ l2 t1332 _ ?side1 ?side2 A10.out).mono ?_
        (case side1 => repeat (first | exact (Kd.C_below HR2.out HB.out) | (with_reducible refine Kd.C_alloc ?_ _) | (with_reducible refine Kd.C_drewN ?_ _) | (with_reducible refine Kd.C_drew ?_)))
        (case side2 => exact HC2.out)
        rintro e w25 ⟨v1333, rfl, ho0, hb⟩
        refine ⟨_, rfl, ?_⟩
        have HO1334 := Aside0.mk (Kd.R_lower ho0 (below_size bel_))
        replace BK1319 := blkBel_ BK1319.out hb
        replace BK1320 := blkBel_ BK1320.out hb
        replace HB := stepB_ hb
        (try clear hb); (try clear ho0)
        obtain ⟨Ao26, co26, eo26⟩ := Kd.R_slice HO1334.out
        (first | subst eo26 | (injection eo26 with f1_ f2_ f3_; have f4_ := f1_.symm; have f5_ := f3_.symm; clear f1_ f2_ f3_; subst f4_; subst f5_))
        refine hK.out _ _ ⟨(blk_cell BK1319.out 0).trans rfl, (blk_cell BK1319.out 1).trans rfl, (blk_cell BK1319.out 2).trans rfl, (blk_cell BK1319.out 3).trans rfl, (blk_cell BK1319.out 4).trans rfl, (blk_cell BK1320.out 0).trans rfl, (blk_cell BK1320.out 1).trans rfl, (blk_cell BK1320.out 2).trans rfl, (blk_cell BK1320.out 3).trans rfl, (blk_cell BK1320.out 4).trans rfl⟩ (fun hHeld => ?_)
        clear hK K
        refine norm_ (a' := ?_) ?_ ?_
        rotate_left
        · show Act.put _ (some 21) _ = _
          simp only [Act.put, List.setIfInBounds_toArray, List.set_cons_zero, List.set_cons_succ, i64_w, i32_w]
          rfl
        refine oneP_ 6 (some 22) #[true, true, true, true, true, true, true, false] HT_ (fun K hK => ?_)
        refine goN_ Try.func35 #[.agg #[.int .i64 t1322, .int .u64 t1323, .int .u64 t1324, .int .u64 t1325, .int .u64 t1326], .agg #[.int .i64 t1327, .int .u64 t1328, .int .u64 t1329, .int .u64 t1330, .int .u64 t1331], .slice Ao26 t1332.length co26] ?_
        with_reducible refine (spec_GrowthCheck.calls k t1322 t1323 t1324 t1325 t1326 t1327 t1328 t1329 t1330 t1331 _ _ t1332 t1335 _ ?side1 ?side2 A11.out).mono ?_
        (case side1 => repeat (first | exact (Kd.R_reads' HO1334.out).2.2 | (with_reducible refine Kd.C_alloc ?_ _) | (with_reducible refine Kd.C_drewN ?_ _) | (with_reducible refine Kd.C_drew ?_)))
        (case side2 => exact (Kd.R_reads' HO1334.out).2.1)
        rintro e w27 ⟨rfl, hb⟩
        refine ⟨_, rfl, ?_⟩
        replace HO1334 := Aside0.mk (Kd.R_below (kdU_ HO1334.out) hb)
        replace BK1319 := blkBel_ BK1319.out hb
        replace BK1320 := blkBel_ BK1320.out hb
        replace HB := stepB_ hb
        (try clear hb)
        refine hK.out _ _ ⟨(blk_cell BK1319.out 0).trans rfl, (blk_cell BK1319.out 1).trans rfl, (blk_cell BK1319.out 2).trans rfl, (blk_cell BK1319.out 3).trans rfl, (blk_cell BK1319.out 4).trans rfl, (blk_cell BK1320.out 0).trans rfl, (blk_cell BK1320.out 1).trans rfl, (blk_cell BK1320.out 2).trans rfl, (blk_cell BK1320.out 3).trans rfl, (blk_cell BK1320.out 4).trans rfl⟩ (fun hHeld => ?_)
        clear hK K
        refine norm_ (a' := ?_) ?_ ?_
        rotate_left
        · show Act.put _ (some 22) _ = _
          simp only [Act.put, List.setIfInBounds_toArray, List.set_cons_zero, List.set_cons_succ, i64_w, i32_w]
          rfl
        refine pureP_ 7 (some 8) #[true, true, true, true, true, true, true, true] HT_ ?_
        refine done_ (done_of HT_.out (by kernel_rfl)) ?_
        try go_wp2_with (first | ((with_reducible refine gate_callee (f := 21) rfl ?_); refine goL_ (some 24) Try.func21 #[.slice A2 l2.length c2] ?_; (with_reducible refine (laws_toDigestS.calls k _ _ l2 t1336 _ ?side1 ?side2 A12.out).mono ?_); (case side1 => repeat (first | exact (Kd.C_below HR2.out HB.out) | (with_reducible refine Kd.C_alloc ?_ _) | (with_reducible refine Kd.C_drewN ?_ _) | (with_reducible refine Kd.C_drew ?_))); (case side2 => exact HC2.out); rintro e w28 ⟨v1337, rfl, ho0, hb⟩; refine ⟨_, rfl, ?_⟩; have HO1338 := Aside0.mk (Kd.R_lower (Kd.R_new' ho0 (Kd.R_lt (kdU_ HO1334.out))) (below_size bel_)); replace HO1334 := Aside0.mk (Kd.R_elder' (kdU_ HO1334.out) (Kd.R_base ho0) hb); replace BK1319 := blkBel_ BK1319.out hb; replace BK1320 := blkBel_ BK1320.out hb; replace HB := stepB_ hb; (try clear hb); (try clear ho0)))
        replace HO1334 := Aside0.mk (Kd.R_drew HO1334.out)
        replace HO1338 := Aside0.mk (Kd.R_drew HO1338.out)
        replace BK1319 := Aside0.mk (blk_drew BK1319.out)
        replace BK1320 := Aside0.mk (blk_drew BK1320.out)
        replace HB := Aside0.mk (below_drew1 HB.out)
        refine start_ (n := 7) (S := fun w' => w'.cell? ⟨gb1319, 0, none⟩ = some (.int .i64 a0_0) ∧ w'.cell? ⟨gb1319, 1, none⟩ = some (.int .u64 a0_1) ∧ w'.cell? ⟨gb1319, 2, none⟩ = some (.int .u64 a0_2) ∧ w'.cell? ⟨gb1319, 3, none⟩ = some (.int .u64 a0_3) ∧ w'.cell? ⟨gb1319, 4, none⟩ = some (.int .u64 a0_4) ∧ w'.cell? ⟨gb1320, 0, none⟩ = some (.int .i64 a1_0) ∧ w'.cell? ⟨gb1320, 1, none⟩ = some (.int .u64 a1_1) ∧ w'.cell? ⟨gb1320, 2, none⟩ = some (.int .u64 a1_2) ∧ w'.cell? ⟨gb1320, 3, none⟩ = some (.int .u64 a1_3) ∧ w'.cell? ⟨gb1320, 4, none⟩ = some (.int .u64 a1_4)) (ds := []) #[false, false, false, false, false, false, false] (by kernel_rfl) rfl rfl ⟨(blk_cell BK1319.out 0).trans rfl, (blk_cell BK1319.out 1).trans rfl, (blk_cell BK1319.out 2).trans rfl, (blk_cell BK1319.out 3).trans rfl, (blk_cell BK1319.out 4).trans rfl, (blk_cell BK1320.out 0).trans rfl, (blk_cell BK1320.out 1).trans rfl, (blk_cell BK1320.out 2).trans rfl, (blk_cell BK1320.out 3).trans rfl, (blk_cell BK1320.out 4).trans rfl⟩ (fun hHeld => ?_)
        generalize w28.drew = w29 at HO1334 HO1338 BK1319 BK1320 HB hHeld ⊢
        refine pure_ (i := 4) (N := some 29) (v := ?_) (a' := ?_) #[false, false, false, false, true, false, false] rfl rfl (by kernel_rfl) (fun _ _ _ h => h) (Or.inl ⟨by rfl, ?_⟩) ?_ ?_
        rotate_left
        · intro w'
          go_simp
          with_reducible rfl
        rotate_left
        · simp only [Act.put, List.setIfInBounds_toArray, List.set_cons_zero, List.set_cons_succ, i64_w, i32_w]
          rfl
        refine take_ (i := 0) (N := some 25) (v := ?_) (a' := ?_) #[true, false, false, false, true, false, false] rfl rfl (by kernel_rfl) (fun _ _ _ h => h) (Or.inl ⟨by rfl, ?_⟩) hHeld ?_ ?_
        rotate_left
        · rintro w' ⟨s0, s1, s2, s3, s4, s5, s6, s7, s8, s9⟩
          go_simp
          with_reducible rfl
        rotate_left
        · simp only [Act.put, List.setIfInBounds_toArray, List.set_cons_zero, List.set_cons_succ, i64_w, i32_w]
          rfl
        refine take_ (i := 2) (N := some 27) (v := ?_) (a' := ?_) #[true, false, true, false, true, false, false] rfl rfl (by kernel_rfl) (fun _ _ _ h => h) (Or.inl ⟨by rfl, ?_⟩) hHeld ?_ ?_
        rotate_left
        · rintro w' ⟨s0, s1, s2, s3, s4, s5, s6, s7, s8, s9⟩
          go_simp
          with_reducible rfl
        rotate_left
        · simp only [Act.put, List.setIfInBounds_toArray, List.set_cons_zero, List.set_cons_succ, i64_w, i32_w]
          rfl
        refine one_ (i := 1) (N := some 26) #[true, true, true, false, true, false, false] rfl rfl (by kernel_rfl) (by decide) (fun K hK => ?_)
        refine goN_ Try.func12 #[.agg #[.int .i64 a0_0, .int .u64 a0_1, .int .u64 a0_2, .int .u64 a0_3, .int .u64 a0_4]] ?_
        with_reducible refine (laws_toPoint.calls a0_0 a0_1 a0_2 a0_3 a0_4 t1339 t1340 t1341 t1342 t1343 _ A13.out).mono ?_
        rintro e w30 ⟨rfl, hb⟩
        refine ⟨_, rfl, ?_⟩
        replace HO1334 := Aside0.mk (Kd.R_below (kdU_ HO1334.out) hb)
        replace HO1338 := Aside0.mk (Kd.R_below (kdU_ HO1338.out) hb)
        replace BK1319 := blkBel_ BK1319.out hb
        replace BK1320 := blkBel_ BK1320.out hb
        replace HB := stepB_ hb
        (try clear hb)
        refine hK.out _ _ ⟨(blk_cell BK1319.out 0).trans rfl, (blk_cell BK1319.out 1).trans rfl, (blk_cell BK1319.out 2).trans rfl, (blk_cell BK1319.out 3).trans rfl, (blk_cell BK1319.out 4).trans rfl, (blk_cell BK1320.out 0).trans rfl, (blk_cell BK1320.out 1).trans rfl, (blk_cell BK1320.out 2).trans rfl, (blk_cell BK1320.out 3).trans rfl, (blk_cell BK1320.out 4).trans rfl⟩ (fun hHeld => ?_)
        clear hK K
        refine norm_ (a' := ?_) ?_ ?_
        rotate_left
        · show Act.put _ (some 26) _ = _
          simp only [Act.put, List.setIfInBounds_toArray, List.set_cons_zero, List.set_cons_succ, i64_w, i32_w]
          rfl
        refine one_ (i := 3) (N := some 28) #[true, true, true, true, true, false, false] rfl rfl (by kernel_rfl) (by decide) (fun K hK => ?_)
        refine goN_ Try.func12 #[.agg #[.int .i64 a1_0, .int .u64 a1_1, .int .u64 a1_2, .int .u64 a1_3, .int .u64 a1_4]] ?_
        with_reducible refine (laws_toPoint.calls a1_0 a1_1 a1_2 a1_3 a1_4 t1344 t1345 t1346 t1347 t1348 _ A14.out).mono ?_
        rintro e w31 ⟨rfl, hb⟩
        refine ⟨_, rfl, ?_⟩
        replace HO1334 := Aside0.mk (Kd.R_below (kdU_ HO1334.out) hb)
        replace HO1338 := Aside0.mk (Kd.R_below (kdU_ HO1338.out) hb)
        replace BK1319 := blkBel_ BK1319.out hb
        replace BK1320 := blkBel_ BK1320.out hb
        replace HB := stepB_ hb
        (try clear hb)
        obtain ⟨Ao32, co32, eo32⟩ := Kd.R_slice HO1338.out
        (first | subst eo32 | (injection eo32 with f1_ f2_ f3_; have f4_ := f1_.symm; have f5_ := f3_.symm; clear f1_ f2_ f3_; subst f4_; subst f5_))
        refine hK.out _ _ ⟨(blk_cell BK1319.out 0).trans rfl, (blk_cell BK1319.out 1).trans rfl, (blk_cell BK1319.out 2).trans rfl, (blk_cell BK1319.out 3).trans rfl, (blk_cell BK1319.out 4).trans rfl, (blk_cell BK1320.out 0).trans rfl, (blk_cell BK1320.out 1).trans rfl, (blk_cell BK1320.out 2).trans rfl, (blk_cell BK1320.out 3).trans rfl, (blk_cell BK1320.out 4).trans rfl⟩ (fun hHeld => ?_)
        clear hK K
        refine norm_ (a' := ?_) ?_ ?_
        rotate_left
        · show Act.put _ (some 28) _ = _
          simp only [Act.put, List.setIfInBounds_toArray, List.set_cons_zero, List.set_cons_succ, i64_w, i32_w]
          rfl
        refine one_ (i := 5) (N := some 30) #[true, true, true, true, true, true, false] rfl rfl (by kernel_rfl) (by decide) (fun K hK => ?_)
        refine goN_ Try.func33 #[.agg #[.int .i64 t1339, .int .u64 t1340, .int .u64 t1341, .int .u64 t1342, .int .u64 t1343], .agg #[.int .i64 t1344, .int .u64 t1345, .int .u64 t1346, .int .u64 t1347, .int .u64 t1348], .slice Ao32 t1336.length co32] ?_
        with_reducible refine (impl_GrowthCheck.calls k t1339 t1340 t1341 t1342 t1343 t1344 t1345 t1346 t1347 t1348 _ _ t1336 t1349 _ ?side1 ?side2 A15.out).mono ?_
        (case side1 => repeat (first | exact (Kd.R_reads' HO1338.out).2.2 | (with_reducible refine Kd.C_alloc ?_ _) | (with_reducible refine Kd.C_drewN ?_ _) | (with_reducible refine Kd.C_drew ?_)))
        (case side2 => exact (Kd.R_reads' HO1338.out).2.1)
        rintro e w33 ⟨rfl, hb⟩
        refine ⟨_, rfl, ?_⟩
        replace HO1334 := Aside0.mk (Kd.R_below (kdU_ HO1334.out) hb)
        replace HO1338 := Aside0.mk (Kd.R_below (kdU_ HO1338.out) hb)
        replace BK1319 := blkBel_ BK1319.out hb
        replace BK1320 := blkBel_ BK1320.out hb
        replace HB := stepB_ hb
        (try clear hb)
        refine hK.out _ _ ⟨(blk_cell BK1319.out 0).trans rfl, (blk_cell BK1319.out 1).trans rfl, (blk_cell BK1319.out 2).trans rfl, (blk_cell BK1319.out 3).trans rfl, (blk_cell BK1319.out 4).trans rfl, (blk_cell BK1320.out 0).trans rfl, (blk_cell BK1320.out 1).trans rfl, (blk_cell BK1320.out 2).trans rfl, (blk_cell BK1320.out 3).trans rfl, (blk_cell BK1320.out 4).trans rfl⟩ (fun hHeld => ?_)
        clear hK K
        refine norm_ (a' := ?_) ?_ ?_
        rotate_left
        · show Act.put _ (some 30) _ = _
          simp only [Act.put, List.setIfInBounds_toArray, List.set_cons_zero, List.set_cons_succ, i64_w, i32_w]
          rfl
        refine pure_ (i := 6) (N := some 10) (v := ?_) (a' := ?_) #[true, true, true, true, true, true, true] rfl rfl (by kernel_rfl) (fun _ _ _ h => h) (Or.inl ⟨by rfl, ?_⟩) ?_ ?_
        rotate_left
        · intro w'
          go_simp
          with_reducible rfl
        rotate_left
        · simp only [Act.put, List.setIfInBounds_toArray, List.set_cons_zero, List.set_cons_succ, i64_w, i32_w]
          rfl
        refine done_ (by kernel_rfl) ?_
        try go_wp2_with (first | ((with_reducible refine gate_callee (f := 21) rfl ?_); refine goL_ (some 36) Try.func21 #[.slice A2 l2.length c2] ?_; (with_reducible refine (laws_toDigestS.calls k _ _ l2 t1350 _ ?side1 ?side2 A17.out).mono ?_); (case side1 => repeat (first | exact (Kd.C_below HR2.out HB.out) | (with_reducible refine Kd.C_alloc ?_ _) | (with_reducible refine Kd.C_drewN ?_ _) | (with_reducible refine Kd.C_drew ?_))); (case side2 => exact HC2.out); rintro e w34 ⟨v1351, rfl, ho0, hb⟩; refine ⟨_, rfl, ?_⟩; have HO1352 := Aside0.mk (Kd.R_lower (Kd.R_new' (Kd.R_new' ho0 (Kd.R_lt (kdU_ HO1334.out))) (Kd.R_lt (kdU_ HO1338.out))) (below_size bel_)); replace HO1334 := Aside0.mk (Kd.R_elder' (kdU_ HO1334.out) (Kd.R_base ho0) hb); replace HO1338 := Aside0.mk (Kd.R_elder' (kdU_ HO1338.out) (Kd.R_base ho0) hb); replace BK1319 := blkBel_ BK1319.out hb; replace BK1320 := blkBel_ BK1320.out hb; replace HB := stepB_ hb; (try clear hb); (try clear ho0); obtain ⟨Ao35, co35, eo35⟩ := Kd.R_slice HO1352.out; subst eo35) | ((with_reducible refine gate_callee (f := 25) rfl ?_); refine goL_ (some 37) Try.func25 #[.slice Ao32 t1336.length co32, .slice Ao35 t1350.length co35] ?_; (with_reducible refine (laws_eqDigestS.calls k _ _ t1336 _ _ t1350 true _ ?side1 ?side2 ?side3 ?side4 A18.out).mono ?_); (case side1 => repeat (first | exact (Kd.R_reads' HO1338.out).2.2 | (with_reducible refine Kd.C_alloc ?_ _) | (with_reducible refine Kd.C_drewN ?_ _) | (with_reducible refine Kd.C_drew ?_))); (case side2 => exact (Kd.R_reads' HO1338.out).2.1); (case side3 => repeat (first | exact (Kd.R_reads' HO1352.out).2.2 | (with_reducible refine Kd.C_alloc ?_ _) | (with_reducible refine Kd.C_drewN ?_ _) | (with_reducible refine Kd.C_drew ?_))); (case side4 => exact (Kd.R_reads' HO1352.out).2.1); rintro e w36 ⟨rfl, hb⟩; refine ⟨_, rfl, ?_⟩; replace HO1334 := Aside0.mk (Kd.R_below (kdU_ HO1334.out) hb); replace HO1338 := Aside0.mk (Kd.R_below (kdU_ HO1338.out) hb); replace HO1352 := Aside0.mk (Kd.R_below (kdU_ HO1352.out) hb); replace BK1319 := blkBel_ BK1319.out hb; replace BK1320 := blkBel_ BK1320.out hb; replace HB := stepB_ hb; (try clear hb)))
        go_ret
        exact ⟨rfl_, bel_⟩
      · replace c19 := Bool.eq_false_iff.mpr c19
        subst c19
        rw [if_neg (show ¬ (false = true) by decide)] at H
        exact absurd ((Option.some.inj H).trans hr_) (by decide)
    · rw [if_neg c16] at H
      have c16b0 : (t1349 == t1335) = false := beq_eq_false_iff_ne.mpr c16
      have c16b1 : (t1349 != t1335) = true := bne_iff_ne.mpr c16
      exact absurd ((Option.some.inj H).trans hr_) (by decide)

end
end Go.Proofs.Ytflckegggopdnaa.B
