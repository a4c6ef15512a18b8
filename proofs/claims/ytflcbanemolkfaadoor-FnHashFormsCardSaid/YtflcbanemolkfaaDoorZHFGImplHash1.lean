/- What the Go functions loop.example/belfry/impl.digestOf do is what the Lean functions .f of their names here say; condition: .f gives an answer. (Written by the session's program pp.py over the kit's print; Lean checks it.) -/
import Derived.Test.YtflcbanemolkfaaDoorZHFK
import Derived.Test.YtflcbanemolkfaaDoorZHFM
import Derived.Test.YtflcbanemolkfaaDoorZHFGStd1
namespace Go.Proofs.YtflcbanemolkfaaDoor.B
open Go.RowKit Go.Proofs.YtflcbanemolkfaaDoorW.PrintWords Go.Proofs.YtflcbanemolkfaaDoorW.PrintLast Go.Proofs.YtflcbanemolkfaaDoorW.PrintMore
attribute [local go_sem] max2_int min2_int max_two min_two max_three min_three max_four min_four
set_option linter.unusedVariables false
set_option linter.unusedSimpArgs false
section
section
variable {P : Program} {ops : Array Oper} {Q : Exit → Act → World → Prop}
theorem goesF_ {oi : Oper} {N : Option Tmp} {a : Act} {w : World} {K : Act → World → Prop} {f : FuncId} {fn : Func} {ars : Array Operand} {ts : Array TypeId} {c : Operand} {recv : Array Value} (hf : P.funcs[f]? = some fn) (hname : (fn.name == "runtime.NumGoroutine") = false) (hb : fn.body.isSome = true) (args : Array Value)
    (hw : Region.wanted oi (yielded ops a.tmps) = true) (hN : oi.dst = N) (hop : oi.op = .call { callee := .value c, args := ars, argTypes := ts }) (hcal : a.eval c = .func (.func f) recv #[]) (hargs : recv ++ ars.map a.eval = args)
    (h : Calls P f args w fun e w' => ∃ v, e = .returned v ∧ K (a.put N v) w') : if Region.wanted oi (yielded ops a.tmps) = true then Oper.wp P oi a w K Q else K (a.put N undef) w := by
  refine call_ f args hw hN ?_ h
  have he := enters_ hf hname hb args w
  unfold execOp
  simp [hop, hcal, resolve, Deferred.ofValue, invoke, hargs, he]
end
def impl_digestOf.f (l0 : List Int) : Option (Int × Int × Int × Int) := (binary_bigEndian_Uint64.f l0).bind fun t131 => (if 8 ≤ (l0.length : Int) then ((binary_bigEndian_Uint64.f (l0.drop 8)).bind fun t133 => (if 16 ≤ (l0.length : Int) then ((binary_bigEndian_Uint64.f (l0.drop 16)).bind fun t135 => (if 24 ≤ (l0.length : Int) then ((binary_bigEndian_Uint64.f (l0.drop 24)).bind fun t137 => (some (t131, t133, t135, t137))) else (none))) else (none))) else (none))
def impl_digestOf.T2 : Bool × List (List Nat × List Nat) := (true, [([], []), ([], []), ([0, 1], [0, 1]), ([], []), ([], []), ([4], [4]), ([3, 5, 2], [3, 5]), ([], []), ([], []), ([8], [8]), ([7, 9, 6], [7, 9]), ([], []), ([], []), ([12], [12]), ([11, 13, 10], [11, 13]), ([2, 6, 10, 14], [2, 6, 10, 14]), ([15, 14, 0, 1, 2, 3, 4, 5, 6, 7, 8, 9, 10, 11, 12, 13, 14, 15], [15])])
def impl_digestOf.B2 : List Nat := [0, 0, 3, 0, 0, 16, 63, 0, 0, 256, 1023, 0, 0, 4096, 16383, 32767, 65535]
theorem impl_digestOf.tab2 : rtab .any (opsOf Tryd.f19 2) = impl_digestOf.T2 := by kernel_rfl
theorem impl_digestOf.bits2 : waitsOk impl_digestOf.T2.2 impl_digestOf.B2 = true := by kernel_rfl
set_option maxHeartbeats 8000000 in
set_option maxRecDepth 100000 in
theorem impl_digestOf.calls (A0 : Option Addr) (c0 : Nat) (l0 : List Int) (r1 : Int) (r2 : Int) (r3 : Int) (r4 : Int) (w : World) (hr0 : Kd.C (Kd.int .u8) w A0 l0.length l0) (hc0 : l0.length ≤ c0) (h : impl_digestOf.f l0 = some (r1, r2, r3, r4)) :
    Calls Tryd.prog 19 #[.slice A0 l0.length c0] w fun e w' => e = .returned (.agg #[.int .u64 r1, .int .u64 r2, .int .u64 r3, .int .u64 r4]) ∧ Below w.heap.size w w' := by
  have hu24 := Tryd.underlying24
  have hu42 := Tryd.underlying42
  have HR0 := Aside0.mk hr0
  have HC0 := Aside0.mk hc0
  clear hr0 hc0
  have HB := Aside0.mk (Below.refl w.heap.size w)
  have H : ((binary_bigEndian_Uint64.f l0).bind fun t131 => (if 8 ≤ (l0.length : Int) then ((binary_bigEndian_Uint64.f (l0.drop 8)).bind fun t133 => (if 16 ≤ (l0.length : Int) then ((binary_bigEndian_Uint64.f (l0.drop 16)).bind fun t135 => (if 24 ≤ (l0.length : Int) then ((binary_bigEndian_Uint64.f (l0.drop 24)).bind fun t137 => (some (t131, t133, t135, t137))) else (none))) else (none))) else (none))) = some (r1, r2, r3, r4) := h
  clear h
  obtain ⟨t131, A2, H⟩ := bnd_ H
  by_cases c3 : 8 ≤ (l0.length : Int)
  · rw [if_pos c3] at H
    have c3b0 := eq_true c3
    have c3b1 : decide (8 ≤ (l0.length : Int)) = true := decide_eq_true c3
    clear c3
    obtain ⟨t133, A4, H⟩ := bnd_ H
    by_cases c5 : 16 ≤ (l0.length : Int)
    · rw [if_pos c5] at H
      have c5b0 := eq_true c5
      have c5b1 : decide (16 ≤ (l0.length : Int)) = true := decide_eq_true c5
      clear c5
      obtain ⟨t135, A6, H⟩ := bnd_ H
      by_cases c7 : 24 ≤ (l0.length : Int)
      · rw [if_pos c7] at H
        have c7b0 := eq_true c7
        have c7b1 : decide (24 ≤ (l0.length : Int)) = true := decide_eq_true c7
        clear c7
        obtain ⟨t137, A8, H⟩ := bnd_ H
        simp only [Option.some.injEq, Prod.mk.injEq] at H
        obtain ⟨rfl, rfl, rfl, rfl⟩ := H
        have hmf_ : ∀ (fn : Fn) (first cap : Array Value) (w : World), (Instr.makeFunc fn first cap).run Tryd.prog w = .ok (.func fn first cap) w := fun _ _ _ _ => rfl
        go_enter Tryd.func19, Tryd.ntmps19
        try go_wp2_with (first | ((with_reducible refine gate_dst (N := 2) rfl ?_); refine boxE_ (cs := #[.int .u64 0, .int .u64 0, .int .u64 0, .int .u64 0]) (t := 24) ?_; intro gb130 hg w9 hbox hb; have BK130 := Aside0.mk (hbox); have GW130 := sizeB_ hg; have GE130 := sizeB_ hg; replace HB := stepB_ hb; clear hb hbox hg))
        replace BK130 := Aside0.mk (blk_drew BK130.out)
        replace HB := Aside0.mk (below_drew1 HB.out)
        obtain ⟨i011, hi011, _, hsz11, _⟩ := info_parts info5
        obtain ⟨A11, hcut11, hA11, hC11⟩ := print_drop_of (P := Tryd.prog) (Value.int .u8) 0 29 5 .i64 Tryd.underlying29 hi011 hsz11 A0 c0 l0 8 (by omega) (ofd_) HC0.out
        have HR132 := Aside0.mk (Kd.C_of_reads (h1 := fun _ => rfl) (hA11 _ (Kd.reads_of_C HR0.out)))
        have HC132 := Aside0.mk hC11
        clear hA11 hC11 hi011 hsz11
        obtain ⟨i012, hi012, _, hsz12, _⟩ := info_parts info5
        obtain ⟨A12, hcut12, hA12, hC12⟩ := print_drop_of (P := Tryd.prog) (Value.int .u8) 0 29 5 .i64 Tryd.underlying29 hi012 hsz12 A0 c0 l0 16 (by omega) (ofd_) HC0.out
        have HR134 := Aside0.mk (Kd.C_of_reads (h1 := fun _ => rfl) (hA12 _ (Kd.reads_of_C HR0.out)))
        have HC134 := Aside0.mk hC12
        clear hA12 hC12 hi012 hsz12
        obtain ⟨i013, hi013, _, hsz13, _⟩ := info_parts info5
        obtain ⟨A13, hcut13, hA13, hC13⟩ := print_drop_of (P := Tryd.prog) (Value.int .u8) 0 29 5 .i64 Tryd.underlying29 hi013 hsz13 A0 c0 l0 24 (by omega) (ofd_) HC0.out
        have HR136 := Aside0.mk (Kd.C_of_reads (h1 := fun _ => rfl) (hA13 _ (Kd.reads_of_C HR0.out)))
        have HC136 := Aside0.mk hC13
        clear hA13 hC13 hi013 hsz13
        refine start_ (n := 17) (S := fun w' => True) (ds := []) #[false, false, false, false, false, false, false, false, false, false, false, false, false, false, false, false, false] (by kernel_rfl) rfl rfl trivial (fun hHeld => ?_); refine with_tabW impl_digestOf.tab2 impl_digestOf.bits2 (fun HT_ HW_ => ?_)
        generalize w9.drew = w10 at BK130 HB HR132 HR134 HR136 hHeld ⊢
        refine pureP_ 0 (some 6) #[true, false, false, false, false, false, false, false, false, false, false, false, false, false, false, false, false] HT_ ?_
        refine pureP_ 1 (some 7) #[true, true, false, false, false, false, false, false, false, false, false, false, false, false, false, false, false] HT_ ?_
        refine pureP_ 3 (some 9) #[true, true, false, true, false, false, false, false, false, false, false, false, false, false, false, false, false] HT_ ?_
        refine pureP_ 4 (some 10) #[true, true, false, true, true, false, false, false, false, false, false, false, false, false, false, false, false] HT_ ?_
        refine pureP_ 5 (some 11) #[true, true, false, true, true, true, false, false, false, false, false, false, false, false, false, false, false] HT_ ?_
        refine pureP_ 7 (some 13) #[true, true, false, true, true, true, false, true, false, false, false, false, false, false, false, false, false] HT_ ?_
        refine pureP_ 8 (some 14) #[true, true, false, true, true, true, false, true, true, false, false, false, false, false, false, false, false] HT_ ?_
        refine pureP_ 9 (some 15) #[true, true, false, true, true, true, false, true, true, true, false, false, false, false, false, false, false] HT_ ?_
        refine pureP_ 11 (some 17) #[true, true, false, true, true, true, false, true, true, true, false, true, false, false, false, false, false] HT_ ?_
        refine pureP_ 12 (some 18) #[true, true, false, true, true, true, false, true, true, true, false, true, true, false, false, false, false] HT_ ?_
        refine pureP_ 13 (some 19) #[true, true, false, true, true, true, false, true, true, true, false, true, true, true, false, false, false] HT_ ?_
        refine oneP_ 2 (some 8) #[true, true, true, true, true, true, false, true, true, true, false, true, true, true, false, false, false] HT_ (fun K hK => ?_)
        refine goesF_ Tryd.func30 (by kernel_rfl) rfl #[.agg #[], .slice A0 l0.length c0] (by rfl) rfl rfl (by rfl) (by (try simp only [List.map_toArray, List.map_cons, List.map_nil]); first | done | rfl | (simp only [List.length_drop, List.length_take]; rfl)) ?_
        with_reducible refine (binary_bigEndian_Uint64.calls  _ _ l0 t131 _ ?side1 ?side2 A2.out).mono ?_
        (case side1 => repeat (first | exact (Kd.C_below HR0.out HB.out) | (with_reducible refine Kd.C_alloc ?_ _) | (with_reducible refine Kd.C_drewN ?_ _) | (with_reducible refine Kd.C_drew ?_)))
        (case side2 => exact HC0.out)
        rintro e w14 ⟨rfl, hb⟩
        refine ⟨_, rfl, ?_⟩
        replace BK130 := blkBel_ BK130.out hb
        replace HB := stepB_ hb
        (try clear hb)
        refine hK.out _ _ trivial (fun hHeld => ?_)
        clear hK K
        refine norm_ (a' := ?_) ?_ ?_
        rotate_left
        · show Act.put _ (some 8) _ = _
          simp only [Act.put, List.setIfInBounds_toArray, List.set_cons_zero, List.set_cons_succ, i64_w, i32_w]
          rfl
        refine oneP_ 6 (some 12) #[true, true, true, true, true, true, true, true, true, true, false, true, true, true, false, false, false] HT_ (fun K hK => ?_)
        refine goesF_ Tryd.func30 (by kernel_rfl) rfl #[.agg #[], .slice A11 (l0.drop 8).length (c0 - 8)] (by rfl) rfl rfl (by rfl) (by (try simp only [List.map_toArray, List.map_cons, List.map_nil]); first | done | (rw [show (l0.drop 8).length = (l0.length - 8) from List.length_drop] <;> rfl) | rfl | (simp only [List.length_drop, List.length_take]; rfl)) ?_
        with_reducible refine (binary_bigEndian_Uint64.calls  _ _ (l0.drop 8) t133 _ ?side1 ?side2 A4.out).mono ?_
        (case side1 => repeat (first | exact (Kd.C_below HR132.out HB.out) | (with_reducible refine Kd.C_alloc ?_ _) | (with_reducible refine Kd.C_drewN ?_ _) | (with_reducible refine Kd.C_drew ?_)))
        (case side2 => exact HC132.out)
        rintro e w15 ⟨rfl, hb⟩
        refine ⟨_, rfl, ?_⟩
        replace BK130 := blkBel_ BK130.out hb
        replace HB := stepB_ hb
        (try clear hb)
        refine hK.out _ _ trivial (fun hHeld => ?_)
        clear hK K
        refine norm_ (a' := ?_) ?_ ?_
        rotate_left
        · show Act.put _ (some 12) _ = _
          simp only [Act.put, List.setIfInBounds_toArray, List.set_cons_zero, List.set_cons_succ, i64_w, i32_w]
          rfl
        refine oneP_ 10 (some 16) #[true, true, true, true, true, true, true, true, true, true, true, true, true, true, false, false, false] HT_ (fun K hK => ?_)
        refine goesF_ Tryd.func30 (by kernel_rfl) rfl #[.agg #[], .slice A12 (l0.drop 16).length (c0 - 16)] (by rfl) rfl rfl (by rfl) (by (try simp only [List.map_toArray, List.map_cons, List.map_nil]); first | done | (rw [show (l0.drop 16).length = (l0.length - 16) from List.length_drop] <;> rfl) | rfl | (simp only [List.length_drop, List.length_take]; rfl)) ?_
        with_reducible refine (binary_bigEndian_Uint64.calls  _ _ (l0.drop 16) t135 _ ?side1 ?side2 A6.out).mono ?_
        (case side1 => repeat (first | exact (Kd.C_below HR134.out HB.out) | (with_reducible refine Kd.C_alloc ?_ _) | (with_reducible refine Kd.C_drewN ?_ _) | (with_reducible refine Kd.C_drew ?_)))
        (case side2 => exact HC134.out)
        rintro e w16 ⟨rfl, hb⟩
        refine ⟨_, rfl, ?_⟩
        replace BK130 := blkBel_ BK130.out hb
        replace HB := stepB_ hb
        (try clear hb)
        refine hK.out _ _ trivial (fun hHeld => ?_)
        clear hK K
        refine norm_ (a' := ?_) ?_ ?_
        rotate_left
        · show Act.put _ (some 16) _ = _
          simp only [Act.put, List.setIfInBounds_toArray, List.set_cons_zero, List.set_cons_succ, i64_w, i32_w]
          rfl
        refine oneP_ 14 (some 20) #[true, true, true, true, true, true, true, true, true, true, true, true, true, true, true, false, false] HT_ (fun K hK => ?_)
        refine goesF_ Tryd.func30 (by kernel_rfl) rfl #[.agg #[], .slice A13 (l0.drop 24).length (c0 - 24)] (by rfl) rfl rfl (by rfl) (by (try simp only [List.map_toArray, List.map_cons, List.map_nil]); first | done | (rw [show (l0.drop 24).length = (l0.length - 24) from List.length_drop] <;> rfl) | rfl | (simp only [List.length_drop, List.length_take]; rfl)) ?_
        with_reducible refine (binary_bigEndian_Uint64.calls  _ _ (l0.drop 24) t137 _ ?side1 ?side2 A8.out).mono ?_
        (case side1 => repeat (first | exact (Kd.C_below HR136.out HB.out) | (with_reducible refine Kd.C_alloc ?_ _) | (with_reducible refine Kd.C_drewN ?_ _) | (with_reducible refine Kd.C_drew ?_)))
        (case side2 => exact HC136.out)
        rintro e w17 ⟨rfl, hb⟩
        refine ⟨_, rfl, ?_⟩
        replace BK130 := blkBel_ BK130.out hb
        replace HB := stepB_ hb
        (try clear hb)
        refine hK.out _ _ trivial (fun hHeld => ?_)
        clear hK K
        refine norm_ (a' := ?_) ?_ ?_
        rotate_left
        · show Act.put _ (some 20) _ = _
          simp only [Act.put, List.setIfInBounds_toArray, List.set_cons_zero, List.set_cons_succ, i64_w, i32_w]
          rfl
        refine pureP_ 15 (some 21) #[true, true, true, true, true, true, true, true, true, true, true, true, true, true, true, true, false] HT_ ?_
        refine oneP_ 16 none #[true, true, true, true, true, true, true, true, true, true, true, true, true, true, true, true, true] HT_ (fun K hK => ?_)
        have hs18 : w17.cell? ⟨gb130, 0, none⟩ = some (.int .u64 0) := (blk_cell BK130.out 0).trans rfl
        have hfs18 := blk_frozen BK130.out 0
        have hs19 : w17.cell? ⟨gb130, 1, none⟩ = some (.int .u64 0) := (blk_cell BK130.out 1).trans rfl
        have hfs19 := blk_frozen BK130.out 1
        have hs20 : w17.cell? ⟨gb130, 2, none⟩ = some (.int .u64 0) := (blk_cell BK130.out 2).trans rfl
        have hfs20 := blk_frozen BK130.out 2
        have hs21 : w17.cell? ⟨gb130, 3, none⟩ = some (.int .u64 0) := (blk_cell BK130.out 3).trans rfl
        have hfs21 := blk_frozen BK130.out 3
        refine skip_ (w1 := ?_) (by rfl) rfl ?_ ?_
        rotate_left
        · go_simp
          rfl
        refine hK.out _ _ trivial (fun hHeld => ?_)
        clear hK K
        refine done_ (done_of HT_.out (by kernel_rfl)) ?_
        try go_wp2
        refine bodyPost_ret (results_cell_row rfl _ _ gb130 24 #[.int .u64 t131, .int .u64 t133, .int .u64 t135, .int .u64 t137] (0, 0) _ rfl (blkF_ BK130.out) Tryd.underlying24 rfl (by kernel_rfl)) rfl ?_
        exact ⟨rfl_, bel_⟩
      · rw [if_neg c7] at H
        exact absurd H (by simp)
    · rw [if_neg c5] at H
      exact absurd H (by simp)
  · rw [if_neg c3] at H
    exact absurd H (by simp)
end
end Go.Proofs.YtflcbanemolkfaaDoor.B
