/- Texts that this claim's law leans on, without what nothing names. What each says stands at its theorems; conditions stand in them. (Put together by the session's program shake.py; Lean checks it.) -/
import Derived.Test.YtflckegggopdnaaZCCP0
import Derived.Test.YtflckegggopdnaaZCCP2
import Derived.Test.YtflckegggopdnaaZCCP3
import Derived.Test.YtflckegggopdnaaZCCGLawD1
set_option linter.unusedVariables false
set_option maxHeartbeats 8000000
set_option maxRecDepth 100000
set_option linter.unusedSimpArgs false
namespace Go.Proofs.Ytflckegggopdnaa.B
section
open Go.RowKit Go.Proofs.YtflckegggopdnaaW
section
def impl_HashBlock.l0 : Nat → Int → Int → Int → Int → Int → Int → Int → Int → Int → Int → Option (Int × Int × Int × Int)
 | 0, _, _, _, _, _, _, _, _, _, _ => none
 | k + 1, x5, x6, x7, x8, x9, x10, x332000, x332001, x332002, x332003 => if x10 < 10 then ((bits_RotateLeft64.f (Go.bits .xor .u64 x8 (IntKind.u64.wrap (x5 + (IntKind.u64.wrap (x6 + (IntKind.u64.wrap (x9 + 12620524952350641003))))))) 39).bind fun t334 => ((bits_RotateLeft64.f (Go.bits .xor .u64 x6 (IntKind.u64.wrap (x7 + t334))) 21).bind fun t335 => (impl_HashBlock.l0 k t335 (IntKind.u64.wrap (x7 + t334)) t334 (IntKind.u64.wrap (x5 + (IntKind.u64.wrap (x6 + (IntKind.u64.wrap (x9 + 12620524952350641003)))))) (IntKind.u64.wrap (x9 + 12620524952350641003)) (wrap64 (x10 + 1)) x332000 x332001 x332002 x332003))) else (some (Go.bits .xor .u64 x5 x332000, Go.bits .xor .u64 x6 x332001, Go.bits .xor .u64 x7 x332002, Go.bits .xor .u64 x8 x332003))
def impl_HashBlock.f (k : Nat) (a0_0 a0_1 a0_2 a0_3 a1_0 a1_1 a1_2 a1_3 : Int) : Option (Int × Int × Int × Int) := impl_HashBlock.l0 k (Go.bits .xor .u64 a0_0 a1_0) (Go.bits .xor .u64 a0_1 a1_1) (Go.bits .xor .u64 a0_2 a1_2) (Go.bits .xor .u64 a0_3 a1_3) 0 0 a0_0 a0_1 a0_2 a0_3
theorem impl_HashBlock.calls (k : Nat) (a0_0 a0_1 a0_2 a0_3 a1_0 a1_1 a1_2 a1_3 r1 r2 r3 r4 : Int) (w : World) (h : impl_HashBlock.f k a0_0 a0_1 a0_2 a0_3 a1_0 a1_1 a1_2 a1_3 = some (r1, r2, r3, r4)) :
  Calls Try.prog 112 #[.agg #[.int .u64 a0_0, .int .u64 a0_1, .int .u64 a0_2, .int .u64 a0_3], .agg #[.int .u64 a1_0, .int .u64 a1_1, .int .u64 a1_2, .int .u64 a1_3]] w fun e w' => e = .returned (.agg #[.int .u64 r1, .int .u64 r2, .int .u64 r3, .int .u64 r4]) ∧ Below w.heap.size w w' := by
 have hu29 := Try.underlying29
 have HB := rB_ w
 have H := h
 unfold impl_HashBlock.f at H
 clear h
 have H' := a_ H
 clear H
 go_enter Try.func112, Try.ntmps112
 go_wp2_with (first | (refine bx_ 2 #[.int .u64 a0_0, .int .u64 a0_1, .int .u64 a0_2, .int .u64 a0_3] 29 ?_; intro gb331 w3 hg hb BK331 GW331; replace HB := s_ hb; clear hb hg) | (refine bx_ 3 #[.int .u64 a1_0, .int .u64 a1_1, .int .u64 a1_2, .int .u64 a1_3] 29 ?_; intro gb332 w4 hg hb BK332 GW332; replace HB := s_ hb; obtain ⟨NB331_332, NB332_331⟩ := ne2_ BK331.out hg; replace BK331 := bb_ BK331.out hb; clear hb hg) | (refine bx_ 4 #[.int .u64 0, .int .u64 0, .int .u64 0, .int .u64 0] 29 ?_; intro gb333 w5 hg hb BK333 GW333; replace HB := s_ hb; obtain ⟨NB331_333, NB333_331⟩ := ne2_ BK331.out hg; replace BK331 := bb_ BK331.out hb; obtain ⟨NB332_333, NB333_332⟩ := ne2_ BK332.out hg; replace BK332 := bb_ BK332.out hb; clear hb hg; have hnb6 := NB331_332.out; have hnc6 := NB332_331.out; have hnb7 := NB331_333.out; have hnc7 := NB333_331.out; obtain ⟨z8_0, z8_1, z8_2, z8_3, f8_0, f8_1, f8_2, f8_3⟩ := cz4_ BK331.out; have hnb9 := NB332_333.out; have hnc9 := NB333_332.out; obtain ⟨z10_0, z10_1, z10_2, z10_3, f10_0, f10_1, f10_2, f10_3⟩ := cz4_ BK332.out))
 repeat (go_quiet (first | (refine bx_ 2 #[.int .u64 a0_0, .int .u64 a0_1, .int .u64 a0_2, .int .u64 a0_3] 29 ?_; intro gb331 w3 hg hb BK331 GW331; replace HB := s_ hb; clear hb hg) | (refine bx_ 3 #[.int .u64 a1_0, .int .u64 a1_1, .int .u64 a1_2, .int .u64 a1_3] 29 ?_; intro gb332 w4 hg hb BK332 GW332; replace HB := s_ hb; obtain ⟨NB331_332, NB332_331⟩ := ne2_ BK331.out hg; replace BK331 := bb_ BK331.out hb; clear hb hg) | (refine bx_ 4 #[.int .u64 0, .int .u64 0, .int .u64 0, .int .u64 0] 29 ?_; intro gb333 w5 hg hb BK333 GW333; replace HB := s_ hb; obtain ⟨NB331_333, NB333_331⟩ := ne2_ BK331.out hg; replace BK331 := bb_ BK331.out hb; obtain ⟨NB332_333, NB333_332⟩ := ne2_ BK332.out hg; replace BK332 := bb_ BK332.out hb; clear hb hg; have hnb6 := NB331_332.out; have hnc6 := NB332_331.out; have hnb7 := NB331_333.out; have hnc7 := NB333_331.out; obtain ⟨z8_0, z8_1, z8_2, z8_3, f8_0, f8_1, f8_2, f8_3⟩ := cz4_ BK331.out; have hnb9 := NB332_333.out; have hnc9 := NB333_332.out; obtain ⟨z10_0, z10_1, z10_2, z10_3, f10_0, f10_1, f10_2, f10_3⟩ := cz4_ BK332.out)); try go_wp2_with (first | (refine bx_ 2 #[.int .u64 a0_0, .int .u64 a0_1, .int .u64 a0_2, .int .u64 a0_3] 29 ?_; intro gb331 w3 hg hb BK331 GW331; replace HB := s_ hb; clear hb hg) | (refine bx_ 3 #[.int .u64 a1_0, .int .u64 a1_1, .int .u64 a1_2, .int .u64 a1_3] 29 ?_; intro gb332 w4 hg hb BK332 GW332; replace HB := s_ hb; obtain ⟨NB331_332, NB332_331⟩ := ne2_ BK331.out hg; replace BK331 := bb_ BK331.out hb; clear hb hg) | (refine bx_ 4 #[.int .u64 0, .int .u64 0, .int .u64 0, .int .u64 0] 29 ?_; intro gb333 w5 hg hb BK333 GW333; replace HB := s_ hb; obtain ⟨NB331_333, NB333_331⟩ := ne2_ BK331.out hg; replace BK331 := bb_ BK331.out hb; obtain ⟨NB332_333, NB333_332⟩ := ne2_ BK332.out hg; replace BK332 := bb_ BK332.out hb; clear hb hg; have hnb6 := NB331_332.out; have hnc6 := NB332_331.out; have hnb7 := NB331_333.out; have hnc7 := NB333_331.out; obtain ⟨z8_0, z8_1, z8_2, z8_3, f8_0, f8_1, f8_2, f8_3⟩ := cz4_ BK331.out; have hnb9 := NB332_333.out; have hnc9 := NB333_332.out; obtain ⟨z10_0, z10_1, z10_2, z10_3, f10_0, f10_1, f10_2, f10_3⟩ := cz4_ BK332.out)))
 go_loopg [5, 6, 7, 8, 9, 10] k (fun kq v5 v6 v7 v8 v9 v10 w' => ∃ (x5_1 x6_1 x7_1 x8_1 x9_1 x10_1 : Int), v5 = .int .u64 x5_1 ∧ v6 = .int .u64 x6_1 ∧ v7 = .int .u64 x7_1 ∧ v8 = .int .u64 x8_1 ∧ v9 = .int .u64 x9_1 ∧ v10 = .int .i64 x10_1 ∧ Aside0 (impl_HashBlock.l0 kq x5_1 x6_1 x7_1 x8_1 x9_1 x10_1 a0_0 a0_1 a0_2 a0_3 = some (r1, r2, r3, r4)) ∧ Aside0 (kq ≤ k) ∧ Aside0 (w'.heap[gb331]? = some (.cells #[.int .u64 a0_0, .int .u64 a0_1, .int .u64 a0_2, .int .u64 a0_3] 29 (0, 0))) ∧ Aside0 (w'.heap[gb332]? = some (.cells #[.int .u64 a1_0, .int .u64 a1_1, .int .u64 a1_2, .int .u64 a1_3] 29 (0, 0))) ∧ Aside0 (w'.heap[gb333]? = some (.cells #[.int .u64 0, .int .u64 0, .int .u64 0, .int .u64 0] 29 (0, 0))) ∧ Aside0 (Below w.heap.size w w'))
 case atStart => exact ⟨(Go.bits .xor .u64 a0_0 a1_0), (Go.bits .xor .u64 a0_1 a1_1), (Go.bits .xor .u64 a0_2 a1_2), (Go.bits .xor .u64 a0_3 a1_3), (0), (0), rl_, rl_, rl_, rl_, rl_, rl_, H', ⟨Nat.le_refl _⟩, ⟨blkU_ BK331.out⟩, ⟨blkU_ BK332.out⟩, ⟨blkU_ BK333.out⟩, ⟨bel_⟩⟩
 case round =>
  clear H'
  (try clear z10_0 z10_1 z10_2 z10_3); (try clear z8_0 z8_1 z8_2 z8_3); (try clear f10_0 f10_1 f10_2 f10_3); (try clear f8_0 f8_1 f8_2 f8_3)
  obtain ⟨x5_1, x6_1, x7_1, x8_1, x9_1, x10_1, rfl, rfl, rfl, rfl, rfl, rfl, HA, HK1, BK331, BK332, BK333, HB⟩ := hrel
  cases gk with
  | zero => exact absurd HA.out (by simp [impl_HashBlock.l0])
  | succ k1 =>
   have H := HA.out
   clear HA
   simp only [impl_HashBlock.l0] at H
   by_cases c11 : x10_1 < 10
   ·rw [if_pos c11] at H
    have c11b0 := decide_eq_true c11
    clear c11
    obtain ⟨t334, A12, H⟩ := bnd_ H
    obtain ⟨t335, A13, H⟩ := bnd_ H
    have H' := a_ H
    clear H
    go_wp2_with (first | (go_at_call 128; (with_reducible refine (bits_RotateLeft64.calls _ _ _ _ A12.out).mono ?_); rintro e w' ⟨rfl, ⟨nd, rfl⟩⟩; (try first | exact ⟨rfl, _, World.drewN_drewN _ _ _⟩ | exact ⟨rfl, _, Eq.trans (World.drewN_drewN _ _ _) (congrArg (World.drewN _) (Nat.add_assoc _ _ _))⟩)) | (go_at_call 128; (with_reducible refine (bits_RotateLeft64.calls _ _ _ _ A13.out).mono ?_); rintro e w' ⟨rfl, ⟨nd, rfl⟩⟩; (try first | exact ⟨rfl, _, World.drewN_drewN _ _ _⟩ | exact ⟨rfl, _, Eq.trans (World.drewN_drewN _ _ _) (congrArg (World.drewN _) (Nat.add_assoc _ _ _))⟩)))
    repeat (go_quiet (first | (go_at_call 128; (with_reducible refine (bits_RotateLeft64.calls _ _ _ _ A12.out).mono ?_); rintro e w' ⟨rfl, ⟨nd, rfl⟩⟩; (try first | exact ⟨rfl, _, World.drewN_drewN _ _ _⟩ | exact ⟨rfl, _, Eq.trans (World.drewN_drewN _ _ _) (congrArg (World.drewN _) (Nat.add_assoc _ _ _))⟩)) | (go_at_call 128; (with_reducible refine (bits_RotateLeft64.calls _ _ _ _ A13.out).mono ?_); rintro e w' ⟨rfl, ⟨nd, rfl⟩⟩; (try first | exact ⟨rfl, _, World.drewN_drewN _ _ _⟩ | exact ⟨rfl, _, Eq.trans (World.drewN_drewN _ _ _) (congrArg (World.drewN _) (Nat.add_assoc _ _ _))⟩))); try go_wp2_with (first | (go_at_call 128; (with_reducible refine (bits_RotateLeft64.calls _ _ _ _ A12.out).mono ?_); rintro e w' ⟨rfl, ⟨nd, rfl⟩⟩; (try first | exact ⟨rfl, _, World.drewN_drewN _ _ _⟩ | exact ⟨rfl, _, Eq.trans (World.drewN_drewN _ _ _) (congrArg (World.drewN _) (Nat.add_assoc _ _ _))⟩)) | (go_at_call 128; (with_reducible refine (bits_RotateLeft64.calls _ _ _ _ A13.out).mono ?_); rintro e w' ⟨rfl, ⟨nd, rfl⟩⟩; (try first | exact ⟨rfl, _, World.drewN_drewN _ _ _⟩ | exact ⟨rfl, _, Eq.trans (World.drewN_drewN _ _ _) (congrArg (World.drewN _) (Nat.add_assoc _ _ _))⟩))))
    go_roundg k1
    case measure => have := HK1.out; omega
    case rel => exact ⟨(t335), (IntKind.u64.wrap (x7_1 + t334)), (t334), (IntKind.u64.wrap (x5_1 + (IntKind.u64.wrap (x6_1 + (IntKind.u64.wrap (x9_1 + 12620524952350641003)))))), (IntKind.u64.wrap (x9_1 + 12620524952350641003)), (wrap64 (x10_1 + 1)), rl_, rl_, rl_, rl_, rl_, rl_, H', ⟨by have := HK1.out; omega⟩, ⟨blkU_ BK331.out⟩, ⟨blkU_ BK332.out⟩, ⟨blkU_ BK333.out⟩, ⟨bel_⟩⟩
   ·rw [if_neg c11] at H
    have c11b0 := decide_eq_false c11
    clear c11
    simp only [Option.some.injEq, Prod.mk.injEq] at H
    obtain ⟨rfl, rfl, rfl, rfl⟩ := H
    have hnb14 := NB331_332.out
    have hnc14 := NB332_331.out
    have hnb15 := NB331_333.out
    have hnc15 := NB333_331.out
    obtain ⟨z16_0, z16_1, z16_2, z16_3, f16_0, f16_1, f16_2, f16_3⟩ := cz4_ BK331.out
    have hnb17 := NB333_332.out
    have hnc17 := NB332_333.out
    obtain ⟨z18_0, z18_1, z18_2, z18_3, f18_0, f18_1, f18_2, f18_3⟩ := cz4_ BK333.out
    go_wp2
    repeat (go_quiet (fail); try go_wp2)
    refine bodyPost_ret (results_cell_row rfl _ _ gb333 29 #[.int .u64 (Go.bits .xor .u64 x5_1 a0_0), .int .u64 (Go.bits .xor .u64 x6_1 a0_1), .int .u64 (Go.bits .xor .u64 x7_1 a0_2), .int .u64 (Go.bits .xor .u64 x8_1 a0_3)] (0, 0) _ rfl (blkF_ BK333.out) Try.underlying29 rfl (by kernel_rfl)) rfl ?_
    exact ⟨rfl_, bel_⟩
end
section
section
variable {P : Program} {ops : Array Oper} {Q : Exit → Act → World → Prop}
theorem goesF_ {oi : Oper} {N : Option Tmp} {a : Act} {w : World} {K : Act → World → Prop} {f : FuncId} {fn : Func} {ars : Array Operand} {ts : Array TypeId} {c : Operand} {recv : Array Value} (hf : P.funcs[f]? = some fn) (hname : (fn.name == "runtime.NumGoroutine") = false) (hb : fn.body.isSome = true) (args : Array Value)
  (hw : Region.wanted oi (yielded ops a.tmps) = true) (hN : oi.dst = N) (hop : oi.op = .call { callee := .value c, args := ars, argTypes := ts }) (hcal : a.eval c = .func (.func f) recv #[]) (hargs : recv ++ ars.map a.eval = args)
  (h : Calls P f args w fun e w' => ∃ v, e = .returned v ∧ K (a.put N v) w') : if Region.wanted oi (yielded ops a.tmps) = true then Oper.wp P oi a w K Q else K (a.put N undef) w := by
 refine call_ f args hw hN ?_ h
 have he := enters_ hf hname hb args w
 unfold execOp
 simp [hop, hcal, resolve, Deferred.ofValue, invoke, hargs, he]
end
def impl_digestOf.f (l0 : List Int) : Option (Int × Int × Int × Int) := (binary_bigEndian_Uint64.f l0).bind fun t347 => (if 8 ≤ (l0.length : Int) then ((binary_bigEndian_Uint64.f (l0.drop 8)).bind fun t349 => (if 16 ≤ (l0.length : Int) then ((binary_bigEndian_Uint64.f (l0.drop 16)).bind fun t351 => (if 24 ≤ (l0.length : Int) then ((binary_bigEndian_Uint64.f (l0.drop 24)).bind fun t353 => (some (t347, t349, t351, t353))) else (none))) else (none))) else (none))
def impl_digestOf.T2 : TT_ := (true, [([], []), ([], []), ([0, 1], [0, 1]), ([], []), ([], []), ([4], [4]), ([3, 5, 2], [3, 5]), ([], []), ([], []), ([8], [8]), ([7, 9, 6], [7, 9]), ([], []), ([], []), ([12], [12]), ([11, 13, 10], [11, 13]), ([2, 6, 10, 14], [2, 6, 10, 14]), ([15, 14, 0, 1, 2, 3, 4, 5, 6, 7, 8, 9, 10, 11, 12, 13, 14, 15], [15])])
def impl_digestOf.B2 : List Nat := [0, 0, 3, 0, 0, 16, 63, 0, 0, 256, 1023, 0, 0, 4096, 16383, 32767, 65535]
theorem impl_digestOf.tab2 : rtab .any (opsOf Try.f113 2) = impl_digestOf.T2 := by kernel_rfl
theorem impl_digestOf.bits2 : waitsOk impl_digestOf.T2.2 impl_digestOf.B2 = true := by kernel_rfl
theorem impl_digestOf.calls (A0 : Option Addr) (c0 : Nat) (l0 : List Int) (r1 r2 r3 r4 : Int) (w : World) (hr0 : Kd.C (Kd.int .u8) w A0 l0.length l0) (hc0 : l0.length ≤ c0) (h : impl_digestOf.f l0 = some (r1, r2, r3, r4)) :
  Calls Try.prog 113 #[.slice A0 l0.length c0] w fun e w' => e = .returned (.agg #[.int .u64 r1, .int .u64 r2, .int .u64 r3, .int .u64 r4]) ∧ Below w.heap.size w w' := by
 have hu29 := Try.underlying29
 have hu141 := Try.underlying141
 have HR0 := a_ hr0
 have HC0 := a_ hc0
 clear hr0 hc0
 have HB := rB_ w
 have H := h
 unfold impl_digestOf.f at H
 clear h
 obtain ⟨t347, A2, H⟩ := bnd_ H
 obtain ⟨c3, H⟩ := ifn_ H
 have c3b0 := eq_true c3
 have c3b1 := decide_eq_true c3
 clear c3
 obtain ⟨t349, A4, H⟩ := bnd_ H
 obtain ⟨c5, H⟩ := ifn_ H
 have c5b0 := eq_true c5
 have c5b1 := decide_eq_true c5
 clear c5
 obtain ⟨t351, A6, H⟩ := bnd_ H
 obtain ⟨c7, H⟩ := ifn_ H
 have c7b0 := eq_true c7
 have c7b1 := decide_eq_true c7
 clear c7
 obtain ⟨t353, A8, H⟩ := bnd_ H
 simp only [Option.some.injEq, Prod.mk.injEq] at H
 obtain ⟨rfl, rfl, rfl, rfl⟩ := H
 have hmf_ : ∀ (fn : Fn) (first cap : Array Value) (w : World), (Instr.makeFunc fn first cap).run Try.prog w = .ok (.func fn first cap) w := fun _ _ _ _ => rfl
 go_enter Try.func113, Try.ntmps113
 try go_wp2_with (first | (refine bx_ 2 #[.int .u64 0, .int .u64 0, .int .u64 0, .int .u64 0] 29 ?_; intro gb346 w9 hg hb BK346 GW346; replace HB := s_ hb; clear hb hg))
 replace BK346 := a_ (blk_drew BK346.out)
 replace HB := a_ (below_drew1 HB.out)
 obtain ⟨i011, hi011, _, hsz11, _⟩ := info_parts info5
 obtain ⟨A11, hcut11, hA11, hC11⟩ := print_drop_of (P := Try.prog) (Value.int .u8) 0 60 5 .i64 Try.underlying60 hi011 hsz11 A0 c0 l0 8 (by omega) (ofd_) HC0.out
 have HR348 := a_ (Kd.C_of_reads (h1 := fun _ => rfl) (hA11 _ (Kd.reads_of_C HR0.out)))
 have HC348 := a_ hC11
 clear hA11 hC11 hi011 hsz11
 obtain ⟨i012, hi012, _, hsz12, _⟩ := info_parts info5
 obtain ⟨A12, hcut12, hA12, hC12⟩ := print_drop_of (P := Try.prog) (Value.int .u8) 0 60 5 .i64 Try.underlying60 hi012 hsz12 A0 c0 l0 16 (by omega) (ofd_) HC0.out
 have HR350 := a_ (Kd.C_of_reads (h1 := fun _ => rfl) (hA12 _ (Kd.reads_of_C HR0.out)))
 have HC350 := a_ hC12
 clear hA12 hC12 hi012 hsz12
 obtain ⟨i013, hi013, _, hsz13, _⟩ := info_parts info5
 obtain ⟨A13, hcut13, hA13, hC13⟩ := print_drop_of (P := Try.prog) (Value.int .u8) 0 60 5 .i64 Try.underlying60 hi013 hsz13 A0 c0 l0 24 (by omega) (ofd_) HC0.out
 have HR352 := a_ (Kd.C_of_reads (h1 := fun _ => rfl) (hA13 _ (Kd.reads_of_C HR0.out)))
 have HC352 := a_ hC13
 clear hA13 hC13 hi013 hsz13
 refine start_ (n := 17) (S := fun w' => True) (ds := []) #[false, false, false, false, false, false, false, false, false, false, false, false, false, false, false, false, false] (by kernel_rfl) rfl rfl trivial (fun hHeld => ?_); refine with_tabW impl_digestOf.tab2 impl_digestOf.bits2 (fun HT HW_ => ?_)
 generalize w9.drew = w10 at BK346 HB HR348 HR350 HR352 hHeld ⊢
 refine qP_ 0 6 17 1 ?_
 refine qP_ 1 7 17 3 ?_
 refine qP_ 3 9 17 11 ?_
 refine qP_ 4 10 17 27 ?_
 refine qP_ 5 11 17 59 ?_
 refine qP_ 7 13 17 187 ?_
 refine qP_ 8 14 17 443 ?_
 refine qP_ 9 15 17 955 ?_
 refine qP_ 11 17 17 3003 ?_
 refine qP_ 12 18 17 7099 ?_
 refine qP_ 13 19 17 15291 ?_
 refine oneP_ 2 (some 8) (b_ 17 15295) HT (fun K hK => ?_)
 refine goesF_ Try.func129 (by kernel_rfl) rfl #[.agg #[], .slice A0 l0.length c0] (by rfl) rfl rfl (by rfl) (by (try simp only [List.map_toArray, List.map_cons, List.map_nil]); first | done | rfl | (simp only [List.length_drop, List.length_take]; rfl)) ?_
 with_reducible refine (binary_bigEndian_Uint64.calls _ _ _ _ _ ?side1 ?side2 A2.out).mono ?_
 (case side1 => exact cU_ (Kd.C_below HR0.out HB.out))
 (case side2 => exact HC0.out)
 rintro e w14 ⟨rfl, hb⟩
 refine ⟨_, rfl, ?_⟩
 replace BK346 := bb_ BK346.out hb
 replace HB := s_ hb
 (try clear hb)
 refine hK.out _ _ trivial (fun hHeld => ?_)
 clear hK K
 refine normP_ (some 8) ?_
 refine oneP_ 6 (some 12) (b_ 17 15359) HT (fun K hK => ?_)
 refine goesF_ Try.func129 (by kernel_rfl) rfl #[.agg #[], .slice A11 (l0.drop 8).length (c0 - 8)] (by rfl) rfl rfl (by rfl) (by (try simp only [List.map_toArray, List.map_cons, List.map_nil]); first | done | (rw [show (l0.drop 8).length = (l0.length - 8) from List.length_drop] <;> rfl) | rfl | (simp only [List.length_drop, List.length_take]; rfl)) ?_
 with_reducible refine (binary_bigEndian_Uint64.calls _ _ _ _ _ ?side1 ?side2 A4.out).mono ?_
 (case side1 => exact cU_ (Kd.C_below HR348.out HB.out))
 (case side2 => exact HC348.out)
 rintro e w15 ⟨rfl, hb⟩
 refine ⟨_, rfl, ?_⟩
 replace BK346 := bb_ BK346.out hb
 replace HB := s_ hb
 (try clear hb)
 refine hK.out _ _ trivial (fun hHeld => ?_)
 clear hK K
 refine normP_ (some 12) ?_
 refine oneP_ 10 (some 16) (b_ 17 16383) HT (fun K hK => ?_)
 refine goesF_ Try.func129 (by kernel_rfl) rfl #[.agg #[], .slice A12 (l0.drop 16).length (c0 - 16)] (by rfl) rfl rfl (by rfl) (by (try simp only [List.map_toArray, List.map_cons, List.map_nil]); first | done | (rw [show (l0.drop 16).length = (l0.length - 16) from List.length_drop] <;> rfl) | rfl | (simp only [List.length_drop, List.length_take]; rfl)) ?_
 with_reducible refine (binary_bigEndian_Uint64.calls _ _ _ _ _ ?side1 ?side2 A6.out).mono ?_
 (case side1 => exact cU_ (Kd.C_below HR350.out HB.out))
 (case side2 => exact HC350.out)
 rintro e w16 ⟨rfl, hb⟩
 refine ⟨_, rfl, ?_⟩
 replace BK346 := bb_ BK346.out hb
 replace HB := s_ hb
 (try clear hb)
 refine hK.out _ _ trivial (fun hHeld => ?_)
 clear hK K
 refine normP_ (some 16) ?_
 refine oneP_ 14 (some 20) (b_ 17 32767) HT (fun K hK => ?_)
 refine goesF_ Try.func129 (by kernel_rfl) rfl #[.agg #[], .slice A13 (l0.drop 24).length (c0 - 24)] (by rfl) rfl rfl (by rfl) (by (try simp only [List.map_toArray, List.map_cons, List.map_nil]); first | done | (rw [show (l0.drop 24).length = (l0.length - 24) from List.length_drop] <;> rfl) | rfl | (simp only [List.length_drop, List.length_take]; rfl)) ?_
 with_reducible refine (binary_bigEndian_Uint64.calls _ _ _ _ _ ?side1 ?side2 A8.out).mono ?_
 (case side1 => exact cU_ (Kd.C_below HR352.out HB.out))
 (case side2 => exact HC352.out)
 rintro e w17 ⟨rfl, hb⟩
 refine ⟨_, rfl, ?_⟩
 replace BK346 := bb_ BK346.out hb
 replace HB := s_ hb
 (try clear hb)
 refine hK.out _ _ trivial (fun hHeld => ?_)
 clear hK K
 refine normP_ (some 20) ?_
 refine qP_ 15 21 17 65535 ?_
 refine oneP_ 16 none (b_ 17 131071) HT (fun K hK => ?_)
 have hs18 : w17.cell? ⟨gb346, 0, none⟩ = some (.int .u64 0) := (blk_cell BK346.out 0).trans rfl
 have hfs18 := blk_frozen BK346.out 0
 have hs19 : w17.cell? ⟨gb346, 1, none⟩ = some (.int .u64 0) := (blk_cell BK346.out 1).trans rfl
 have hfs19 := blk_frozen BK346.out 1
 have hs20 : w17.cell? ⟨gb346, 2, none⟩ = some (.int .u64 0) := (blk_cell BK346.out 2).trans rfl
 have hfs20 := blk_frozen BK346.out 2
 have hs21 : w17.cell? ⟨gb346, 3, none⟩ = some (.int .u64 0) := (blk_cell BK346.out 3).trans rfl
 have hfs21 := blk_frozen BK346.out 3
 refine skip_ (w1 := ?_) (by rfl) rfl ?_ ?_
 rotate_left
 ·go_simp
  rfl
 refine hK.out _ _ trivial (fun hHeld => ?_)
 clear hK K
 refine done_ (done_of HT.out (by kernel_rfl)) ?_
 try go_wp2
 refine bodyPost_ret (results_cell_row rfl _ _ gb346 29 #[.int .u64 t347, .int .u64 t349, .int .u64 t351, .int .u64 t353] (0, 0) _ rfl (blkF_ BK346.out) Try.underlying29 rfl (by kernel_rfl)) rfl ?_
 exact ⟨rfl_, bel_⟩
end
section
mutual
def impl_HashOf.l0 : Nat → ByteArray → List Int → Int → Option (Int × Int × Int × Int)
 | 0, _, _, _ => none
 | k + 1, x0, x3, x4 => if x4 < (x0.size : Int) then (if 0 ≤ x4 then (if (bt x0 x4) = 255 then (impl_HashOf.l0 k x0 x3 (wrap64 (x4 + 1))) else (if x3.length < 140737488355328 then (impl_HashOf.l0 k x0 (x3 ++ [bt x0 x4]) (wrap64 (x4 + 1))) else (none))) else (none)) else (if x3.length < 140737488355328 then (impl_HashOf.l1 k (x3 ++ [128]) (IntKind.u64.wrap ((x3.length : Int)))) else (none))
def impl_HashOf.l1 : Nat → List Int → Int → Option (Int × Int × Int × Int)
 | 0, _, _ => none
 | k + 1, x3, x5 => if ((x3.length : Int) % 32) = 24 then ((binary_bigEndian_AppendUint64.f x3 x5).bind fun t364 => (impl_HashOf.l2 k t364 0 13971524466476933880 3286059910148148165 8210247237615983910 11412903256176698835)) else (if x3.length < 140737488355328 then (impl_HashOf.l1 k (x3 ++ [0]) x5) else (none))
def impl_HashOf.l2 : Nat → List Int → Int → Int → Int → Int → Int → Option (Int × Int × Int × Int)
 | 0, _, _, _, _, _, _ => none
 | k + 1, x3, x7, x368000, x368001, x368002, x368003 => if x7 < (x3.length : Int) then (if 0 ≤ x7 then (if x7 ≤ (wrap64 (x7 + 32)) then (if (wrap64 (x7 + 32)) ≤ (x3.length : Int) then ((impl_digestOf.f ((x3.take ((wrap64 (x7 + 32)) : Int).toNat).drop (x7 : Int).toNat)).bind fun bt372 => ((impl_HashBlock.f k x368000 x368001 x368002 x368003 bt372.1 bt372.2.1 bt372.2.2.1 bt372.2.2.2).bind fun bt376 => (impl_HashOf.l2 k x3 (wrap64 (x7 + 32)) bt376.1 bt376.2.1 bt376.2.2.1 bt376.2.2.2))) else (none)) else (none)) else (none)) else (some (x368000, x368001, x368002, x368003))
end
def impl_HashOf.f (k : Nat) (a0 : ByteArray) : Option (Int × Int × Int × Int) := if (a0.size : Int) > 20000 then (some (0, 0, 0, 0)) else (impl_HashOf.l0 k a0 ([] : List Int) 0)
def impl_HashOf.T18 : TT_ := (true, [([], []), ([], []), ([], []), ([], []), ([3], [3]), ([1, 2, 4], [1, 2, 4]), ([5], [5]), ([0, 6, 6], [0, 6]), ([7, 7, 0, 1, 2, 3, 4, 5, 6, 7], [7])])
def impl_HashOf.B18 : List Nat := [0, 0, 0, 0, 8, 30, 62, 127, 255]
theorem impl_HashOf.tab18 : rtab .any (opsOf Try.f68 18) = impl_HashOf.T18 := by kernel_rfl
theorem impl_HashOf.bits18 : waitsOk impl_HashOf.T18.2 impl_HashOf.B18 = true := by kernel_rfl
theorem impl_HashOf.calls (k : Nat) (a0 : ByteArray) (r1 r2 r3 r4 : Int) (w : World) (h : impl_HashOf.f k a0 = some (r1, r2, r3, r4)) :
  Calls Try.prog 68 #[.string a0] w fun e w' => e = .returned (.agg #[.int .u64 r1, .int .u64 r2, .int .u64 r3, .int .u64 r4]) ∧ Below w.heap.size w w' := by
 have hu29 := Try.underlying29
 have hu141 := Try.underlying141
 have HB := rB_ w
 have H := h
 unfold impl_HashOf.f at H
 clear h
 by_cases c2 : (a0.size : Int) > 20000
 ·rw [if_pos c2] at H
  have c2b0 : decide (20000 < (a0.size : Int)) = true := decide_eq_true c2
  have c2b1 : decide (20000 < a0.size) = true := decide_eq_true (by omega)
  clear c2
  simp only [Option.some.injEq, Prod.mk.injEq] at H
  obtain ⟨rfl, rfl, rfl, rfl⟩ := H
  go_enter Try.func68, Try.ntmps68
  go_wp2_with (first | (refine bx_ 2 #[.int .u64 0, .int .u64 0, .int .u64 0, .int .u64 0] 29 ?_; intro gb354 w3 hg hb BK354 GW354; replace HB := s_ hb; clear hb hg; obtain ⟨z4_0, z4_1, z4_2, z4_3, f4_0, f4_1, f4_2, f4_3⟩ := cz4_ BK354.out))
  refine bodyPost_ret (results_cell_row rfl _ _ gb354 29 #[.int .u64 0, .int .u64 0, .int .u64 0, .int .u64 0] (0, 0) _ rfl (blkF_ BK354.out) Try.underlying29 rfl (by kernel_rfl)) rfl ?_
  exact ⟨rfl_, bel_⟩
 ·rw [if_neg c2] at H
  have c2b0 : decide (20000 < (a0.size : Int)) = false := decide_eq_false c2
  have c2b1 : decide (20000 < a0.size) = false := decide_eq_false (by omega)
  clear c2
  have H' := a_ H
  clear H
  go_enter Try.func68, Try.ntmps68
  go_wp2_with (first | (refine bx_ 2 #[.int .u64 0, .int .u64 0, .int .u64 0, .int .u64 0] 29 ?_; intro gb354 w5 hg hb BK354 GW354; replace HB := s_ hb; clear hb hg))
  go_loopg [3, 4] k (fun kq v3 v4 w' => ∃ (x3_1 : List Int) (x4_1 : Int), v4 = .int .i64 x4_1 ∧ Aside0 (impl_HashOf.l0 kq a0 x3_1 x4_1 = some (r1, r2, r3, r4)) ∧ Aside0 (kq ≤ k) ∧ Aside0 (Kd.R (Kd.int .u8) 5 w' w.heap.size (fun _ => True) v3 x3_1) ∧ Aside0 (w'.heap[gb354]? = some (.cells #[.int .u64 0, .int .u64 0, .int .u64 0, .int .u64 0] 29 (0, 0))) ∧ Aside0 (Below w.heap.size w w'))
  case atStart => exact ⟨(([] : List Int)), (0), rl_, H', ⟨Nat.le_refl _⟩, ⟨by first | exact Kd.R_nil _ _ _ _ _ | exact Kd.N_nil _ _ _ _ _ | exact Kd.V_nil _ _ _ _ _ | exact Kd.Q_nil _ _ _ _ _ | exact Kd.S_nil _ _ _ _ _⟩, ⟨blkU_ BK354.out⟩, ⟨bel_⟩⟩
  case round =>
   clear H'
   (try clear c2); (try clear c2b0); (try clear c2b1); (try clear z4_0 z4_1 z4_2 z4_3); (try clear f4_0 f4_1 f4_2 f4_3)
   obtain ⟨x3_1, x4_1, rfl, HA, HK1, HO_3, BK354, HB⟩ := hrel
   cases gk with
   | zero => exact absurd HA.out (by simp [impl_HashOf.l0])
   | succ k1 =>
    have H := HA.out
    clear HA
    simp only [impl_HashOf.l0] at H
    by_cases c6 : x4_1 < (a0.size : Int)
    ·rw [if_pos c6] at H
     have c6b0 := decide_eq_true c6
     clear c6
     obtain ⟨c7b0, H⟩ := ifd_ H
     by_cases c9 : (bt a0 x4_1) = 255
     ·rw [if_pos c9] at H
      have c9b0 := beq_iff_eq.mpr c9
      have c9b1 := bne_eq_false_iff_eq.mpr c9
      clear c9
      have H' := a_ H
      clear H
      have p8 : 0 ≤ (x4_1 : Int) := ofd_
      have q8 : x4_1 < (a0.size : Int) := ofd_
      have hx8 := bt_at a0 x4_1
      replace p8 := eq_true p8
      replace q8 := eq_true q8
      go_wp2
      go_roundg k1
      case measure => have := HK1.out; omega
      case rel => exact ⟨(x3_1), (wrap64 (x4_1 + 1)), rl_, H', ⟨by have := HK1.out; omega⟩, ⟨kdU_ HO_3.out⟩, ⟨blkU_ BK354.out⟩, ⟨bel_⟩⟩
     ·rw [if_neg c9] at H
      have c9b0 := beq_eq_false_iff_ne.mpr c9
      have c9b1 := bne_iff_ne.mpr c9
      obtain ⟨c11, H⟩ := ifn_ H
      have LMc11 := a_ c11
      clear c11
      obtain ⟨y355, hy355⟩ : ∃ y_ : List Int, y_ = (x3_1 ++ [bt a0 x4_1]) := ⟨_, rfl⟩
      replace H : (impl_HashOf.l0 k1 a0 y355 (wrap64 (x4_1 + 1))) = some (r1, r2, r3, r4) := rpl_ hy355 H
      have Ny355 := a_ hy355
      clear hy355
      have H' := a_ H
      clear H
      have p8 : 0 ≤ (x4_1 : Int) := ofd_
      have q8 : x4_1 < (a0.size : Int) := ofd_
      have hx8 := bt_at a0 x4_1
      replace p8 := eq_true p8
      replace q8 := eq_true q8
      have p10 : 0 ≤ (x4_1 : Int) := ofd_
      have q10 : x4_1 < (a0.size : Int) := ofd_
      have hx10 := bt_at a0 x4_1
      replace p10 := eq_true p10
      replace q10 := eq_true q10
      go_wp2_with (first | ((with_reducible refine gate_builtin (b := .append) (xs := #[.tmp 22, .tmp 26]) rfl ?_); at_builtin; refine Kd.R_append (Kd.int .u8) (w0 := w) w.heap.size rfl (.tmp 22) (.tmp 26) 60 5 (.int .u8 0) 1 rfl Try.underlying60 info5 rfl (by decide) (by omega) u3 x3_1 (bt a0 x4_1) [.int .u8 (bt a0 x4_1)] (fun _ => True) (fun _ => False) rfl rfl ?aP (fun _ hk => hk.elim) ?aF ?aO ?aB ?aS ?aL ?_; (case aP => exact rfl); (case aB => exact bel_); (case aF => exact (fun _ _ => trivial)); (case aO => exact (kdU_ HO_3.out)); (case aS => exact (below_size bel_)); (case aL => have := LMc11.out; omega); intro v356 w12 ho hb hg hat; rw [← Ny355.out] at ho; replace BK354 := a_ (blk_grown (g := gb354) (o := .cells #[.int .u64 0, .int .u64 0, .int .u64 0, .int .u64 0] 29 (0, 0)) (blkU_ BK354.out) hg (Kd.R_ne HO_3.out BK354.out (by decide))); replace HB := a_ (hb); have HO357 := a_ (ho); clear HO_3; clear ho hb hg hat))
      go_roundg k1
      case measure => have := HK1.out; omega
      case rel => exact ⟨(y355), (wrap64 (x4_1 + 1)), rl_, H', ⟨by have := HK1.out; omega⟩, ⟨kdU_ HO357.out⟩, ⟨blkU_ BK354.out⟩, ⟨bel_⟩⟩
    ·rw [if_neg c6] at H
     have c6b0 := decide_eq_false c6
     clear c6
     obtain ⟨c13, H⟩ := ifn_ H
     have LMc13 := a_ c13
     clear c13
     obtain ⟨y358, hy358⟩ : ∃ y_ : List Int, y_ = (x3_1 ++ [128]) := ⟨_, rfl⟩
     replace H : (impl_HashOf.l1 k1 y358 (IntKind.u64.wrap ((x3_1.length : Int)))) = some (r1, r2, r3, r4) := rpl_ hy358 H
     have Ny358 := a_ hy358
     clear hy358
     have H' := a_ H
     clear H
     obtain ⟨Ao14, co14, eo14⟩ := Kd.R_slice HO_3.out
     subst eo14
     go_wp2_with (first | ((with_reducible refine gate_builtin (b := .append) (xs := #[.tmp 31, .tmp 32]) rfl ?_); at_builtin; refine Kd.R_append (Kd.int .u8) (w0 := w) w.heap.size rfl (.tmp 31) (.tmp 32) 60 5 (.int .u8 0) 1 rfl Try.underlying60 info5 rfl (by decide) (by omega) (.slice Ao14 x3_1.length co14) x3_1 128 [.int .u8 128] (fun _ => True) (fun _ => False) rfl rfl ?aP (fun _ hk => hk.elim) ?aF ?aO ?aB ?aS ?aL ?_; (case aP => exact rfl); (case aB => exact bel_); (case aF => exact (fun _ _ => trivial)); (case aO => exact (kdU_ HO_3.out)); (case aS => exact (below_size bel_)); (case aL => have := LMc13.out; omega); intro v359 w15 ho hb hg hat; rw [← Ny358.out] at ho; replace BK354 := a_ (blk_grown (g := gb354) (o := .cells #[.int .u64 0, .int .u64 0, .int .u64 0, .int .u64 0] 29 (0, 0)) (blkU_ BK354.out) hg (Kd.R_ne HO_3.out BK354.out (by decide))); replace HB := a_ (hb); have HO360 := a_ (ho); clear HO_3; clear ho hb hg hat))
     go_loopg [3] k1 (fun kq v3 w' => ∃ (x3_2 : List Int), Aside0 (impl_HashOf.l1 kq x3_2 (IntKind.u64.wrap ((x3_1.length : Int))) = some (r1, r2, r3, r4)) ∧ Aside0 (kq ≤ k1) ∧ Aside0 (Kd.R (Kd.int .u8) 5 w' w.heap.size (fun _ => True) v3 x3_2) ∧ Aside0 (w'.heap[gb354]? = some (.cells #[.int .u64 0, .int .u64 0, .int .u64 0, .int .u64 0] 29 (0, 0))) ∧ Aside0 (Below w.heap.size w w'))
     case atStart => exact ⟨(y358), H', ⟨Nat.le_refl _⟩, ⟨kdU_ HO360.out⟩, ⟨blkU_ BK354.out⟩, ⟨bel_⟩⟩
     case round =>
      clear H'
      (try clear c2); (try clear c2b0); (try clear c2b1); (try clear c6); (try clear c6b0); (try clear c7); (try clear c7b0); (try clear p8); (try clear q8); (try clear hx8); (try clear c9); (try clear c9b0); (try clear c9b1); (try clear p10); (try clear q10); (try clear hx10); (try clear c11); (try clear c13); (try clear z4_0 z4_1 z4_2 z4_3); (try clear f4_0 f4_1 f4_2 f4_3)
      obtain ⟨x3_2, HA, HK2, HO_3, BK354, HB⟩ := hrel
      cases gk with
      | zero => exact absurd HA.out (by simp [impl_HashOf.l1])
      | succ k2 =>
       have H := HA.out
       clear HA
       simp only [impl_HashOf.l1] at H
       by_cases c16 : ((x3_2.length : Int) % 32) = 24
       ·rw [if_pos c16] at H
        have c16b0 := beq_iff_eq.mpr c16
        have c16b1 := bne_eq_false_iff_eq.mpr c16
        clear c16
        obtain ⟨t364, A17, H⟩ := bnd_ H
        have H' := a_ H
        clear H
        obtain ⟨Ao18, co18, eo18⟩ := Kd.R_slice HO_3.out
        subst eo18
        go_wp2_with (first | (refine gcL_ 111 (some 44) Try.func111 #[.agg #[], .slice Ao18 x3_2.length co18, .int .u64 (IntKind.u64.wrap ((x3_1.length : Int)))] ?_; (with_reducible refine (binary_bigEndian_AppendUint64.calls (fun k_ => some k_ = (.slice Ao18 x3_2.length co18 : Value).ownBlock) (.slice Ao18 x3_2.length co18) _ _ _ w _ ?side1 ?side2 A17.out).mono ?_); (case side1 => exact bel_); (case side2 => exact Kd.R_tight rfl HO_3.out); rintro e w19 ⟨v365, rfl, ho0, hb, hkp⟩; refine ⟨_, rfl, ?_⟩; replace BK354 := a_ (blk_kept (blkU_ BK354.out) hkp (fun hs_ => (fun e_ => (Kd.R_ne HO_3.out BK354.out (by decide)) e_) hs_)); have HO366 := a_ (Kd.R_mono (ok' := fun k_ => True) ho0 (fun k_ hk_ => trivial)); replace HB := a_ (hb); clear HO_3; clear hb; (try clear hkp); (try clear ho0)) | (refine bx_ 6 #[.int .u64 0, .int .u64 0, .int .u64 0, .int .u64 0] 29 ?_; intro gb367 w20 hg hb BK367 GW367; replace HO366 := rb_ HO366.out hb; replace HB := s_ hb; obtain ⟨NB354_367, NB367_354⟩ := ne2_ BK354.out hg; replace BK354 := bb_ BK354.out hb; clear hb hg; have hnb21 := NB367_354.out; have hnc21 := NB354_367.out; obtain ⟨z22_0, z22_1, z22_2, z22_3, f22_0, f22_1, f22_2, f22_3⟩ := cz4_ BK367.out))
        go_loopg [7] k2 (fun kq v7 w' => ∃ (x7_3 x368000_3 x368001_3 x368002_3 x368003_3 : Int), v7 = .int .i64 x7_3 ∧ Aside0 (impl_HashOf.l2 kq t364 x7_3 x368000_3 x368001_3 x368002_3 x368003_3 = some (r1, r2, r3, r4)) ∧ Aside0 (kq ≤ k2) ∧ Aside0 (Kd.R (Kd.int .u8) 5 w' w.heap.size (fun _ => True) v365 t364) ∧ Aside0 (w'.heap[gb354]? = some (.cells #[.int .u64 0, .int .u64 0, .int .u64 0, .int .u64 0] 29 (0, 0))) ∧ Aside0 (w'.heap[gb367]? = some (.cells #[.int .u64 x368000_3, .int .u64 x368001_3, .int .u64 x368002_3, .int .u64 x368003_3] 29 (0, 0))) ∧ Aside0 (Below w.heap.size w w'))
        case atStart => exact ⟨(0), (13971524466476933880), (3286059910148148165), (8210247237615983910), (11412903256176698835), rl_, H', ⟨Nat.le_refl _⟩, ⟨uR_ (Kd.R_mono (Kd.R_far (p := ⟨gb367, 3, none⟩) (Kd.R_far (p := ⟨gb367, 2, none⟩) (Kd.R_far (p := ⟨gb367, 1, none⟩) (Kd.R_far (p := ⟨gb367, 0, none⟩) (Kd.R_types HO366.out BK367.out (by decide)) (fun _ hk => hk.2) (.int .u64 13971524466476933880)) (fun _ hk => hk.2) (.int .u64 3286059910148148165)) (fun _ hk => hk.2) (.int .u64 8210247237615983910)) (fun _ hk => hk.2) (.int .u64 11412903256176698835)) (fun _ hk => trivial))⟩, ⟨blkU_ BK354.out⟩, ⟨blkF_ BK367.out⟩, ⟨bel_⟩⟩
        case round =>
         clear H'
         (try clear c2); (try clear c2b0); (try clear c2b1); (try clear c6); (try clear c6b0); (try clear c7); (try clear c7b0); (try clear p8); (try clear q8); (try clear hx8); (try clear c9); (try clear c9b0); (try clear c9b1); (try clear p10); (try clear q10); (try clear hx10); (try clear c11); (try clear c13); (try clear c16); (try clear c16b0); (try clear c16b1); (try clear z22_0 z22_1 z22_2 z22_3); (try clear z4_0 z4_1 z4_2 z4_3); (try clear f22_0 f22_1 f22_2 f22_3); (try clear f4_0 f4_1 f4_2 f4_3)
         obtain ⟨x7_3, x368000_3, x368001_3, x368002_3, x368003_3, rfl, HA, HK3, HO_3, BK354, BK367, HB⟩ := hrel
         cases gk with
         | zero => exact absurd HA.out (by simp [impl_HashOf.l2])
         | succ k3 =>
          have H := HA.out
          clear HA
          simp only [impl_HashOf.l2] at H
          by_cases c23 : x7_3 < (t364.length : Int)
          ·rw [if_pos c23] at H
           have c23b0 := decide_eq_true c23
           clear c23
           obtain ⟨c24, H⟩ := ifn_ H
           have c24b0 := eq_true c24
           have c24b1 := decide_eq_true c24
           clear c24
           obtain ⟨c25, H⟩ := ifn_ H
           have c25b0 := eq_true c25
           have c25b1 := decide_eq_true c25
           obtain ⟨c26, H⟩ := ifn_ H
           have c26b0 := eq_true c26
           have c26b1 := decide_eq_true c26
           obtain ⟨y368, hy368⟩ : ∃ y_ : List Int, y_ = ((t364.take ((wrap64 (x7_3 + 32)) : Int).toNat).drop (x7_3 : Int).toNat) := ⟨_, rfl⟩
           replace H : ((impl_digestOf.f y368).bind fun bt372 => ((impl_HashBlock.f k3 x368000_3 x368001_3 x368002_3 x368003_3 bt372.1 bt372.2.1 bt372.2.2.1 bt372.2.2.2).bind fun bt376 => (impl_HashOf.l2 k3 t364 (wrap64 (x7_3 + 32)) bt376.1 bt376.2.1 bt376.2.2.1 bt376.2.2.2))) = some (r1, r2, r3, r4) := rpl_ hy368 H
           have Ny368 := a_ hy368
           clear hy368
           obtain ⟨⟨t372, t373, t374, t375⟩, A27, H⟩ := bnd_ H
           dsimp only at H
           obtain ⟨⟨t376, t377, t378, t379⟩, A28, H⟩ := bnd_ H
           dsimp only at H
           have H' := a_ H
           clear H
           obtain ⟨Ao29, co29, eo29⟩ := Kd.R_slice HO_3.out
           subst eo29
           try go_wp2
           replace HO_3 := a_ (Kd.R_drew HO_3.out)
           replace BK354 := a_ (blk_drew BK354.out)
           replace BK367 := a_ (blk_drew BK367.out)
           replace HB := a_ (below_drew1 HB.out)
           have q31 : ((wrap64 (x7_3 + 32)) : Int) ≤ ((t364.length : Int) : Int) := ofd_
           obtain ⟨i031, hi031, _, hsz31, _⟩ := info_parts info5
           have hroom31 : t364.length ≤ co29 := (Kd.R_reads' HO_3.out).2.1
           have hC31 : Kd.C (Kd.int .u8) _ Ao29 t364.length t364 := (Kd.R_reads' HO_3.out).2.2
           have ql31 : (x7_3 : Int) ≤ ((wrap64 (x7_3 + 32)) : Int) := ofd_
           have q031 : (0 : Int) ≤ (x7_3 : Int) := ofd_
           have hcut31 := cut_mid (P := Try.prog) 60 5 .i64 .i64 Try.underlying60 hi031 1 hsz31 Ao29 t364.length co29 x7_3 (wrap64 (x7_3 + 32)) q031 ql31 q31 hroom31
           have hr31 := Kd.C_mid (lo := (x7_3 : Int).toNat) (hi := ((wrap64 (x7_3 + 32)) : Int).toNat) (c := co29) hC31 (by omega) (by omega) hroom31
           obtain ⟨A31, hA31⟩ : ∃ A1, A1 = (if co29 = (x7_3 : Int).toNat then Ao29 else (Ao29 : Option Addr).map (·.add ((x7_3 : Int).toNat * 1))) := ⟨_, rfl⟩
           obtain ⟨c31, hc31⟩ : ∃ c1, c1 = co29 - (x7_3 : Int).toNat := ⟨_, rfl⟩
           have hy31 : y368.length = ((wrap64 (x7_3 + 32)) : Int).toNat - (x7_3 : Int).toNat := (by rw [Ny368.out, List.length_drop, List.length_take] <;> omega)
           rw [show ((t364).take ((wrap64 (x7_3 + 32)) : Int).toNat).drop (x7_3 : Int).toNat = y368 from Ny368.out.symm] at hr31
           replace hr31 : Kd.C (Kd.int .u8) _ A31 y368.length y368 := (by rw [hA31]; exact hr31)
           rw [← hy31, ← hA31, ← hc31] at hcut31
           have HR371 := a_ hr31
           have HC371 := a_ (show y368.length ≤ c31 from by rw [hy31, hc31]; exact Nat.sub_le_sub_right (Nat.le_trans (by omega) hroom31) _)
           clear hr31 hC31 hroom31 hi031 hsz31 hc31
           have KY31 := a_ hy31
           have KA31 := a_ hA31
           clear hy31 hA31
           have KL31 := a_ (show ((wrap64 (x7_3 + 32)) : Int).toNat ≤ t364.length from by omega)
           have KM31 := a_ (show (x7_3 : Int).toNat ≤ ((wrap64 (x7_3 + 32)) : Int).toNat from by omega)
           replace q31 := eq_true q31
           refine start_ (n := 9) (S := fun w' => hd4_ w' gb367 (.int .u64 x368000_3) (.int .u64 x368001_3) (.int .u64 x368002_3) (.int .u64 x368003_3)) (ds := [8]) #[false, false, false, false, false, false, false, false, false] (by kernel_rfl) rfl rfl (hc4_ BK367.out) (fun hHeld => ?_); refine with_tabW impl_HashOf.tab18 impl_HashOf.bits18 (fun HT HW_ => ?_)
           generalize wr.drew = w30 at HO_3 BK354 BK367 HB HR371 hHeld ⊢
           refine qP_ 1 53 9 2 ?_
           refine qP_ 2 54 9 6 ?_
           refine qP_ 3 55 9 14 ?_
           refine qP_ 4 56 9 30 ?_
           refine qP_ 5 57 9 62 ?_
           refine qT_ 0 52 9 63 ?_
           refine oneP_ 6 (some 58) (b_ 9 127) HT (fun K hK => ?_)
           refine goN_ Try.func113 #[.slice A31 y368.length c31] ?_
           with_reducible refine (impl_digestOf.calls _ _ _ _ _ _ _ _ ?side1 ?side2 A27.out).mono ?_
           (case side1 => repeat (first | exact (by repeat (first | (with_reducible exact HR371.out) | (with_reducible refine Kd.C_alloc ?_ _) | (with_reducible refine Kd.C_drewN ?_ _) | (with_reducible refine Kd.C_drew ?_) | exact HR371.out)) | (with_reducible refine Kd.C_alloc ?_ _) | (with_reducible refine Kd.C_drewN ?_ _) | (with_reducible refine Kd.C_drew ?_)))
           (case side2 => exact HC371.out)
           rintro e w32 ⟨rfl, hb⟩
           refine ⟨_, rfl, ?_⟩
           replace HO_3 := rb_ HO_3.out hb
           replace BK354 := bb_ BK354.out hb
           replace BK367 := bb_ BK367.out hb
           replace HR371 := a_ (Kd.C_below (by repeat (first | (with_reducible exact HR371.out) | (with_reducible refine Kd.C_alloc ?_ _) | (with_reducible refine Kd.C_drewN ?_ _) | (with_reducible refine Kd.C_drew ?_) | exact HR371.out)) hb)
           replace HB := s_ hb
           (try clear hb); (try clear hi)
           refine hK.out _ _ (hc4_ BK367.out) (fun hHeld => ?_)
           clear hK K
           refine normP_ (some 58) ?_
           refine oneP_ 7 (some 59) (b_ 9 255) HT (fun K hK => ?_)
           refine goN_ Try.func112 #[.agg #[.int .u64 x368000_3, .int .u64 x368001_3, .int .u64 x368002_3, .int .u64 x368003_3], .agg #[.int .u64 t372, .int .u64 t373, .int .u64 t374, .int .u64 t375]] ?_
           with_reducible refine (impl_HashBlock.calls _ _ _ _ _ _ _ _ _ _ _ _ _ _ A28.out).mono ?_
           rintro e w33 ⟨rfl, hb⟩
           refine ⟨_, rfl, ?_⟩
           replace HO_3 := rb_ HO_3.out hb
           replace BK354 := bb_ BK354.out hb
           replace BK367 := bb_ BK367.out hb
           replace HR371 := a_ (Kd.C_below (by repeat (first | (with_reducible exact HR371.out) | (with_reducible refine Kd.C_alloc ?_ _) | (with_reducible refine Kd.C_drewN ?_ _) | (with_reducible refine Kd.C_drew ?_) | exact HR371.out)) hb)
           replace HB := s_ hb
           (try clear hb); (try clear hi)
           refine hK.out _ _ (hc4_ BK367.out) (fun hHeld => ?_)
           clear hK K
           refine normP_ (some 59) ?_
           refine last_ (i := 8) (N := none) (b_ 9 511) rfl rfl (one_of HT.out (by kernel_rfl)) (by decide) (fun K hK => ?_)
           have hs34 : w33.cell? ⟨gb367, 0, none⟩ = some (.int .u64 x368000_3) := (blk_cell BK367.out 0).trans rfl
           have hfs34 := blk_frozen BK367.out 0
           have hns34_0 := NB354_367.out
           have hms34_0 := NB367_354.out
           have hs35 : w33.cell? ⟨gb367, 1, none⟩ = some (.int .u64 x368001_3) := (blk_cell BK367.out 1).trans rfl
           have hfs35 := blk_frozen BK367.out 1
           have hns35_0 := NB354_367.out
           have hms35_0 := NB367_354.out
           have hs36 : w33.cell? ⟨gb367, 2, none⟩ = some (.int .u64 x368002_3) := (blk_cell BK367.out 2).trans rfl
           have hfs36 := blk_frozen BK367.out 2
           have hns36_0 := NB354_367.out
           have hms36_0 := NB367_354.out
           have hs37 : w33.cell? ⟨gb367, 3, none⟩ = some (.int .u64 x368003_3) := (blk_cell BK367.out 3).trans rfl
           have hfs37 := blk_frozen BK367.out 3
           have hns37_0 := NB354_367.out
           have hms37_0 := NB367_354.out
           refine skip_ (w1 := ?_) (by rfl) rfl ?_ ?_
           rotate_left
           ·go_simp
            rfl
           refine hK.out _ _ ?_
           clear hK K
           refine done_ (done_of HT.out (by kernel_rfl)) ?_
           try go_wp2
           go_roundg k3
           case measure => have := HK1.out; have := HK2.out; have := HK3.out; omega
           case rel => exact ⟨(wrap64 (x7_3 + 32)), (t376), (t377), (t378), (t379), rl_, H', ⟨by have := HK1.out; have := HK2.out; have := HK3.out; omega⟩, ⟨uR_ (Kd.R_mono (Kd.R_far (p := ⟨gb367, 3, none⟩) (Kd.R_far (p := ⟨gb367, 2, none⟩) (Kd.R_far (p := ⟨gb367, 1, none⟩) (Kd.R_far (p := ⟨gb367, 0, none⟩) (Kd.R_types HO_3.out BK367.out (by decide)) (fun _ hk => hk.2) (.int .u64 t376)) (fun _ hk => hk.2) (.int .u64 t377)) (fun _ hk => hk.2) (.int .u64 t378)) (fun _ hk => hk.2) (.int .u64 t379)) (fun _ hk => trivial))⟩, ⟨blkU_ BK354.out⟩, ⟨blkF_ BK367.out⟩, ⟨bel_⟩⟩
          ·rw [if_neg c23] at H
           have c23b0 := decide_eq_false c23
           clear c23
           simp only [Option.some.injEq, Prod.mk.injEq] at H
           obtain ⟨rfl, rfl, rfl, rfl⟩ := H
           obtain ⟨Ao38, co38, eo38⟩ := Kd.R_slice HO_3.out
           subst eo38
           have hnb39 := NB367_354.out
           have hnc39 := NB354_367.out
           obtain ⟨z40_0, z40_1, z40_2, z40_3, f40_0, f40_1, f40_2, f40_3⟩ := cz4_ BK367.out
           obtain ⟨z41_0, z41_1, z41_2, z41_3, f41_0, f41_1, f41_2, f41_3⟩ := cz4_ BK354.out
           go_wp2
           refine bodyPost_ret (results_cell_row rfl _ _ gb354 29 #[.int .u64 x368000_3, .int .u64 x368001_3, .int .u64 x368002_3, .int .u64 x368003_3] (0, 0) _ rfl (blkF_ BK354.out) Try.underlying29 rfl (by kernel_rfl)) rfl ?_
           exact ⟨rfl_, bel_⟩
       ·rw [if_neg c16] at H
        have c16b0 := beq_eq_false_iff_ne.mpr c16
        have c16b1 := bne_iff_ne.mpr c16
        obtain ⟨c42, H⟩ := ifn_ H
        have LMc42 := a_ c42
        clear c42
        obtain ⟨y361, hy361⟩ : ∃ y_ : List Int, y_ = (x3_2 ++ [0]) := ⟨_, rfl⟩
        replace H : (impl_HashOf.l1 k2 y361 (IntKind.u64.wrap ((x3_1.length : Int)))) = some (r1, r2, r3, r4) := rpl_ hy361 H
        have Ny361 := a_ hy361
        clear hy361
        have H' := a_ H
        clear H
        obtain ⟨Ao43, co43, eo43⟩ := Kd.R_slice HO_3.out
        subst eo43
        go_wp2_with (first | ((with_reducible refine gate_builtin (b := .append) (xs := #[.tmp 38, .tmp 39]) rfl ?_); at_builtin; refine Kd.R_append (Kd.int .u8) (w0 := w) w.heap.size rfl (.tmp 38) (.tmp 39) 60 5 (.int .u8 0) 1 rfl Try.underlying60 info5 rfl (by decide) (by omega) (.slice Ao43 x3_2.length co43) x3_2 0 [.int .u8 0] (fun _ => True) (fun _ => False) rfl rfl ?aP (fun _ hk => hk.elim) ?aF ?aO ?aB ?aS ?aL ?_; (case aP => exact rfl); (case aB => exact bel_); (case aF => exact (fun _ _ => trivial)); (case aO => exact (kdU_ HO_3.out)); (case aS => exact (below_size bel_)); (case aL => have := LMc42.out; omega); intro v362 w44 ho hb hg hat; rw [← Ny361.out] at ho; replace BK354 := a_ (blk_grown (g := gb354) (o := .cells #[.int .u64 0, .int .u64 0, .int .u64 0, .int .u64 0] 29 (0, 0)) (blkU_ BK354.out) hg (Kd.R_ne HO_3.out BK354.out (by decide))); replace HB := a_ (hb); have HO363 := a_ (ho); clear HO_3; clear ho hb hg hat))
        go_roundg k2
        case measure => have := HK1.out; have := HK2.out; omega
        case rel => exact ⟨(y361), H', ⟨by have := HK1.out; have := HK2.out; omega⟩, ⟨kdU_ HO363.out⟩, ⟨blkU_ BK354.out⟩, ⟨bel_⟩⟩
end
section
def spec_PeaksCount.l0 : Nat → Int → Int → Option (Int)
 | 0, _, _ => none
 | k + 1, x0, x1 => if x0 > 0 then (spec_PeaksCount.l0 k (wrap64 (Int.tdiv x0 2)) (wrap64 (x1 + (Int.tmod x0 2)))) else (some x1)
def spec_PeaksCount.f (k : Nat) (a0 : Int) : Option (Int) := (spec_l1In.f a0 0 256).bind fun t0 => (if t0 = true then (spec_PeaksCount.l0 k a0 0) else (some 0))
theorem spec_PeaksCount.calls (k : Nat) (a0 r : Int) (w : World) (h : spec_PeaksCount.f k a0 = some r) :
  Calls Try.prog 50 #[.int .i64 a0] w fun e w' => e = .returned (.int .i64 r) ∧ Drawn0 w w' := by
 have H := h
 unfold spec_PeaksCount.f at H
 clear h
 obtain ⟨t0, A0, H⟩ := bnd_ H
 by_cases c3 : t0 = true
 ·subst c3
  rw [if_pos rfl] at H
  have H' := a_ H
  clear H
  go_enter Try.func50, Try.ntmps50
  go_wp2_with (first | (refine gcD_ 94 5 Try.func94 (spec_l1In.calls _ _ _ _ _ A0.out) ?_; intro nd))
  go_loopg [0, 3] k (fun kq v0 v1 w' => ∃ (x0 x1 : Int), v0 = .int .i64 x0 ∧ v1 = .int .i64 x1 ∧ Aside0 (spec_PeaksCount.l0 kq x0 x1 = some r) ∧ Aside0 (kq ≤ k) ∧ Drawn0 w w')
  case atStart => exact ⟨(a0), (0), rl_, rl_, H', ⟨Nat.le_refl _⟩, by repeat (first | exact Drawn0.refl _ | apply Drawn0.step)⟩
  case round =>
   clear H'
   (try clear c3)
   obtain ⟨x0, x1, rfl, rfl, HA, HK1, ⟨m1, rfl⟩⟩ := hrel
   cases gk with
   | zero => exact absurd HA.out (by simp [spec_PeaksCount.l0])
   | succ k1 =>
    have H := HA.out
    clear HA
    simp only [spec_PeaksCount.l0] at H
    by_cases c4 : x0 > 0
    ·rw [if_pos c4] at H
     have c0 : decide (0 < x0) = true := decide_eq_true c4
     clear c4
     have H' := a_ H
     clear H
     go_wp2
     go_roundg k1
     case measure => have := HK1.out; omega
     case rel => exact ⟨(wrap64 (Int.tdiv x0 2)), (wrap64 (x1 + (Int.tmod x0 2))), rl_, rl_, H', ⟨by have := HK1.out; omega⟩, by repeat (first | exact Drawn0.refl _ | apply Drawn0.step)⟩
    ·rw [if_neg c4] at H
     have c0 : decide (0 < x0) = false := decide_eq_false c4
     clear c4
     obtain rfl := Option.some.inj H
     go_wp2
     go_ret
     exact ⟨rl_, dr_⟩
 ·replace c3 := Bool.eq_false_iff.mpr c3
  subst c3
  rw [if_neg (show ¬ (false = true) by decide)] at H
  obtain rfl := Option.some.inj H
  go_enter Try.func50, Try.ntmps50
  go_wp2_with (first | (refine gcD_ 94 5 Try.func94 (spec_l1In.calls _ _ _ _ _ A0.out) ?_; intro nd))
  go_ret
  exact ⟨rl_, dr_⟩
end
section
def bits_OnesCount64.f (a0 : Int) : Option (Int) := some (Go.bits .and .i64 (wrap64 (IntKind.u64.wrap ((IntKind.u64.wrap ((IntKind.u64.wrap ((Go.bits .and .u64 (IntKind.u64.wrap (((IntKind.u64.wrap ((Go.bits .and .u64 ((IntKind.u64.wrap ((Go.bits .and .u64 (a0 / 2) 6148914691236517205) + (Go.bits .and .u64 a0 6148914691236517205))) / 4) 3689348814741910323) + (Go.bits .and .u64 (IntKind.u64.wrap ((Go.bits .and .u64 (a0 / 2) 6148914691236517205) + (Go.bits .and .u64 a0 6148914691236517205))) 3689348814741910323))) / 16) + (IntKind.u64.wrap ((Go.bits .and .u64 ((IntKind.u64.wrap ((Go.bits .and .u64 (a0 / 2) 6148914691236517205) + (Go.bits .and .u64 a0 6148914691236517205))) / 4) 3689348814741910323) + (Go.bits .and .u64 (IntKind.u64.wrap ((Go.bits .and .u64 (a0 / 2) 6148914691236517205) + (Go.bits .and .u64 a0 6148914691236517205))) 3689348814741910323))))) 1085102592571150095) + ((Go.bits .and .u64 (IntKind.u64.wrap (((IntKind.u64.wrap ((Go.bits .and .u64 ((IntKind.u64.wrap ((Go.bits .and .u64 (a0 / 2) 6148914691236517205) + (Go.bits .and .u64 a0 6148914691236517205))) / 4) 3689348814741910323) + (Go.bits .and .u64 (IntKind.u64.wrap ((Go.bits .and .u64 (a0 / 2) 6148914691236517205) + (Go.bits .and .u64 a0 6148914691236517205))) 3689348814741910323))) / 16) + (IntKind.u64.wrap ((Go.bits .and .u64 ((IntKind.u64.wrap ((Go.bits .and .u64 (a0 / 2) 6148914691236517205) + (Go.bits .and .u64 a0 6148914691236517205))) / 4) 3689348814741910323) + (Go.bits .and .u64 (IntKind.u64.wrap ((Go.bits .and .u64 (a0 / 2) 6148914691236517205) + (Go.bits .and .u64 a0 6148914691236517205))) 3689348814741910323))))) 1085102592571150095) / 256))) + ((IntKind.u64.wrap ((Go.bits .and .u64 (IntKind.u64.wrap (((IntKind.u64.wrap ((Go.bits .and .u64 ((IntKind.u64.wrap ((Go.bits .and .u64 (a0 / 2) 6148914691236517205) + (Go.bits .and .u64 a0 6148914691236517205))) / 4) 3689348814741910323) + (Go.bits .and .u64 (IntKind.u64.wrap ((Go.bits .and .u64 (a0 / 2) 6148914691236517205) + (Go.bits .and .u64 a0 6148914691236517205))) 3689348814741910323))) / 16) + (IntKind.u64.wrap ((Go.bits .and .u64 ((IntKind.u64.wrap ((Go.bits .and .u64 (a0 / 2) 6148914691236517205) + (Go.bits .and .u64 a0 6148914691236517205))) / 4) 3689348814741910323) + (Go.bits .and .u64 (IntKind.u64.wrap ((Go.bits .and .u64 (a0 / 2) 6148914691236517205) + (Go.bits .and .u64 a0 6148914691236517205))) 3689348814741910323))))) 1085102592571150095) + ((Go.bits .and .u64 (IntKind.u64.wrap (((IntKind.u64.wrap ((Go.bits .and .u64 ((IntKind.u64.wrap ((Go.bits .and .u64 (a0 / 2) 6148914691236517205) + (Go.bits .and .u64 a0 6148914691236517205))) / 4) 3689348814741910323) + (Go.bits .and .u64 (IntKind.u64.wrap ((Go.bits .and .u64 (a0 / 2) 6148914691236517205) + (Go.bits .and .u64 a0 6148914691236517205))) 3689348814741910323))) / 16) + (IntKind.u64.wrap ((Go.bits .and .u64 ((IntKind.u64.wrap ((Go.bits .and .u64 (a0 / 2) 6148914691236517205) + (Go.bits .and .u64 a0 6148914691236517205))) / 4) 3689348814741910323) + (Go.bits .and .u64 (IntKind.u64.wrap ((Go.bits .and .u64 (a0 / 2) 6148914691236517205) + (Go.bits .and .u64 a0 6148914691236517205))) 3689348814741910323))))) 1085102592571150095) / 256))) / 65536))) + ((IntKind.u64.wrap ((IntKind.u64.wrap ((Go.bits .and .u64 (IntKind.u64.wrap (((IntKind.u64.wrap ((Go.bits .and .u64 ((IntKind.u64.wrap ((Go.bits .and .u64 (a0 / 2) 6148914691236517205) + (Go.bits .and .u64 a0 6148914691236517205))) / 4) 3689348814741910323) + (Go.bits .and .u64 (IntKind.u64.wrap ((Go.bits .and .u64 (a0 / 2) 6148914691236517205) + (Go.bits .and .u64 a0 6148914691236517205))) 3689348814741910323))) / 16) + (IntKind.u64.wrap ((Go.bits .and .u64 ((IntKind.u64.wrap ((Go.bits .and .u64 (a0 / 2) 6148914691236517205) + (Go.bits .and .u64 a0 6148914691236517205))) / 4) 3689348814741910323) + (Go.bits .and .u64 (IntKind.u64.wrap ((Go.bits .and .u64 (a0 / 2) 6148914691236517205) + (Go.bits .and .u64 a0 6148914691236517205))) 3689348814741910323))))) 1085102592571150095) + ((Go.bits .and .u64 (IntKind.u64.wrap (((IntKind.u64.wrap ((Go.bits .and .u64 ((IntKind.u64.wrap ((Go.bits .and .u64 (a0 / 2) 6148914691236517205) + (Go.bits .and .u64 a0 6148914691236517205))) / 4) 3689348814741910323) + (Go.bits .and .u64 (IntKind.u64.wrap ((Go.bits .and .u64 (a0 / 2) 6148914691236517205) + (Go.bits .and .u64 a0 6148914691236517205))) 3689348814741910323))) / 16) + (IntKind.u64.wrap ((Go.bits .and .u64 ((IntKind.u64.wrap ((Go.bits .and .u64 (a0 / 2) 6148914691236517205) + (Go.bits .and .u64 a0 6148914691236517205))) / 4) 3689348814741910323) + (Go.bits .and .u64 (IntKind.u64.wrap ((Go.bits .and .u64 (a0 / 2) 6148914691236517205) + (Go.bits .and .u64 a0 6148914691236517205))) 3689348814741910323))))) 1085102592571150095) / 256))) + ((IntKind.u64.wrap ((Go.bits .and .u64 (IntKind.u64.wrap (((IntKind.u64.wrap ((Go.bits .and .u64 ((IntKind.u64.wrap ((Go.bits .and .u64 (a0 / 2) 6148914691236517205) + (Go.bits .and .u64 a0 6148914691236517205))) / 4) 3689348814741910323) + (Go.bits .and .u64 (IntKind.u64.wrap ((Go.bits .and .u64 (a0 / 2) 6148914691236517205) + (Go.bits .and .u64 a0 6148914691236517205))) 3689348814741910323))) / 16) + (IntKind.u64.wrap ((Go.bits .and .u64 ((IntKind.u64.wrap ((Go.bits .and .u64 (a0 / 2) 6148914691236517205) + (Go.bits .and .u64 a0 6148914691236517205))) / 4) 3689348814741910323) + (Go.bits .and .u64 (IntKind.u64.wrap ((Go.bits .and .u64 (a0 / 2) 6148914691236517205) + (Go.bits .and .u64 a0 6148914691236517205))) 3689348814741910323))))) 1085102592571150095) + ((Go.bits .and .u64 (IntKind.u64.wrap (((IntKind.u64.wrap ((Go.bits .and .u64 ((IntKind.u64.wrap ((Go.bits .and .u64 (a0 / 2) 6148914691236517205) + (Go.bits .and .u64 a0 6148914691236517205))) / 4) 3689348814741910323) + (Go.bits .and .u64 (IntKind.u64.wrap ((Go.bits .and .u64 (a0 / 2) 6148914691236517205) + (Go.bits .and .u64 a0 6148914691236517205))) 3689348814741910323))) / 16) + (IntKind.u64.wrap ((Go.bits .and .u64 ((IntKind.u64.wrap ((Go.bits .and .u64 (a0 / 2) 6148914691236517205) + (Go.bits .and .u64 a0 6148914691236517205))) / 4) 3689348814741910323) + (Go.bits .and .u64 (IntKind.u64.wrap ((Go.bits .and .u64 (a0 / 2) 6148914691236517205) + (Go.bits .and .u64 a0 6148914691236517205))) 3689348814741910323))))) 1085102592571150095) / 256))) / 65536))) / 4294967296)))) 127)
theorem bits_OnesCount64.calls (a0 r : Int) (w : World) (h : bits_OnesCount64.f a0 = some r) :
  Calls Try.prog 125 #[.int .u64 a0] w fun e w' => e = .returned (.int .i64 r) ∧ Drawn0 w w' := by
 have H := h
 unfold bits_OnesCount64.f at H
 clear h
 obtain rfl := Option.some.inj H
 go_enter Try.func125, Try.ntmps125
 go_wp2
 go_ret
 exact ⟨rl_, dr_⟩
end
section
def bits_OnesCount.f (a0 : Int) : Option (Int) := (bits_OnesCount64.f a0).bind fun t0 => (some t0)
theorem bits_OnesCount.calls (a0 r : Int) (w : World) (h : bits_OnesCount.f a0 = some r) :
  Calls Try.prog 101 #[.int .u64 a0] w fun e w' => e = .returned (.int .i64 r) ∧ Drawn0 w w' := by
 have H := h
 unfold bits_OnesCount.f at H
 clear h
 obtain ⟨t0, A0, H⟩ := bnd_ H
 obtain rfl := Option.some.inj H
 go_enter Try.func101, Try.ntmps101
 go_wp2_with (first | (refine gcD_ 125 7 Try.func125 (bits_OnesCount64.calls _ _ _ A0.out) ?_; intro nd))
 go_ret
 exact ⟨rl_, dr_⟩
end
section
def impl_PeaksCount.f (a0 : Int) : Option (Int) := (impl_in.f a0 0 256).bind fun t0 => (if t0 = true then ((bits_OnesCount.f (IntKind.u64.wrap (a0))).bind fun t1 => (some t1)) else (some 0))
theorem impl_PeaksCount.calls (a0 r : Int) (w : World) (h : impl_PeaksCount.f a0 = some r) :
  Calls Try.prog 55 #[.int .i64 a0] w fun e w' => e = .returned (.int .i64 r) ∧ Drawn0 w w' := by
 have H := h
 unfold impl_PeaksCount.f at H
 clear h
 obtain ⟨t0, A0, H⟩ := bnd_ H
 by_cases c3 : t0 = true
 ·subst c3
  rw [if_pos rfl] at H
  obtain ⟨t1, A1, H⟩ := bnd_ H
  obtain rfl := Option.some.inj H
  go_enter Try.func55, Try.ntmps55
  go_wp2_with (first | (refine gcD_ 75 4 Try.func75 (impl_in.calls _ _ _ _ _ A0.out) ?_; intro nd) | (refine gcD_ 101 8 Try.func101 (bits_OnesCount.calls _ _ _ A1.out) ?_; intro nd))
  go_ret
  exact ⟨rl_, dr_⟩
 ·replace c3 := Bool.eq_false_iff.mpr c3
  subst c3
  rw [if_neg (show ¬ (false = true) by decide)] at H
  obtain rfl := Option.some.inj H
  go_enter Try.func55, Try.ntmps55
  go_wp2_with (first | (refine gcD_ 75 4 Try.func75 (impl_in.calls _ _ _ _ _ A0.out) ?_; intro nd))
  go_ret
  exact ⟨rl_, dr_⟩
end
section
def laws_szGrowth.f (a1 a2 a3 a4 a5 : Int) (l3 : List (S24)) (a0 : Int) : Option (Int) := (laws_szDigestS.f l3 a0).bind fun t0 => (if t0 < 0 then (some (-1)) else (some t0))
theorem laws_szGrowth.calls (a0 a1 a2 a3 a4 : Int) (A0 : Option Addr) (c0 : Nat) (l3 : List (S24)) (a5 r : Int) (w : World) (hr0_5 : Kd.C k24 w A0 l3.length l3) (hc0_5 : l3.length ≤ c0) (h : laws_szGrowth.f a0 a1 a2 a3 a4 l3 a5 = some r) :
  Calls Try.prog 17 #[.agg #[.int .i64 a0, .int .u64 a1, .int .u64 a2, .int .u64 a3, .int .u64 a4, .slice A0 l3.length c0], .int .i64 a5] w fun e w' => e = .returned (.int .i64 r) ∧ Below w.heap.size w w' := by
 have hu42 := Try.underlying42
 have HR0_5 := a_ hr0_5
 have HC0_5 := a_ hc0_5
 clear hr0_5 hc0_5
 have HB := rB_ w
 have H := h
 unfold laws_szGrowth.f at H
 clear h
 obtain ⟨t0, A1, H⟩ := bnd_ H
 by_cases c4 : t0 < 0
 ·rw [if_pos c4] at H
  have c1 := decide_eq_true c4
  clear c4
  obtain rfl := Option.some.inj H
  go_enter Try.func17, Try.ntmps17
  go_wp2_with (first | (refine bx_ 2 #[.int .i64 a0, .int .u64 a1, .int .u64 a2, .int .u64 a3, .int .u64 a4, .slice A0 l3.length c0] 42 ?_; intro gb0 w1 hg hb BK0 GW0; replace HB := s_ hb; clear hb hg; obtain ⟨z0, z1, z2, z3, z4, z5, f0, f1, f2, f3, f4, f5⟩ := cz6_ BK0.out) | (refine gcD_ 18 8 Try.func18 (laws_szDigestS.calls _ _ _ _ _ _ ?side1 ?side2 A1.out) ?_; (case side1 => exact cU_ (Kd.C_below HR0_5.out HB.out)); (case side2 => exact HC0_5.out); intro nd))
  go_ret
  exact ⟨rfl_, bel_⟩
 ·rw [if_neg c4] at H
  have c1 := decide_eq_false c4
  clear c4
  obtain rfl := Option.some.inj H
  go_enter Try.func17, Try.ntmps17
  go_wp2_with (first | (refine bx_ 2 #[.int .i64 a0, .int .u64 a1, .int .u64 a2, .int .u64 a3, .int .u64 a4, .slice A0 l3.length c0] 42 ?_; intro gb0 w2 hg hb BK0 GW0; replace HB := s_ hb; clear hb hg; obtain ⟨z6, z7, z8, z9, z10, z11, f6, f7, f8, f9, f10, f11⟩ := cz6_ BK0.out) | (refine gcD_ 18 8 Try.func18 (laws_szDigestS.calls _ _ _ _ _ _ ?side1 ?side2 A1.out) ?_; (case side1 => exact cU_ (Kd.C_below HR0_5.out HB.out)); (case side2 => exact HC0_5.out); intro nd))
  go_ret
  exact ⟨rfl_, bel_⟩
end
end
end Go.Proofs.Ytflckegggopdnaa.B
