/- What the Go functions loop.example/belfry/spec.WireBytes do is what the Lean functions .f of their names here say; condition: .f gives an answer. (Written by the session's program pp.py over the kit's print; Lean checks it.) -/
import Derived.Test.YtflcbanemolkfaaZWBK
import Derived.Test.YtflcbanemolkfaaZWBM
import Derived.Test.YtflcbanemolkfaaZWBFSpecL5Has
import Derived.Test.YtflcbanemolkfaaZWBFSpecL5In
import Derived.Test.YtflcbanemolkfaaZWBFSpecL5Num
import Derived.Test.YtflcbanemolkfaaZWBFSpecWireOk
import Derived.Test.YtflcbanemolkfaaZWBGSpecPair1
namespace Go.Proofs.Ytflcbanemolkfaa.B
open Go.RowKit Go.Proofs.YtflcbanemolkfaaW.PrintWords Go.Proofs.YtflcbanemolkfaaW.PrintLast Go.Proofs.YtflcbanemolkfaaW.PrintMore
attribute [local go_sem] max2_int min2_int max_two min_two max_three min_three max_four min_four
set_option linter.unusedVariables false
set_option linter.unusedSimpArgs false
section
mutual
def spec_WireBytes.j0 : Nat → ByteArray → ByteArray → Int → Int → Int → Int → Int → Int → Int → Int → Int → List (S26) → List ByteArray → Option (ByteArray)
  | 0, _, _, _, _, _, _, _, _, _, _, _, _, _ => none
  | k + 1, x3, x4, x190000, x190001, x190002, x190003, x190004, x190005, x190006, x190007, x190008, x190009, x190010 => (spec_l5In.f k x3 102).bind fun t195 => (if t195 = true then ((spec_l5Num.f k x190002 2).bind fun t196 => (if x4.size + t196.size ≤ 9223372036854775807 then (spec_WireBytes.j1 k x3 (x4 ++ t196) x190000 x190001 x190002 x190003 x190004 x190005 x190006 x190007 x190008 x190009 x190010) else (none))) else (spec_WireBytes.j1 k x3 x4 x190000 x190001 x190002 x190003 x190004 x190005 x190006 x190007 x190008 x190009 x190010))
def spec_WireBytes.j1 : Nat → ByteArray → ByteArray → Int → Int → Int → Int → Int → Int → Int → Int → Int → List (S26) → List ByteArray → Option (ByteArray)
  | 0, _, _, _, _, _, _, _, _, _, _, _, _, _ => none
  | k + 1, x3, x4, x190000, x190001, x190002, x190003, x190004, x190005, x190006, x190007, x190008, x190009, x190010 => (spec_l5In.f k x3 110).bind fun t197 => (if t197 = true then ((spec_l5Num.f k x190003 2).bind fun t198 => (if x4.size + t198.size ≤ 9223372036854775807 then (spec_WireBytes.j2 k x3 (x4 ++ t198) x190000 x190001 x190002 x190003 x190004 x190005 x190006 x190007 x190008 x190009 x190010) else (none))) else (spec_WireBytes.j2 k x3 x4 x190000 x190001 x190002 x190003 x190004 x190005 x190006 x190007 x190008 x190009 x190010))
def spec_WireBytes.j2 : Nat → ByteArray → ByteArray → Int → Int → Int → Int → Int → Int → Int → Int → Int → List (S26) → List ByteArray → Option (ByteArray)
  | 0, _, _, _, _, _, _, _, _, _, _, _, _, _ => none
  | k + 1, x3, x4, x190000, x190001, x190002, x190003, x190004, x190005, x190006, x190007, x190008, x190009, x190010 => (spec_l5In.f k x3 114).bind fun t199 => (if t199 = true then ((spec_HashBytes.f k x190004 x190005 x190006 x190007).bind fun t200 => (if x4.size + t200.size ≤ 9223372036854775807 then (spec_WireBytes.j3 k x3 (x4 ++ t200) x190000 x190001 x190002 x190003 x190004 x190005 x190006 x190007 x190008 x190009 x190010) else (none))) else (spec_WireBytes.j3 k x3 x4 x190000 x190001 x190002 x190003 x190004 x190005 x190006 x190007 x190008 x190009 x190010))
def spec_WireBytes.j3 : Nat → ByteArray → ByteArray → Int → Int → Int → Int → Int → Int → Int → Int → Int → List (S26) → List ByteArray → Option (ByteArray)
  | 0, _, _, _, _, _, _, _, _, _, _, _, _, _ => none
  | k + 1, x3, x4, x190000, x190001, x190002, x190003, x190004, x190005, x190006, x190007, x190008, x190009, x190010 => (spec_l5In.f k x3 99).bind fun t201 => (if t201 = true then ((spec_l5Num.f k x190008 1).bind fun t202 => (if x4.size + t202.size ≤ 9223372036854775807 then (spec_WireBytes.j4 k x3 (x4 ++ t202) x190000 x190001 x190002 x190003 x190004 x190005 x190006 x190007 x190008 x190009 x190010) else (none))) else (spec_WireBytes.j4 k x3 x4 x190000 x190001 x190002 x190003 x190004 x190005 x190006 x190007 x190008 x190009 x190010))
def spec_WireBytes.j4 : Nat → ByteArray → ByteArray → Int → Int → Int → Int → Int → Int → Int → Int → Int → List (S26) → List ByteArray → Option (ByteArray)
  | 0, _, _, _, _, _, _, _, _, _, _, _, _, _ => none
  | k + 1, x3, x4, x190000, x190001, x190002, x190003, x190004, x190005, x190006, x190007, x190008, x190009, x190010 => (spec_l5In.f k x3 112).bind fun t203 => (if t203 = true then ((spec_l5Num.f k (x190009.length : Int) 1).bind fun t204 => (if x4.size + t204.size ≤ 9223372036854775807 then (spec_WireBytes.l0 k x3 (x4 ++ t204) 0 x190000 x190001 x190002 x190003 x190004 x190005 x190006 x190007 x190008 x190009 x190010) else (none))) else (spec_WireBytes.j6 k x3 x4 x190000 x190001 x190002 x190003 x190004 x190005 x190006 x190007 x190008 x190009 x190010))
def spec_WireBytes.j6 : Nat → ByteArray → ByteArray → Int → Int → Int → Int → Int → Int → Int → Int → Int → List (S26) → List ByteArray → Option (ByteArray)
  | 0, _, _, _, _, _, _, _, _, _, _, _, _, _ => none
  | k + 1, x3, x4, x190000, x190001, x190002, x190003, x190004, x190005, x190006, x190007, x190008, x190009, x190010 => (spec_l5In.f k x3 108).bind fun t207 => (if t207 = true then ((spec_l5Num.f k (x190010.length : Int) 1).bind fun t208 => (if x4.size + t208.size ≤ 9223372036854775807 then (spec_WireBytes.l1 k (x4 ++ t208) 0 x190000 x190001 x190002 x190003 x190004 x190005 x190006 x190007 x190008 x190009 x190010) else (none))) else (some x4))
def spec_WireBytes.l1 : Nat → ByteArray → Int → Int → Int → Int → Int → Int → Int → Int → Int → Int → List (S26) → List ByteArray → Option (ByteArray)
  | 0, _, _, _, _, _, _, _, _, _, _, _, _, _ => none
  | k + 1, x4, x6, x190000, x190001, x190002, x190003, x190004, x190005, x190006, x190007, x190008, x190009, x190010 => if x6 < (x190010.length : Int) then (if 0 ≤ x6 then ((spec_l5Num.f k ((rdOf ByteArray.empty x190010 x6).size : Int) 1).bind fun t210 => (if x4.size + t210.size ≤ 9223372036854775807 then (if (x4 ++ t210).size + (rdOf ByteArray.empty x190010 x6).size ≤ 9223372036854775807 then (spec_WireBytes.l1 k ((x4 ++ t210) ++ (rdOf ByteArray.empty x190010 x6)) (wrap64 (x6 + 1)) x190000 x190001 x190002 x190003 x190004 x190005 x190006 x190007 x190008 x190009 x190010) else (none)) else (none))) else (none)) else (some x4)
def spec_WireBytes.l0 : Nat → ByteArray → ByteArray → Int → Int → Int → Int → Int → Int → Int → Int → Int → Int → List (S26) → List ByteArray → Option (ByteArray)
  | 0, _, _, _, _, _, _, _, _, _, _, _, _, _, _ => none
  | k + 1, x3, x4, x5, x190000, x190001, x190002, x190003, x190004, x190005, x190006, x190007, x190008, x190009, x190010 => if x5 < (x190009.length : Int) then (if 0 ≤ x5 then ((spec_HashBytes.f k ((rd_T26 x190009 x5).f0) ((rd_T26 x190009 x5).f1) ((rd_T26 x190009 x5).f2) ((rd_T26 x190009 x5).f3)).bind fun t206 => (if x4.size + t206.size ≤ 9223372036854775807 then (spec_WireBytes.l0 k x3 (x4 ++ t206) (wrap64 (x5 + 1)) x190000 x190001 x190002 x190003 x190004 x190005 x190006 x190007 x190008 x190009 x190010) else (none))) else (none)) else (spec_WireBytes.j6 k x3 x4 x190000 x190001 x190002 x190003 x190004 x190005 x190006 x190007 x190008 x190009 x190010)
end
def spec_WireBytes.f (k : Nat) (a0_0 : Int) (a0_1 : Int) (a0_2 : Int) (a0_3 : Int) (a0_4 : Int) (a0_5 : Int) (a0_6 : Int) (a0_7 : Int) (a0_8 : Int) (l0_9 : List (S26)) (l0_10 : List ByteArray) : Option (ByteArray) := (spec_WireOk.f k a0_0 a0_1 a0_2 a0_3 a0_4 a0_5 a0_6 a0_7 a0_8 l0_9 l0_10).bind fun t190 => (if t190 = true then ((spec_l5Has.f k a0_0).bind fun t191 => ((spec_l5Num.f k a0_0 1).bind fun t192 => ((spec_l5In.f k t191 115).bind fun t193 => (if t193 = true then ((spec_l5Num.f k a0_1 3).bind fun t194 => (if t192.size + t194.size ≤ 9223372036854775807 then (spec_WireBytes.j0 k t191 (t192 ++ t194) a0_0 a0_1 a0_2 a0_3 a0_4 a0_5 a0_6 a0_7 a0_8 l0_9 l0_10) else (none))) else (spec_WireBytes.j0 k t191 t192 a0_0 a0_1 a0_2 a0_3 a0_4 a0_5 a0_6 a0_7 a0_8 l0_9 l0_10))))) else (some (⟨#[]⟩ : ByteArray)))
def spec_WireBytes.T26 : Bool × List (List Nat × List Nat) := (true, [([], []), ([], []), ([1], [1]), ([], []), ([2, 3], [2, 3]), ([4], [4]), ([5], [5]), ([6], [6]), ([0, 7], [0, 7]), ([], []), ([9], [9]), ([], []), ([10, 11], [10, 11]), ([12], [12]), ([8, 13], [8, 13]), ([14, 7, 0, 1, 2, 3, 4, 5, 6, 7, 8, 9, 10, 11, 12, 13, 14], [0, 14])])
def spec_WireBytes.B26 : List Nat := [0, 0, 2, 0, 14, 30, 62, 126, 255, 0, 512, 0, 3584, 7680, 16383, 32767]
theorem spec_WireBytes.tab26 : rtab .any (opsOf Try.f14 26) = spec_WireBytes.T26 := by kernel_rfl
theorem spec_WireBytes.bits26 : waitsOk spec_WireBytes.T26.2 spec_WireBytes.B26 = true := by kernel_rfl
set_option maxHeartbeats 8000000 in
set_option maxRecDepth 100000 in
theorem spec_WireBytes.calls (k : Nat) (a0_0 : Int) (a0_1 : Int) (a0_2 : Int) (a0_3 : Int) (a0_4 : Int) (a0_5 : Int) (a0_6 : Int) (a0_7 : Int) (a0_8 : Int) (A0_9 : Option Addr) (c0_9 : Nat) (l0_9 : List (S26)) (A0_10 : Option Addr) (c0_10 : Nat) (l0_10 : List ByteArray) (r : ByteArray) (w : World) (hr0_9 : Kd.C k26 w A0_9 l0_9.length l0_9) (hc0_9 : l0_9.length ≤ c0_9) (hr0_10 : Kd.C Kd.string w A0_10 l0_10.length l0_10) (hc0_10 : l0_10.length ≤ c0_10) (h : spec_WireBytes.f k a0_0 a0_1 a0_2 a0_3 a0_4 a0_5 a0_6 a0_7 a0_8 l0_9 l0_10 = some r) :
    Calls Try.prog 14 #[.agg #[.int .i64 a0_0, .int .i64 a0_1, .int .i64 a0_2, .int .i64 a0_3, .int .u64 a0_4, .int .u64 a0_5, .int .u64 a0_6, .int .u64 a0_7, .int .i64 a0_8, .slice A0_9 l0_9.length c0_9, .slice A0_10 l0_10.length c0_10]] w fun e w' => e = .returned (.string r) ∧ Below w.heap.size w w' := by
  have hu37 := Try.underlying37
  have hu26 := Try.underlying26
  have HR0_9 := Aside0.mk hr0_9
  have HC0_9 := Aside0.mk hc0_9
  clear hr0_9 hc0_9
  have HR0_10 := Aside0.mk hr0_10
  have HC0_10 := Aside0.mk hc0_10
  clear hr0_10 hc0_10
  have HB := Aside0.mk (Below.refl w.heap.size w)
  have H : ((spec_WireOk.f k a0_0 a0_1 a0_2 a0_3 a0_4 a0_5 a0_6 a0_7 a0_8 l0_9 l0_10).bind fun t190 => (if t190 = true then ((spec_l5Has.f k a0_0).bind fun t191 => ((spec_l5Num.f k a0_0 1).bind fun t192 => ((spec_l5In.f k t191 115).bind fun t193 => (if t193 = true then ((spec_l5Num.f k a0_1 3).bind fun t194 => (if t192.size + t194.size ≤ 9223372036854775807 then (spec_WireBytes.j0 k t191 (t192 ++ t194) a0_0 a0_1 a0_2 a0_3 a0_4 a0_5 a0_6 a0_7 a0_8 l0_9 l0_10) else (none))) else (spec_WireBytes.j0 k t191 t192 a0_0 a0_1 a0_2 a0_3 a0_4 a0_5 a0_6 a0_7 a0_8 l0_9 l0_10))))) else (some (⟨#[]⟩ : ByteArray)))) = some r := h
  clear h
  obtain ⟨t190, A2, H⟩ := bnd_ H
  by_cases c3 : t190 = true
  · subst c3
    rw [if_pos rfl] at H
    obtain ⟨t191, A4, H⟩ := bnd_ H
    obtain ⟨t192, A5, H⟩ := bnd_ H
    obtain ⟨t193, A6, H⟩ := bnd_ H
    have HC7 := Aside0.mk H
    clear H
    go_enter Try.func14, Try.ntmps14
    go_upto_if 17 with (first | ((with_reducible refine gate_dst (N := 1) rfl ?_); refine boxE_ (cs := #[.int .i64 a0_0, .int .i64 a0_1, .int .i64 a0_2, .int .i64 a0_3, .int .u64 a0_4, .int .u64 a0_5, .int .u64 a0_6, .int .u64 a0_7, .int .i64 a0_8, .slice A0_9 l0_9.length c0_9, .slice A0_10 l0_10.length c0_10]) (t := 37) ?_; intro gb189 hg w8 hbox hb; have BK189 := Aside0.mk (hbox); have GW189 := sizeB_ hg; have GE189 := sizeB_ hg; replace HB := stepB_ hb; clear hb hbox hg; have hcz9_0 : w8.cell? ⟨gb189, 0, none⟩ = some (.int .i64 a0_0) := (blk_cell BK189.out 0).trans rfl; have hcz9_1 : w8.cell? ⟨gb189, 1, none⟩ = some (.int .i64 a0_1) := (blk_cell BK189.out 1).trans rfl; have hcz9_2 : w8.cell? ⟨gb189, 2, none⟩ = some (.int .i64 a0_2) := (blk_cell BK189.out 2).trans rfl; have hcz9_3 : w8.cell? ⟨gb189, 3, none⟩ = some (.int .i64 a0_3) := (blk_cell BK189.out 3).trans rfl; have hcz9_4 : w8.cell? ⟨gb189, 4, none⟩ = some (.int .u64 a0_4) := (blk_cell BK189.out 4).trans rfl; have hcz9_5 : w8.cell? ⟨gb189, 5, none⟩ = some (.int .u64 a0_5) := (blk_cell BK189.out 5).trans rfl; have hcz9_6 : w8.cell? ⟨gb189, 6, none⟩ = some (.int .u64 a0_6) := (blk_cell BK189.out 6).trans rfl; have hcz9_7 : w8.cell? ⟨gb189, 7, none⟩ = some (.int .u64 a0_7) := (blk_cell BK189.out 7).trans rfl; have hcz9_8 : w8.cell? ⟨gb189, 8, none⟩ = some (.int .i64 a0_8) := (blk_cell BK189.out 8).trans rfl; have hcz9_9 : w8.cell? ⟨gb189, 9, none⟩ = some (.slice A0_9 l0_9.length c0_9) := (blk_cell BK189.out 9).trans rfl; have hcz9_10 : w8.cell? ⟨gb189, 10, none⟩ = some (.slice A0_10 l0_10.length c0_10) := (blk_cell BK189.out 10).trans rfl; have hfz9_0 := blk_frozen BK189.out 0; have hfz9_1 := blk_frozen BK189.out 1; have hfz9_2 := blk_frozen BK189.out 2; have hfz9_3 := blk_frozen BK189.out 3; have hfz9_4 := blk_frozen BK189.out 4; have hfz9_5 := blk_frozen BK189.out 5; have hfz9_6 := blk_frozen BK189.out 6; have hfz9_7 := blk_frozen BK189.out 7; have hfz9_8 := blk_frozen BK189.out 8; have hfz9_9 := blk_frozen BK189.out 9; have hfz9_10 := blk_frozen BK189.out 10) | ((with_reducible refine gate_callee (f := 10) rfl ?_); refine goL_ (some 8) Try.func10 #[.agg #[.int .i64 a0_0, .int .i64 a0_1, .int .i64 a0_2, .int .i64 a0_3, .int .u64 a0_4, .int .u64 a0_5, .int .u64 a0_6, .int .u64 a0_7, .int .i64 a0_8, .slice A0_9 l0_9.length c0_9, .slice A0_10 l0_10.length c0_10]] ?_; (with_reducible refine (spec_WireOk.calls k a0_0 a0_1 a0_2 a0_3 a0_4 a0_5 a0_6 a0_7 a0_8 _ _ l0_9 _ _ l0_10 true _ ?side1 ?side2 ?side3 ?side4 A2.out).mono ?_); (case side1 => repeat (first | exact (Kd.C_below HR0_9.out HB.out) | (with_reducible refine Kd.C_alloc ?_ _) | (with_reducible refine Kd.C_drewN ?_ _) | (with_reducible refine Kd.C_drew ?_))); (case side2 => exact HC0_9.out); (case side3 => repeat (first | exact (Kd.C_below HR0_10.out HB.out) | (with_reducible refine Kd.C_alloc ?_ _) | (with_reducible refine Kd.C_drewN ?_ _) | (with_reducible refine Kd.C_drew ?_))); (case side4 => exact HC0_10.out); rintro e w10 ⟨rfl, hb⟩; refine ⟨_, rfl, ?_⟩; replace BK189 := blkBel_ BK189.out hb; replace HB := stepB_ hb; (try clear hb); have hcz11_0 : w10.cell? ⟨gb189, 0, none⟩ = some (.int .i64 a0_0) := (blk_cell BK189.out 0).trans rfl; have hcz11_1 : w10.cell? ⟨gb189, 1, none⟩ = some (.int .i64 a0_1) := (blk_cell BK189.out 1).trans rfl; have hcz11_2 : w10.cell? ⟨gb189, 2, none⟩ = some (.int .i64 a0_2) := (blk_cell BK189.out 2).trans rfl; have hcz11_3 : w10.cell? ⟨gb189, 3, none⟩ = some (.int .i64 a0_3) := (blk_cell BK189.out 3).trans rfl; have hcz11_4 : w10.cell? ⟨gb189, 4, none⟩ = some (.int .u64 a0_4) := (blk_cell BK189.out 4).trans rfl; have hcz11_5 : w10.cell? ⟨gb189, 5, none⟩ = some (.int .u64 a0_5) := (blk_cell BK189.out 5).trans rfl; have hcz11_6 : w10.cell? ⟨gb189, 6, none⟩ = some (.int .u64 a0_6) := (blk_cell BK189.out 6).trans rfl; have hcz11_7 : w10.cell? ⟨gb189, 7, none⟩ = some (.int .u64 a0_7) := (blk_cell BK189.out 7).trans rfl; have hcz11_8 : w10.cell? ⟨gb189, 8, none⟩ = some (.int .i64 a0_8) := (blk_cell BK189.out 8).trans rfl; have hcz11_9 : w10.cell? ⟨gb189, 9, none⟩ = some (.slice A0_9 l0_9.length c0_9) := (blk_cell BK189.out 9).trans rfl; have hcz11_10 : w10.cell? ⟨gb189, 10, none⟩ = some (.slice A0_10 l0_10.length c0_10) := (blk_cell BK189.out 10).trans rfl; have hfz11_0 := blk_frozen BK189.out 0; have hfz11_1 := blk_frozen BK189.out 1; have hfz11_2 := blk_frozen BK189.out 2; have hfz11_3 := blk_frozen BK189.out 3; have hfz11_4 := blk_frozen BK189.out 4; have hfz11_5 := blk_frozen BK189.out 5; have hfz11_6 := blk_frozen BK189.out 6; have hfz11_7 := blk_frozen BK189.out 7; have hfz11_8 := blk_frozen BK189.out 8; have hfz11_9 := blk_frozen BK189.out 9; have hfz11_10 := blk_frozen BK189.out 10) | ((with_reducible refine gate_callee (f := 22) rfl ?_); refine goL_ (some 12) Try.func22 #[.int .i64 a0_0] ?_; (with_reducible refine (spec_l5Has.calls k a0_0 t191 _ A4.out).mono ?_); rintro e w' ⟨rfl, ⟨nd, rfl⟩⟩; refine ⟨_, rfl, ?_⟩) | ((with_reducible refine gate_callee (f := 34) rfl ?_); refine goL_ (some 15) Try.func34 #[.int .i64 a0_0, .int .i64 1] ?_; (with_reducible refine (spec_l5Num.calls k a0_0 1 t192 _ A5.out).mono ?_); rintro e w12 ⟨rfl, hb⟩; refine ⟨_, rfl, ?_⟩; replace BK189 := blkBel_ BK189.out hb; replace HB := stepB_ hb; (try clear hb)) | ((with_reducible refine gate_callee (f := 23) rfl ?_); refine goL_ (some 17) Try.func23 #[.string t191, .int .u8 115] ?_; (with_reducible refine (spec_l5In.calls k t191 115 t193 _ A6.out).mono ?_); rintro e w' ⟨rfl, ⟨nd, rfl⟩⟩; refine ⟨_, rfl, ?_⟩))
    (try simp only [Act.put, List.setIfInBounds_toArray, List.set_cons_zero, List.set_cons_succ])
    go_cut [4] (fun v4 wc => ∃ (kq : Nat) (x4_6 : ByteArray), v4 = .string x4_6 ∧ Aside0 (spec_WireBytes.j0 kq t191 x4_6 a0_0 a0_1 a0_2 a0_3 a0_4 a0_5 a0_6 a0_7 a0_8 l0_9 l0_10 = some r) ∧ Aside0 (kq ≤ k) ∧ Aside0 (wc.heap[gb189]? = some (.cells #[.int .i64 a0_0, .int .i64 a0_1, .int .i64 a0_2, .int .i64 a0_3, .int .u64 a0_4, .int .u64 a0_5, .int .u64 a0_6, .int .u64 a0_7, .int .i64 a0_8, (.slice A0_9 l0_9.length c0_9), (.slice A0_10 l0_10.length c0_10)] 37 (0, 0))) ∧ Aside0 (Below w.heap.size w wc))
    case first =>
      have H := HC7.out
      clear HC7
      by_cases c13 : t193 = true
      · subst c13
        rw [if_pos rfl] at H
        obtain ⟨t194, A14, H⟩ := bnd_ H
        by_cases c15 : t192.size + t194.size ≤ 9223372036854775807
        · rw [if_pos c15] at H
          have c15b0 := eq_true c15
          have c15b1 : decide (t192.size + t194.size ≤ 9223372036854775807) = true := decide_eq_true c15
          try have c15b2 : (9223372036854775807 < t192.size + t194.size) = False := eq_false (Nat.not_lt.2 c15)
          have H' := Aside0.mk H
          clear H
          have hcz16_0 : w12.cell? ⟨gb189, 0, none⟩ = some (.int .i64 a0_0) := (blk_cell BK189.out 0).trans rfl
          have hcz16_1 : w12.cell? ⟨gb189, 1, none⟩ = some (.int .i64 a0_1) := (blk_cell BK189.out 1).trans rfl
          have hcz16_2 : w12.cell? ⟨gb189, 2, none⟩ = some (.int .i64 a0_2) := (blk_cell BK189.out 2).trans rfl
          have hcz16_3 : w12.cell? ⟨gb189, 3, none⟩ = some (.int .i64 a0_3) := (blk_cell BK189.out 3).trans rfl
          have hcz16_4 : w12.cell? ⟨gb189, 4, none⟩ = some (.int .u64 a0_4) := (blk_cell BK189.out 4).trans rfl
          have hcz16_5 : w12.cell? ⟨gb189, 5, none⟩ = some (.int .u64 a0_5) := (blk_cell BK189.out 5).trans rfl
          have hcz16_6 : w12.cell? ⟨gb189, 6, none⟩ = some (.int .u64 a0_6) := (blk_cell BK189.out 6).trans rfl
          have hcz16_7 : w12.cell? ⟨gb189, 7, none⟩ = some (.int .u64 a0_7) := (blk_cell BK189.out 7).trans rfl
          have hcz16_8 : w12.cell? ⟨gb189, 8, none⟩ = some (.int .i64 a0_8) := (blk_cell BK189.out 8).trans rfl
          have hcz16_9 : w12.cell? ⟨gb189, 9, none⟩ = some (.slice A0_9 l0_9.length c0_9) := (blk_cell BK189.out 9).trans rfl
          have hcz16_10 : w12.cell? ⟨gb189, 10, none⟩ = some (.slice A0_10 l0_10.length c0_10) := (blk_cell BK189.out 10).trans rfl
          have hfz16_0 := blk_frozen BK189.out 0
          have hfz16_1 := blk_frozen BK189.out 1
          have hfz16_2 := blk_frozen BK189.out 2
          have hfz16_3 := blk_frozen BK189.out 3
          have hfz16_4 := blk_frozen BK189.out 4
          have hfz16_5 := blk_frozen BK189.out 5
          have hfz16_6 := blk_frozen BK189.out 6
          have hfz16_7 := blk_frozen BK189.out 7
          have hfz16_8 := blk_frozen BK189.out 8
          have hfz16_9 := blk_frozen BK189.out 9
          have hfz16_10 := blk_frozen BK189.out 10
          go_wp2_with (first | ((with_reducible refine gate_callee (f := 34) rfl ?_); refine goL_ (some 21) Try.func34 #[.int .i64 a0_1, .int .i64 3] ?_; (with_reducible refine (spec_l5Num.calls k a0_1 3 t194 _ A14.out).mono ?_); rintro e w17 ⟨rfl, hb⟩; refine ⟨_, rfl, ?_⟩; replace BK189 := blkBel_ BK189.out hb; replace HB := stepB_ hb; (try clear hb)))
          go_meet
          case rel => exact ⟨_, (t192 ++ t194), (by first | rfl | (simp; done) | (simp [*]; done)), H', ⟨by first | omega | exact Nat.le_refl _⟩, ⟨blkU_ BK189.out⟩, ⟨bel_⟩⟩
        · rw [if_neg c15] at H
          exact absurd H (by simp)
      · replace c13 := Bool.eq_false_iff.mpr c13
        subst c13
        rw [if_neg (show ¬ (false = true) by decide)] at H
        have H' := Aside0.mk H
        clear H
        go_wp2
        go_meet
        case rel => exact ⟨_, (t192), (by first | rfl | (simp; done) | (simp [*]; done)), H', ⟨by first | omega | exact Nat.le_refl _⟩, ⟨blkU_ BK189.out⟩, ⟨bel_⟩⟩
    case rest =>
      clear HC7
      (try clear c3); (try clear c13); (try clear c15); (try clear c15b0); (try clear c15b1); (try clear c15b2); (try clear hcz11_0); (try clear hcz11_1); (try clear hcz11_10); (try clear hcz11_2); (try clear hcz11_3); (try clear hcz11_4); (try clear hcz11_5); (try clear hcz11_6); (try clear hcz11_7); (try clear hcz11_8); (try clear hcz11_9); (try clear hcz16_0); (try clear hcz16_1); (try clear hcz16_10); (try clear hcz16_2); (try clear hcz16_3); (try clear hcz16_4); (try clear hcz16_5); (try clear hcz16_6); (try clear hcz16_7); (try clear hcz16_8); (try clear hcz16_9); (try clear hcz9_0); (try clear hcz9_1); (try clear hcz9_10); (try clear hcz9_2); (try clear hcz9_3); (try clear hcz9_4); (try clear hcz9_5); (try clear hcz9_6); (try clear hcz9_7); (try clear hcz9_8); (try clear hcz9_9); (try clear hfz11_0); (try clear hfz11_1); (try clear hfz11_10); (try clear hfz11_2); (try clear hfz11_3); (try clear hfz11_4); (try clear hfz11_5); (try clear hfz11_6); (try clear hfz11_7); (try clear hfz11_8); (try clear hfz11_9); (try clear hfz16_0); (try clear hfz16_1); (try clear hfz16_10); (try clear hfz16_2); (try clear hfz16_3); (try clear hfz16_4); (try clear hfz16_5); (try clear hfz16_6); (try clear hfz16_7); (try clear hfz16_8); (try clear hfz16_9); (try clear hfz9_0); (try clear hfz9_1); (try clear hfz9_10); (try clear hfz9_2); (try clear hfz9_3); (try clear hfz9_4); (try clear hfz9_5); (try clear hfz9_6); (try clear hfz9_7); (try clear hfz9_8); (try clear hfz9_9)
      obtain ⟨kq, x4_6, rfl, HA, HJ6, BK189, HB⟩ := hcut
      cases kq with
      | zero => exact absurd HA.out (by simp [spec_WireBytes.j0])
      | succ kj6 =>
        have H := HA.out
        clear HA
        simp only [spec_WireBytes.j0] at H
        obtain ⟨t195, A18, H⟩ := bnd_ H
        have HC19 := Aside0.mk H
        clear H
        go_upto_if 24 with (first | ((with_reducible refine gate_callee (f := 23) rfl ?_); refine goL_ (some 24) Try.func23 #[.string t191, .int .u8 102] ?_; (with_reducible refine (spec_l5In.calls kj6 t191 102 t195 _ A18.out).mono ?_); rintro e w' ⟨rfl, ⟨nd, rfl⟩⟩; refine ⟨_, rfl, ?_⟩))
        (try simp only [Act.put, List.setIfInBounds_toArray, List.set_cons_zero, List.set_cons_succ])
        go_cut [4] (fun v4 wc => ∃ (kq : Nat) (x4_18 : ByteArray), v4 = .string x4_18 ∧ Aside0 (spec_WireBytes.j1 kq t191 x4_18 a0_0 a0_1 a0_2 a0_3 a0_4 a0_5 a0_6 a0_7 a0_8 l0_9 l0_10 = some r) ∧ Aside0 (kq ≤ kj6) ∧ Aside0 (wc.heap[gb189]? = some (.cells #[.int .i64 a0_0, .int .i64 a0_1, .int .i64 a0_2, .int .i64 a0_3, .int .u64 a0_4, .int .u64 a0_5, .int .u64 a0_6, .int .u64 a0_7, .int .i64 a0_8, (.slice A0_9 l0_9.length c0_9), (.slice A0_10 l0_10.length c0_10)] 37 (0, 0))) ∧ Aside0 (Below w.heap.size w wc))
        case first =>
          have H := HC19.out
          clear HC19
          by_cases c20 : t195 = true
          · subst c20
            rw [if_pos rfl] at H
            obtain ⟨t196, A21, H⟩ := bnd_ H
            by_cases c22 : x4_6.size + t196.size ≤ 9223372036854775807
            · rw [if_pos c22] at H
              have c22b0 := eq_true c22
              have c22b1 : decide (x4_6.size + t196.size ≤ 9223372036854775807) = true := decide_eq_true c22
              try have c22b2 : (9223372036854775807 < x4_6.size + t196.size) = False := eq_false (Nat.not_lt.2 c22)
              have H' := Aside0.mk H
              clear H
              have hcz23_0 : wc.cell? ⟨gb189, 0, none⟩ = some (.int .i64 a0_0) := (blk_cell BK189.out 0).trans rfl
              have hcz23_1 : wc.cell? ⟨gb189, 1, none⟩ = some (.int .i64 a0_1) := (blk_cell BK189.out 1).trans rfl
              have hcz23_2 : wc.cell? ⟨gb189, 2, none⟩ = some (.int .i64 a0_2) := (blk_cell BK189.out 2).trans rfl
              have hcz23_3 : wc.cell? ⟨gb189, 3, none⟩ = some (.int .i64 a0_3) := (blk_cell BK189.out 3).trans rfl
              have hcz23_4 : wc.cell? ⟨gb189, 4, none⟩ = some (.int .u64 a0_4) := (blk_cell BK189.out 4).trans rfl
              have hcz23_5 : wc.cell? ⟨gb189, 5, none⟩ = some (.int .u64 a0_5) := (blk_cell BK189.out 5).trans rfl
              have hcz23_6 : wc.cell? ⟨gb189, 6, none⟩ = some (.int .u64 a0_6) := (blk_cell BK189.out 6).trans rfl
              have hcz23_7 : wc.cell? ⟨gb189, 7, none⟩ = some (.int .u64 a0_7) := (blk_cell BK189.out 7).trans rfl
              have hcz23_8 : wc.cell? ⟨gb189, 8, none⟩ = some (.int .i64 a0_8) := (blk_cell BK189.out 8).trans rfl
              have hcz23_9 : wc.cell? ⟨gb189, 9, none⟩ = some (.slice A0_9 l0_9.length c0_9) := (blk_cell BK189.out 9).trans rfl
              have hcz23_10 : wc.cell? ⟨gb189, 10, none⟩ = some (.slice A0_10 l0_10.length c0_10) := (blk_cell BK189.out 10).trans rfl
              have hfz23_0 := blk_frozen BK189.out 0
              have hfz23_1 := blk_frozen BK189.out 1
              have hfz23_2 := blk_frozen BK189.out 2
              have hfz23_3 := blk_frozen BK189.out 3
              have hfz23_4 := blk_frozen BK189.out 4
              have hfz23_5 := blk_frozen BK189.out 5
              have hfz23_6 := blk_frozen BK189.out 6
              have hfz23_7 := blk_frozen BK189.out 7
              have hfz23_8 := blk_frozen BK189.out 8
              have hfz23_9 := blk_frozen BK189.out 9
              have hfz23_10 := blk_frozen BK189.out 10
              go_wp2_with (first | ((with_reducible refine gate_callee (f := 34) rfl ?_); refine goL_ (some 28) Try.func34 #[.int .i64 a0_2, .int .i64 2] ?_; (with_reducible refine (spec_l5Num.calls kj6 a0_2 2 t196 _ A21.out).mono ?_); rintro e w24 ⟨rfl, hb⟩; refine ⟨_, rfl, ?_⟩; replace BK189 := blkBel_ BK189.out hb; replace HB := stepB_ hb; (try clear hb)))
              go_meet
              case rel => exact ⟨_, (x4_6 ++ t196), (by first | rfl | (simp; done) | (simp [*]; done)), H', ⟨by have := HJ6.out; first | omega | exact Nat.le_refl _⟩, ⟨blkU_ BK189.out⟩, ⟨bel_⟩⟩
            · rw [if_neg c22] at H
              exact absurd H (by simp)
          · replace c20 := Bool.eq_false_iff.mpr c20
            subst c20
            rw [if_neg (show ¬ (false = true) by decide)] at H
            have H' := Aside0.mk H
            clear H
            go_wp2
            go_meet
            case rel => exact ⟨_, (x4_6), (by first | rfl | (simp; done) | (simp [*]; done)), H', ⟨by have := HJ6.out; first | omega | exact Nat.le_refl _⟩, ⟨blkU_ BK189.out⟩, ⟨bel_⟩⟩
        case rest =>
          clear HC19
          (try clear c3); (try clear c13); (try clear c15); (try clear c15b0); (try clear c15b1); (try clear c15b2); (try clear c20); (try clear c22); (try clear c22b0); (try clear c22b1); (try clear c22b2); (try clear hcz11_0); (try clear hcz11_1); (try clear hcz11_10); (try clear hcz11_2); (try clear hcz11_3); (try clear hcz11_4); (try clear hcz11_5); (try clear hcz11_6); (try clear hcz11_7); (try clear hcz11_8); (try clear hcz11_9); (try clear hcz16_0); (try clear hcz16_1); (try clear hcz16_10); (try clear hcz16_2); (try clear hcz16_3); (try clear hcz16_4); (try clear hcz16_5); (try clear hcz16_6); (try clear hcz16_7); (try clear hcz16_8); (try clear hcz16_9); (try clear hcz23_0); (try clear hcz23_1); (try clear hcz23_10); (try clear hcz23_2); (try clear hcz23_3); (try clear hcz23_4); (try clear hcz23_5); (try clear hcz23_6); (try clear hcz23_7); (try clear hcz23_8); (try clear hcz23_9); (try clear hcz9_0); (try clear hcz9_1); (try clear hcz9_10); (try clear hcz9_2); (try clear hcz9_3); (try clear hcz9_4); (try clear hcz9_5); (try clear hcz9_6); (try clear hcz9_7); (try clear hcz9_8); (try clear hcz9_9); (try clear hfz11_0); (try clear hfz11_1); (try clear hfz11_10); (try clear hfz11_2); (try clear hfz11_3); (try clear hfz11_4); (try clear hfz11_5); (try clear hfz11_6); (try clear hfz11_7); (try clear hfz11_8); (try clear hfz11_9); (try clear hfz16_0); (try clear hfz16_1); (try clear hfz16_10); (try clear hfz16_2); (try clear hfz16_3); (try clear hfz16_4); (try clear hfz16_5); (try clear hfz16_6); (try clear hfz16_7); (try clear hfz16_8); (try clear hfz16_9); (try clear hfz23_0); (try clear hfz23_1); (try clear hfz23_10); (try clear hfz23_2); (try clear hfz23_3); (try clear hfz23_4); (try clear hfz23_5); (try clear hfz23_6); (try clear hfz23_7); (try clear hfz23_8); (try clear hfz23_9); (try clear hfz9_0); (try clear hfz9_1); (try clear hfz9_10); (try clear hfz9_2); (try clear hfz9_3); (try clear hfz9_4); (try clear hfz9_5); (try clear hfz9_6); (try clear hfz9_7); (try clear hfz9_8); (try clear hfz9_9)
          obtain ⟨kq, x4_18, rfl, HA, HJ18, BK189, HB⟩ := hcut
          cases kq with
          | zero => exact absurd HA.out (by simp [spec_WireBytes.j1])
          | succ kj18 =>
            have H := HA.out
            clear HA
            simp only [spec_WireBytes.j1] at H
            obtain ⟨t197, A25, H⟩ := bnd_ H
            have HC26 := Aside0.mk H
            clear H
            go_upto_if 31 with (first | ((with_reducible refine gate_callee (f := 23) rfl ?_); refine goL_ (some 31) Try.func23 #[.string t191, .int .u8 110] ?_; (with_reducible refine (spec_l5In.calls kj18 t191 110 t197 _ A25.out).mono ?_); rintro e w' ⟨rfl, ⟨nd, rfl⟩⟩; refine ⟨_, rfl, ?_⟩))
            (try simp only [Act.put, List.setIfInBounds_toArray, List.set_cons_zero, List.set_cons_succ])
            go_cut [4] (fun v4 wc => ∃ (kq : Nat) (x4_25 : ByteArray), v4 = .string x4_25 ∧ Aside0 (spec_WireBytes.j2 kq t191 x4_25 a0_0 a0_1 a0_2 a0_3 a0_4 a0_5 a0_6 a0_7 a0_8 l0_9 l0_10 = some r) ∧ Aside0 (kq ≤ kj18) ∧ Aside0 (wc.heap[gb189]? = some (.cells #[.int .i64 a0_0, .int .i64 a0_1, .int .i64 a0_2, .int .i64 a0_3, .int .u64 a0_4, .int .u64 a0_5, .int .u64 a0_6, .int .u64 a0_7, .int .i64 a0_8, (.slice A0_9 l0_9.length c0_9), (.slice A0_10 l0_10.length c0_10)] 37 (0, 0))) ∧ Aside0 (Below w.heap.size w wc))
            case first =>
              have H := HC26.out
              clear HC26
              by_cases c27 : t197 = true
              · subst c27
                rw [if_pos rfl] at H
                obtain ⟨t198, A28, H⟩ := bnd_ H
                by_cases c29 : x4_18.size + t198.size ≤ 9223372036854775807
                · rw [if_pos c29] at H
                  have c29b0 := eq_true c29
                  have c29b1 : decide (x4_18.size + t198.size ≤ 9223372036854775807) = true := decide_eq_true c29
                  try have c29b2 : (9223372036854775807 < x4_18.size + t198.size) = False := eq_false (Nat.not_lt.2 c29)
                  have H' := Aside0.mk H
                  clear H
                  have hcz30_0 : wc.cell? ⟨gb189, 0, none⟩ = some (.int .i64 a0_0) := (blk_cell BK189.out 0).trans rfl
                  have hcz30_1 : wc.cell? ⟨gb189, 1, none⟩ = some (.int .i64 a0_1) := (blk_cell BK189.out 1).trans rfl
                  have hcz30_2 : wc.cell? ⟨gb189, 2, none⟩ = some (.int .i64 a0_2) := (blk_cell BK189.out 2).trans rfl
                  have hcz30_3 : wc.cell? ⟨gb189, 3, none⟩ = some (.int .i64 a0_3) := (blk_cell BK189.out 3).trans rfl
                  have hcz30_4 : wc.cell? ⟨gb189, 4, none⟩ = some (.int .u64 a0_4) := (blk_cell BK189.out 4).trans rfl
                  have hcz30_5 : wc.cell? ⟨gb189, 5, none⟩ = some (.int .u64 a0_5) := (blk_cell BK189.out 5).trans rfl
                  have hcz30_6 : wc.cell? ⟨gb189, 6, none⟩ = some (.int .u64 a0_6) := (blk_cell BK189.out 6).trans rfl
                  have hcz30_7 : wc.cell? ⟨gb189, 7, none⟩ = some (.int .u64 a0_7) := (blk_cell BK189.out 7).trans rfl
                  have hcz30_8 : wc.cell? ⟨gb189, 8, none⟩ = some (.int .i64 a0_8) := (blk_cell BK189.out 8).trans rfl
                  have hcz30_9 : wc.cell? ⟨gb189, 9, none⟩ = some (.slice A0_9 l0_9.length c0_9) := (blk_cell BK189.out 9).trans rfl
                  have hcz30_10 : wc.cell? ⟨gb189, 10, none⟩ = some (.slice A0_10 l0_10.length c0_10) := (blk_cell BK189.out 10).trans rfl
                  have hfz30_0 := blk_frozen BK189.out 0
                  have hfz30_1 := blk_frozen BK189.out 1
                  have hfz30_2 := blk_frozen BK189.out 2
                  have hfz30_3 := blk_frozen BK189.out 3
                  have hfz30_4 := blk_frozen BK189.out 4
                  have hfz30_5 := blk_frozen BK189.out 5
                  have hfz30_6 := blk_frozen BK189.out 6
                  have hfz30_7 := blk_frozen BK189.out 7
                  have hfz30_8 := blk_frozen BK189.out 8
                  have hfz30_9 := blk_frozen BK189.out 9
                  have hfz30_10 := blk_frozen BK189.out 10
                  go_wp2_with (first | ((with_reducible refine gate_callee (f := 34) rfl ?_); refine goL_ (some 35) Try.func34 #[.int .i64 a0_3, .int .i64 2] ?_; (with_reducible refine (spec_l5Num.calls kj18 a0_3 2 t198 _ A28.out).mono ?_); rintro e w31 ⟨rfl, hb⟩; refine ⟨_, rfl, ?_⟩; replace BK189 := blkBel_ BK189.out hb; replace HB := stepB_ hb; (try clear hb)))
                  go_meet
                  case rel => exact ⟨_, (x4_18 ++ t198), (by first | rfl | (simp; done) | (simp [*]; done)), H', ⟨by have := HJ6.out; have := HJ18.out; first | omega | exact Nat.le_refl _⟩, ⟨blkU_ BK189.out⟩, ⟨bel_⟩⟩
                · rw [if_neg c29] at H
                  exact absurd H (by simp)
              · replace c27 := Bool.eq_false_iff.mpr c27
                subst c27
                rw [if_neg (show ¬ (false = true) by decide)] at H
                have H' := Aside0.mk H
                clear H
                go_wp2
                go_meet
                case rel => exact ⟨_, (x4_18), (by first | rfl | (simp; done) | (simp [*]; done)), H', ⟨by have := HJ6.out; have := HJ18.out; first | omega | exact Nat.le_refl _⟩, ⟨blkU_ BK189.out⟩, ⟨bel_⟩⟩
            case rest =>
              clear HC26
              (try clear c3); (try clear c13); (try clear c15); (try clear c15b0); (try clear c15b1); (try clear c15b2); (try clear c20); (try clear c22); (try clear c22b0); (try clear c22b1); (try clear c22b2); (try clear c27); (try clear c29); (try clear c29b0); (try clear c29b1); (try clear c29b2); (try clear hcz11_0); (try clear hcz11_1); (try clear hcz11_10); (try clear hcz11_2); (try clear hcz11_3); (try clear hcz11_4); (try clear hcz11_5); (try clear hcz11_6); (try clear hcz11_7); (try clear hcz11_8); (try clear hcz11_9); (try clear hcz16_0); (try clear hcz16_1); (try clear hcz16_10); (try clear hcz16_2); (try clear hcz16_3); (try clear hcz16_4); (try clear hcz16_5); (try clear hcz16_6); (try clear hcz16_7); (try clear hcz16_8); (try clear hcz16_9); (try clear hcz23_0); (try clear hcz23_1); (try clear hcz23_10); (try clear hcz23_2); (try clear hcz23_3); (try clear hcz23_4); (try clear hcz23_5); (try clear hcz23_6); (try clear hcz23_7); (try clear hcz23_8); (try clear hcz23_9); (try clear hcz30_0); (try clear hcz30_1); (try clear hcz30_10); (try clear hcz30_2); (try clear hcz30_3); (try clear hcz30_4); (try clear hcz30_5); (try clear hcz30_6); (try clear hcz30_7); (try clear hcz30_8); (try clear hcz30_9); (try clear hcz9_0); (try clear hcz9_1); (try clear hcz9_10); (try clear hcz9_2); (try clear hcz9_3); (try clear hcz9_4); (try clear hcz9_5); (try clear hcz9_6); (try clear hcz9_7); (try clear hcz9_8); (try clear hcz9_9); (try clear hfz11_0); (try clear hfz11_1); (try clear hfz11_10); (try clear hfz11_2); (try clear hfz11_3); (try clear hfz11_4); (try clear hfz11_5); (try clear hfz11_6); (try clear hfz11_7); (try clear hfz11_8); (try clear hfz11_9); (try clear hfz16_0); (try clear hfz16_1); (try clear hfz16_10); (try clear hfz16_2); (try clear hfz16_3); (try clear hfz16_4); (try clear hfz16_5); (try clear hfz16_6); (try clear hfz16_7); (try clear hfz16_8); (try clear hfz16_9); (try clear hfz23_0); (try clear hfz23_1); (try clear hfz23_10); (try clear hfz23_2); (try clear hfz23_3); (try clear hfz23_4); (try clear hfz23_5); (try clear hfz23_6); (try clear hfz23_7); (try clear hfz23_8); (try clear hfz23_9); (try clear hfz30_0); (try clear hfz30_1); (try clear hfz30_10); (try clear hfz30_2); (try clear hfz30_3); (try clear hfz30_4); (try clear hfz30_5); (try clear hfz30_6); (try clear hfz30_7); (try clear hfz30_8); (try clear hfz30_9); (try clear hfz9_0); (try clear hfz9_1); (try clear hfz9_10); (try clear hfz9_2); (try clear hfz9_3); (try clear hfz9_4); (try clear hfz9_5); (try clear hfz9_6); (try clear hfz9_7); (try clear hfz9_8); (try clear hfz9_9)
              obtain ⟨kq, x4_25, rfl, HA, HJ25, BK189, HB⟩ := hcut
              cases kq with
              | zero => exact absurd HA.out (by simp [spec_WireBytes.j2])
              | succ kj25 =>
                have H := HA.out
                clear HA
                simp only [spec_WireBytes.j2] at H
                obtain ⟨t199, A32, H⟩ := bnd_ H
                have HC33 := Aside0.mk H
                clear H
                go_upto_if 38 with (first | ((with_reducible refine gate_callee (f := 23) rfl ?_); refine goL_ (some 38) Try.func23 #[.string t191, .int .u8 114] ?_; (with_reducible refine (spec_l5In.calls kj25 t191 114 t199 _ A32.out).mono ?_); rintro e w' ⟨rfl, ⟨nd, rfl⟩⟩; refine ⟨_, rfl, ?_⟩))
                (try simp only [Act.put, List.setIfInBounds_toArray, List.set_cons_zero, List.set_cons_succ])
                go_cut [4] (fun v4 wc => ∃ (kq : Nat) (x4_32 : ByteArray), v4 = .string x4_32 ∧ Aside0 (spec_WireBytes.j3 kq t191 x4_32 a0_0 a0_1 a0_2 a0_3 a0_4 a0_5 a0_6 a0_7 a0_8 l0_9 l0_10 = some r) ∧ Aside0 (kq ≤ kj25) ∧ Aside0 (wc.heap[gb189]? = some (.cells #[.int .i64 a0_0, .int .i64 a0_1, .int .i64 a0_2, .int .i64 a0_3, .int .u64 a0_4, .int .u64 a0_5, .int .u64 a0_6, .int .u64 a0_7, .int .i64 a0_8, (.slice A0_9 l0_9.length c0_9), (.slice A0_10 l0_10.length c0_10)] 37 (0, 0))) ∧ Aside0 (Below w.heap.size w wc))
                case first =>
                  have H := HC33.out
                  clear HC33
                  by_cases c34 : t199 = true
                  · subst c34
                    rw [if_pos rfl] at H
                    obtain ⟨t200, A35, H⟩ := bnd_ H
                    by_cases c36 : x4_25.size + t200.size ≤ 9223372036854775807
                    · rw [if_pos c36] at H
                      have c36b0 := eq_true c36
                      have c36b1 : decide (x4_25.size + t200.size ≤ 9223372036854775807) = true := decide_eq_true c36
                      try have c36b2 : (9223372036854775807 < x4_25.size + t200.size) = False := eq_false (Nat.not_lt.2 c36)
                      have H' := Aside0.mk H
                      clear H
                      have hcz37_0 : wc.cell? ⟨gb189, 0, none⟩ = some (.int .i64 a0_0) := (blk_cell BK189.out 0).trans rfl
                      have hcz37_1 : wc.cell? ⟨gb189, 1, none⟩ = some (.int .i64 a0_1) := (blk_cell BK189.out 1).trans rfl
                      have hcz37_2 : wc.cell? ⟨gb189, 2, none⟩ = some (.int .i64 a0_2) := (blk_cell BK189.out 2).trans rfl
                      have hcz37_3 : wc.cell? ⟨gb189, 3, none⟩ = some (.int .i64 a0_3) := (blk_cell BK189.out 3).trans rfl
                      have hcz37_4 : wc.cell? ⟨gb189, 4, none⟩ = some (.int .u64 a0_4) := (blk_cell BK189.out 4).trans rfl
                      have hcz37_5 : wc.cell? ⟨gb189, 5, none⟩ = some (.int .u64 a0_5) := (blk_cell BK189.out 5).trans rfl
                      have hcz37_6 : wc.cell? ⟨gb189, 6, none⟩ = some (.int .u64 a0_6) := (blk_cell BK189.out 6).trans rfl
                      have hcz37_7 : wc.cell? ⟨gb189, 7, none⟩ = some (.int .u64 a0_7) := (blk_cell BK189.out 7).trans rfl
                      have hcz37_8 : wc.cell? ⟨gb189, 8, none⟩ = some (.int .i64 a0_8) := (blk_cell BK189.out 8).trans rfl
                      have hcz37_9 : wc.cell? ⟨gb189, 9, none⟩ = some (.slice A0_9 l0_9.length c0_9) := (blk_cell BK189.out 9).trans rfl
                      have hcz37_10 : wc.cell? ⟨gb189, 10, none⟩ = some (.slice A0_10 l0_10.length c0_10) := (blk_cell BK189.out 10).trans rfl
                      have hfz37_0 := blk_frozen BK189.out 0
                      have hfz37_1 := blk_frozen BK189.out 1
                      have hfz37_2 := blk_frozen BK189.out 2
                      have hfz37_3 := blk_frozen BK189.out 3
                      have hfz37_4 := blk_frozen BK189.out 4
                      have hfz37_5 := blk_frozen BK189.out 5
                      have hfz37_6 := blk_frozen BK189.out 6
                      have hfz37_7 := blk_frozen BK189.out 7
                      have hfz37_8 := blk_frozen BK189.out 8
                      have hfz37_9 := blk_frozen BK189.out 9
                      have hfz37_10 := blk_frozen BK189.out 10
                      go_wp2_with (first | ((with_reducible refine gate_callee (f := 16) rfl ?_); refine goL_ (some 42) Try.func16 #[.agg #[.int .u64 a0_4, .int .u64 a0_5, .int .u64 a0_6, .int .u64 a0_7]] ?_; (with_reducible refine (spec_HashBytes.calls kj25 a0_4 a0_5 a0_6 a0_7 t200 _ A35.out).mono ?_); rintro e w38 ⟨rfl, hb⟩; refine ⟨_, rfl, ?_⟩; replace BK189 := blkBel_ BK189.out hb; replace HB := stepB_ hb; (try clear hb)))
                      go_meet
                      case rel => exact ⟨_, (x4_25 ++ t200), (by first | rfl | (simp; done) | (simp [*]; done)), H', ⟨by have := HJ6.out; have := HJ18.out; have := HJ25.out; first | omega | exact Nat.le_refl _⟩, ⟨blkU_ BK189.out⟩, ⟨bel_⟩⟩
                    · rw [if_neg c36] at H
                      exact absurd H (by simp)
                  · replace c34 := Bool.eq_false_iff.mpr c34
                    subst c34
                    rw [if_neg (show ¬ (false = true) by decide)] at H
                    have H' := Aside0.mk H
                    clear H
                    go_wp2
                    go_meet
                    case rel => exact ⟨_, (x4_25), (by first | rfl | (simp; done) | (simp [*]; done)), H', ⟨by have := HJ6.out; have := HJ18.out; have := HJ25.out; first | omega | exact Nat.le_refl _⟩, ⟨blkU_ BK189.out⟩, ⟨bel_⟩⟩
                case rest =>
                  clear HC33
                  (try clear c3); (try clear c13); (try clear c15); (try clear c15b0); (try clear c15b1); (try clear c15b2); (try clear c20); (try clear c22); (try clear c22b0); (try clear c22b1); (try clear c22b2); (try clear c27); (try clear c29); (try clear c29b0); (try clear c29b1); (try clear c29b2); (try clear c34); (try clear c36); (try clear c36b0); (try clear c36b1); (try clear c36b2); (try clear hcz11_0); (try clear hcz11_1); (try clear hcz11_10); (try clear hcz11_2); (try clear hcz11_3); (try clear hcz11_4); (try clear hcz11_5); (try clear hcz11_6); (try clear hcz11_7); (try clear hcz11_8); (try clear hcz11_9); (try clear hcz16_0); (try clear hcz16_1); (try clear hcz16_10); (try clear hcz16_2); (try clear hcz16_3); (try clear hcz16_4); (try clear hcz16_5); (try clear hcz16_6); (try clear hcz16_7); (try clear hcz16_8); (try clear hcz16_9); (try clear hcz23_0); (try clear hcz23_1); (try clear hcz23_10); (try clear hcz23_2); (try clear hcz23_3); (try clear hcz23_4); (try clear hcz23_5); (try clear hcz23_6); (try clear hcz23_7); (try clear hcz23_8); (try clear hcz23_9); (try clear hcz30_0); (try clear hcz30_1); (try clear hcz30_10); (try clear hcz30_2); (try clear hcz30_3); (try clear hcz30_4); (try clear hcz30_5); (try clear hcz30_6); (try clear hcz30_7); (try clear hcz30_8); (try clear hcz30_9); (try clear hcz37_0); (try clear hcz37_1); (try clear hcz37_10); (try clear hcz37_2); (try clear hcz37_3); (try clear hcz37_4); (try clear hcz37_5); (try clear hcz37_6); (try clear hcz37_7); (try clear hcz37_8); (try clear hcz37_9); (try clear hcz9_0); (try clear hcz9_1); (try clear hcz9_10); (try clear hcz9_2); (try clear hcz9_3); (try clear hcz9_4); (try clear hcz9_5); (try clear hcz9_6); (try clear hcz9_7); (try clear hcz9_8); (try clear hcz9_9); (try clear hfz11_0); (try clear hfz11_1); (try clear hfz11_10); (try clear hfz11_2); (try clear hfz11_3); (try clear hfz11_4); (try clear hfz11_5); (try clear hfz11_6); (try clear hfz11_7); (try clear hfz11_8); (try clear hfz11_9); (try clear hfz16_0); (try clear hfz16_1); (try clear hfz16_10); (try clear hfz16_2); (try clear hfz16_3); (try clear hfz16_4); (try clear hfz16_5); (try clear hfz16_6); (try clear hfz16_7); (try clear hfz16_8); (try clear hfz16_9); (try clear hfz23_0); (try clear hfz23_1); (try clear hfz23_10); (try clear hfz23_2); (try clear hfz23_3); (try clear hfz23_4); (try clear hfz23_5); (try clear hfz23_6); (try clear hfz23_7); (try clear hfz23_8); (try clear hfz23_9); (try clear hfz30_0); (try clear hfz30_1); (try clear hfz30_10); (try clear hfz30_2); (try clear hfz30_3); (try clear hfz30_4); (try clear hfz30_5); (try clear hfz30_6); (try clear hfz30_7); (try clear hfz30_8); (try clear hfz30_9); (try clear hfz37_0); (try clear hfz37_1); (try clear hfz37_10); (try clear hfz37_2); (try clear hfz37_3); (try clear hfz37_4); (try clear hfz37_5); (try clear hfz37_6); (try clear hfz37_7); (try clear hfz37_8); (try clear hfz37_9); (try clear hfz9_0); (try clear hfz9_1); (try clear hfz9_10); (try clear hfz9_2); (try clear hfz9_3); (try clear hfz9_4); (try clear hfz9_5); (try clear hfz9_6); (try clear hfz9_7); (try clear hfz9_8); (try clear hfz9_9)
                  obtain ⟨kq, x4_32, rfl, HA, HJ32, BK189, HB⟩ := hcut
                  cases kq with
                  | zero => exact absurd HA.out (by simp [spec_WireBytes.j3])
                  | succ kj32 =>
                    have H := HA.out
                    clear HA
                    simp only [spec_WireBytes.j3] at H
                    obtain ⟨t201, A39, H⟩ := bnd_ H
                    have HC40 := Aside0.mk H
                    clear H
                    go_upto_if 45 with (first | ((with_reducible refine gate_callee (f := 23) rfl ?_); refine goL_ (some 45) Try.func23 #[.string t191, .int .u8 99] ?_; (with_reducible refine (spec_l5In.calls kj32 t191 99 t201 _ A39.out).mono ?_); rintro e w' ⟨rfl, ⟨nd, rfl⟩⟩; refine ⟨_, rfl, ?_⟩))
                    (try simp only [Act.put, List.setIfInBounds_toArray, List.set_cons_zero, List.set_cons_succ])
                    go_cut [4] (fun v4 wc => ∃ (kq : Nat) (x4_39 : ByteArray), v4 = .string x4_39 ∧ Aside0 (spec_WireBytes.j4 kq t191 x4_39 a0_0 a0_1 a0_2 a0_3 a0_4 a0_5 a0_6 a0_7 a0_8 l0_9 l0_10 = some r) ∧ Aside0 (kq ≤ kj32) ∧ Aside0 (wc.heap[gb189]? = some (.cells #[.int .i64 a0_0, .int .i64 a0_1, .int .i64 a0_2, .int .i64 a0_3, .int .u64 a0_4, .int .u64 a0_5, .int .u64 a0_6, .int .u64 a0_7, .int .i64 a0_8, (.slice A0_9 l0_9.length c0_9), (.slice A0_10 l0_10.length c0_10)] 37 (0, 0))) ∧ Aside0 (Below w.heap.size w wc))
                    case first =>
                      have H := HC40.out
                      clear HC40
                      by_cases c41 : t201 = true
                      · subst c41
                        rw [if_pos rfl] at H
                        obtain ⟨t202, A42, H⟩ := bnd_ H
                        by_cases c43 : x4_32.size + t202.size ≤ 9223372036854775807
                        · rw [if_pos c43] at H
                          have c43b0 := eq_true c43
                          have c43b1 : decide (x4_32.size + t202.size ≤ 9223372036854775807) = true := decide_eq_true c43
                          try have c43b2 : (9223372036854775807 < x4_32.size + t202.size) = False := eq_false (Nat.not_lt.2 c43)
                          have H' := Aside0.mk H
                          clear H
                          have hcz44_0 : wc.cell? ⟨gb189, 0, none⟩ = some (.int .i64 a0_0) := (blk_cell BK189.out 0).trans rfl
                          have hcz44_1 : wc.cell? ⟨gb189, 1, none⟩ = some (.int .i64 a0_1) := (blk_cell BK189.out 1).trans rfl
                          have hcz44_2 : wc.cell? ⟨gb189, 2, none⟩ = some (.int .i64 a0_2) := (blk_cell BK189.out 2).trans rfl
                          have hcz44_3 : wc.cell? ⟨gb189, 3, none⟩ = some (.int .i64 a0_3) := (blk_cell BK189.out 3).trans rfl
                          have hcz44_4 : wc.cell? ⟨gb189, 4, none⟩ = some (.int .u64 a0_4) := (blk_cell BK189.out 4).trans rfl
                          have hcz44_5 : wc.cell? ⟨gb189, 5, none⟩ = some (.int .u64 a0_5) := (blk_cell BK189.out 5).trans rfl
                          have hcz44_6 : wc.cell? ⟨gb189, 6, none⟩ = some (.int .u64 a0_6) := (blk_cell BK189.out 6).trans rfl
                          have hcz44_7 : wc.cell? ⟨gb189, 7, none⟩ = some (.int .u64 a0_7) := (blk_cell BK189.out 7).trans rfl
                          have hcz44_8 : wc.cell? ⟨gb189, 8, none⟩ = some (.int .i64 a0_8) := (blk_cell BK189.out 8).trans rfl
                          have hcz44_9 : wc.cell? ⟨gb189, 9, none⟩ = some (.slice A0_9 l0_9.length c0_9) := (blk_cell BK189.out 9).trans rfl
                          have hcz44_10 : wc.cell? ⟨gb189, 10, none⟩ = some (.slice A0_10 l0_10.length c0_10) := (blk_cell BK189.out 10).trans rfl
                          have hfz44_0 := blk_frozen BK189.out 0
                          have hfz44_1 := blk_frozen BK189.out 1
                          have hfz44_2 := blk_frozen BK189.out 2
                          have hfz44_3 := blk_frozen BK189.out 3
                          have hfz44_4 := blk_frozen BK189.out 4
                          have hfz44_5 := blk_frozen BK189.out 5
                          have hfz44_6 := blk_frozen BK189.out 6
                          have hfz44_7 := blk_frozen BK189.out 7
                          have hfz44_8 := blk_frozen BK189.out 8
                          have hfz44_9 := blk_frozen BK189.out 9
                          have hfz44_10 := blk_frozen BK189.out 10
                          go_wp2_with (first | ((with_reducible refine gate_callee (f := 34) rfl ?_); refine goL_ (some 49) Try.func34 #[.int .i64 a0_8, .int .i64 1] ?_; (with_reducible refine (spec_l5Num.calls kj32 a0_8 1 t202 _ A42.out).mono ?_); rintro e w45 ⟨rfl, hb⟩; refine ⟨_, rfl, ?_⟩; replace BK189 := blkBel_ BK189.out hb; replace HB := stepB_ hb; (try clear hb)))
                          go_meet
                          case rel => exact ⟨_, (x4_32 ++ t202), (by first | rfl | (simp; done) | (simp [*]; done)), H', ⟨by have := HJ6.out; have := HJ18.out; have := HJ25.out; have := HJ32.out; first | omega | exact Nat.le_refl _⟩, ⟨blkU_ BK189.out⟩, ⟨bel_⟩⟩
                        · rw [if_neg c43] at H
                          exact absurd H (by simp)
                      · replace c41 := Bool.eq_false_iff.mpr c41
                        subst c41
                        rw [if_neg (show ¬ (false = true) by decide)] at H
                        have H' := Aside0.mk H
                        clear H
                        go_wp2
                        go_meet
                        case rel => exact ⟨_, (x4_32), (by first | rfl | (simp; done) | (simp [*]; done)), H', ⟨by have := HJ6.out; have := HJ18.out; have := HJ25.out; have := HJ32.out; first | omega | exact Nat.le_refl _⟩, ⟨blkU_ BK189.out⟩, ⟨bel_⟩⟩
                    case rest =>
                      clear HC40
                      (try clear c3); (try clear c13); (try clear c15); (try clear c15b0); (try clear c15b1); (try clear c15b2); (try clear c20); (try clear c22); (try clear c22b0); (try clear c22b1); (try clear c22b2); (try clear c27); (try clear c29); (try clear c29b0); (try clear c29b1); (try clear c29b2); (try clear c34); (try clear c36); (try clear c36b0); (try clear c36b1); (try clear c36b2); (try clear c41); (try clear c43); (try clear c43b0); (try clear c43b1); (try clear c43b2); (try clear hcz11_0); (try clear hcz11_1); (try clear hcz11_10); (try clear hcz11_2); (try clear hcz11_3); (try clear hcz11_4); (try clear hcz11_5); (try clear hcz11_6); (try clear hcz11_7); (try clear hcz11_8); (try clear hcz11_9); (try clear hcz16_0); (try clear hcz16_1); (try clear hcz16_10); (try clear hcz16_2); (try clear hcz16_3); (try clear hcz16_4); (try clear hcz16_5); (try clear hcz16_6); (try clear hcz16_7); (try clear hcz16_8); (try clear hcz16_9); (try clear hcz23_0); (try clear hcz23_1); (try clear hcz23_10); (try clear hcz23_2); (try clear hcz23_3); (try clear hcz23_4); (try clear hcz23_5); (try clear hcz23_6); (try clear hcz23_7); (try clear hcz23_8); (try clear hcz23_9); (try clear hcz30_0); (try clear hcz30_1); (try clear hcz30_10); (try clear hcz30_2); (try clear hcz30_3); (try clear hcz30_4); (try clear hcz30_5); (try clear hcz30_6); (try clear hcz30_7); (try clear hcz30_8); (try clear hcz30_9); (try clear hcz37_0); (try clear hcz37_1); (try clear hcz37_10); (try clear hcz37_2); (try clear hcz37_3); (try clear hcz37_4); (try clear hcz37_5); (try clear hcz37_6); (try clear hcz37_7); (try clear hcz37_8); (try clear hcz37_9); (try clear hcz44_0); (try clear hcz44_1); (try clear hcz44_10); (try clear hcz44_2); (try clear hcz44_3); (try clear hcz44_4); (try clear hcz44_5); (try clear hcz44_6); (try clear hcz44_7); (try clear hcz44_8); (try clear hcz44_9); (try clear hcz9_0); (try clear hcz9_1); (try clear hcz9_10); (try clear hcz9_2); (try clear hcz9_3); (try clear hcz9_4); (try clear hcz9_5); (try clear hcz9_6); (try clear hcz9_7); (try clear hcz9_8); (try clear hcz9_9); (try clear hfz11_0); (try clear hfz11_1); (try clear hfz11_10); (try clear hfz11_2); (try clear hfz11_3); (try clear hfz11_4); (try clear hfz11_5); (try clear hfz11_6); (try clear hfz11_7); (try clear hfz11_8); (try clear hfz11_9); (try clear hfz16_0); (try clear hfz16_1); (try clear hfz16_10); (try clear hfz16_2); (try clear hfz16_3); (try clear hfz16_4); (try clear hfz16_5); (try clear hfz16_6); (try clear hfz16_7); (try clear hfz16_8); (try clear hfz16_9); (try clear hfz23_0); (try clear hfz23_1); (try clear hfz23_10); (try clear hfz23_2); (try clear hfz23_3); (try clear hfz23_4); (try clear hfz23_5); (try clear hfz23_6); (try clear hfz23_7); (try clear hfz23_8); (try clear hfz23_9); (try clear hfz30_0); (try clear hfz30_1); (try clear hfz30_10); (try clear hfz30_2); (try clear hfz30_3); (try clear hfz30_4); (try clear hfz30_5); (try clear hfz30_6); (try clear hfz30_7); (try clear hfz30_8); (try clear hfz30_9); (try clear hfz37_0); (try clear hfz37_1); (try clear hfz37_10); (try clear hfz37_2); (try clear hfz37_3); (try clear hfz37_4); (try clear hfz37_5); (try clear hfz37_6); (try clear hfz37_7); (try clear hfz37_8); (try clear hfz37_9); (try clear hfz44_0); (try clear hfz44_1); (try clear hfz44_10); (try clear hfz44_2); (try clear hfz44_3); (try clear hfz44_4); (try clear hfz44_5); (try clear hfz44_6); (try clear hfz44_7); (try clear hfz44_8); (try clear hfz44_9); (try clear hfz9_0); (try clear hfz9_1); (try clear hfz9_10); (try clear hfz9_2); (try clear hfz9_3); (try clear hfz9_4); (try clear hfz9_5); (try clear hfz9_6); (try clear hfz9_7); (try clear hfz9_8); (try clear hfz9_9)
                      obtain ⟨kq, x4_39, rfl, HA, HJ39, BK189, HB⟩ := hcut
                      cases kq with
                      | zero => exact absurd HA.out (by simp [spec_WireBytes.j4])
                      | succ kj39 =>
                        have H := HA.out
                        clear HA
                        simp only [spec_WireBytes.j4] at H
                        obtain ⟨t203, A46, H⟩ := bnd_ H
                        have HC47 := Aside0.mk H
                        clear H
                        go_upto_if 52 with (first | ((with_reducible refine gate_callee (f := 23) rfl ?_); refine goL_ (some 52) Try.func23 #[.string t191, .int .u8 112] ?_; (with_reducible refine (spec_l5In.calls kj39 t191 112 t203 _ A46.out).mono ?_); rintro e w' ⟨rfl, ⟨nd, rfl⟩⟩; refine ⟨_, rfl, ?_⟩))
                        (try simp only [Act.put, List.setIfInBounds_toArray, List.set_cons_zero, List.set_cons_succ])
                        go_cut [4] (fun v4 wc => ∃ (kq : Nat) (x4_46 : ByteArray), v4 = .string x4_46 ∧ Aside0 (spec_WireBytes.j6 kq t191 x4_46 a0_0 a0_1 a0_2 a0_3 a0_4 a0_5 a0_6 a0_7 a0_8 l0_9 l0_10 = some r) ∧ Aside0 (kq ≤ kj39) ∧ Aside0 (wc.heap[gb189]? = some (.cells #[.int .i64 a0_0, .int .i64 a0_1, .int .i64 a0_2, .int .i64 a0_3, .int .u64 a0_4, .int .u64 a0_5, .int .u64 a0_6, .int .u64 a0_7, .int .i64 a0_8, (.slice A0_9 l0_9.length c0_9), (.slice A0_10 l0_10.length c0_10)] 37 (0, 0))) ∧ Aside0 (Below w.heap.size w wc))
                        case first =>
                          have H := HC47.out
                          clear HC47
                          by_cases c48 : t203 = true
                          · subst c48
                            rw [if_pos rfl] at H
                            obtain ⟨t204, A49, H⟩ := bnd_ H
                            by_cases c50 : x4_39.size + t204.size ≤ 9223372036854775807
                            · rw [if_pos c50] at H
                              have c50b0 := eq_true c50
                              have c50b1 : decide (x4_39.size + t204.size ≤ 9223372036854775807) = true := decide_eq_true c50
                              try have c50b2 : (9223372036854775807 < x4_39.size + t204.size) = False := eq_false (Nat.not_lt.2 c50)
                              have H' := Aside0.mk H
                              clear H
                              have hcz51_0 : wc.cell? ⟨gb189, 0, none⟩ = some (.int .i64 a0_0) := (blk_cell BK189.out 0).trans rfl
                              have hcz51_1 : wc.cell? ⟨gb189, 1, none⟩ = some (.int .i64 a0_1) := (blk_cell BK189.out 1).trans rfl
                              have hcz51_2 : wc.cell? ⟨gb189, 2, none⟩ = some (.int .i64 a0_2) := (blk_cell BK189.out 2).trans rfl
                              have hcz51_3 : wc.cell? ⟨gb189, 3, none⟩ = some (.int .i64 a0_3) := (blk_cell BK189.out 3).trans rfl
                              have hcz51_4 : wc.cell? ⟨gb189, 4, none⟩ = some (.int .u64 a0_4) := (blk_cell BK189.out 4).trans rfl
                              have hcz51_5 : wc.cell? ⟨gb189, 5, none⟩ = some (.int .u64 a0_5) := (blk_cell BK189.out 5).trans rfl
                              have hcz51_6 : wc.cell? ⟨gb189, 6, none⟩ = some (.int .u64 a0_6) := (blk_cell BK189.out 6).trans rfl
                              have hcz51_7 : wc.cell? ⟨gb189, 7, none⟩ = some (.int .u64 a0_7) := (blk_cell BK189.out 7).trans rfl
                              have hcz51_8 : wc.cell? ⟨gb189, 8, none⟩ = some (.int .i64 a0_8) := (blk_cell BK189.out 8).trans rfl
                              have hcz51_9 : wc.cell? ⟨gb189, 9, none⟩ = some (.slice A0_9 l0_9.length c0_9) := (blk_cell BK189.out 9).trans rfl
                              have hcz51_10 : wc.cell? ⟨gb189, 10, none⟩ = some (.slice A0_10 l0_10.length c0_10) := (blk_cell BK189.out 10).trans rfl
                              have hfz51_0 := blk_frozen BK189.out 0
                              have hfz51_1 := blk_frozen BK189.out 1
                              have hfz51_2 := blk_frozen BK189.out 2
                              have hfz51_3 := blk_frozen BK189.out 3
                              have hfz51_4 := blk_frozen BK189.out 4
                              have hfz51_5 := blk_frozen BK189.out 5
                              have hfz51_6 := blk_frozen BK189.out 6
                              have hfz51_7 := blk_frozen BK189.out 7
                              have hfz51_8 := blk_frozen BK189.out 8
                              have hfz51_9 := blk_frozen BK189.out 9
                              have hfz51_10 := blk_frozen BK189.out 10
                              go_wp2_with (first | ((with_reducible refine gate_callee (f := 34) rfl ?_); refine goL_ (some 57) Try.func34 #[.int .i64 (l0_9.length : Int), .int .i64 1] ?_; (with_reducible refine (spec_l5Num.calls kj39 (l0_9.length : Int) 1 t204 _ A49.out).mono ?_); rintro e w52 ⟨rfl, hb⟩; refine ⟨_, rfl, ?_⟩; replace BK189 := blkBel_ BK189.out hb; replace HB := stepB_ hb; (try clear hb)))
                              go_loopg [4, 5] kj39 (fun kq v4 v5 w' => ∃ (x4_6 : ByteArray) (x5_6 : Int), v4 = .string x4_6 ∧ v5 = .int .i64 x5_6 ∧ Aside0 (spec_WireBytes.l0 kq t191 x4_6 x5_6 a0_0 a0_1 a0_2 a0_3 a0_4 a0_5 a0_6 a0_7 a0_8 l0_9 l0_10 = some r) ∧ Aside0 (kq ≤ kj39) ∧ Aside0 (w'.heap[gb189]? = some (.cells #[.int .i64 a0_0, .int .i64 a0_1, .int .i64 a0_2, .int .i64 a0_3, .int .u64 a0_4, .int .u64 a0_5, .int .u64 a0_6, .int .u64 a0_7, .int .i64 a0_8, (.slice A0_9 l0_9.length c0_9), (.slice A0_10 l0_10.length c0_10)] 37 (0, 0))) ∧ Aside0 (Below w.heap.size w w'))
                              case atStart => exact ⟨(x4_39 ++ t204), (0), (by first | rfl | (simp; done) | (simp [*]; done)), (by first | rfl | (simp; done) | (simp [*]; done)), H', ⟨Nat.le_refl _⟩, ⟨blkU_ BK189.out⟩, ⟨bel_⟩⟩
                              case round =>
                                clear H'
                                (try clear c3); (try clear c13); (try clear c15); (try clear c15b0); (try clear c15b1); (try clear c15b2); (try clear c20); (try clear c22); (try clear c22b0); (try clear c22b1); (try clear c22b2); (try clear c27); (try clear c29); (try clear c29b0); (try clear c29b1); (try clear c29b2); (try clear c34); (try clear c36); (try clear c36b0); (try clear c36b1); (try clear c36b2); (try clear c41); (try clear c43); (try clear c43b0); (try clear c43b1); (try clear c43b2); (try clear c48); (try clear c50); (try clear c50b0); (try clear c50b1); (try clear c50b2); (try clear hcz11_0); (try clear hcz11_1); (try clear hcz11_10); (try clear hcz11_2); (try clear hcz11_3); (try clear hcz11_4); (try clear hcz11_5); (try clear hcz11_6); (try clear hcz11_7); (try clear hcz11_8); (try clear hcz11_9); (try clear hcz16_0); (try clear hcz16_1); (try clear hcz16_10); (try clear hcz16_2); (try clear hcz16_3); (try clear hcz16_4); (try clear hcz16_5); (try clear hcz16_6); (try clear hcz16_7); (try clear hcz16_8); (try clear hcz16_9); (try clear hcz23_0); (try clear hcz23_1); (try clear hcz23_10); (try clear hcz23_2); (try clear hcz23_3); (try clear hcz23_4); (try clear hcz23_5); (try clear hcz23_6); (try clear hcz23_7); (try clear hcz23_8); (try clear hcz23_9); (try clear hcz30_0); (try clear hcz30_1); (try clear hcz30_10); (try clear hcz30_2); (try clear hcz30_3); (try clear hcz30_4); (try clear hcz30_5); (try clear hcz30_6); (try clear hcz30_7); (try clear hcz30_8); (try clear hcz30_9); (try clear hcz37_0); (try clear hcz37_1); (try clear hcz37_10); (try clear hcz37_2); (try clear hcz37_3); (try clear hcz37_4); (try clear hcz37_5); (try clear hcz37_6); (try clear hcz37_7); (try clear hcz37_8); (try clear hcz37_9); (try clear hcz44_0); (try clear hcz44_1); (try clear hcz44_10); (try clear hcz44_2); (try clear hcz44_3); (try clear hcz44_4); (try clear hcz44_5); (try clear hcz44_6); (try clear hcz44_7); (try clear hcz44_8); (try clear hcz44_9); (try clear hcz51_0); (try clear hcz51_1); (try clear hcz51_10); (try clear hcz51_2); (try clear hcz51_3); (try clear hcz51_4); (try clear hcz51_5); (try clear hcz51_6); (try clear hcz51_7); (try clear hcz51_8); (try clear hcz51_9); (try clear hcz9_0); (try clear hcz9_1); (try clear hcz9_10); (try clear hcz9_2); (try clear hcz9_3); (try clear hcz9_4); (try clear hcz9_5); (try clear hcz9_6); (try clear hcz9_7); (try clear hcz9_8); (try clear hcz9_9); (try clear hfz11_0); (try clear hfz11_1); (try clear hfz11_10); (try clear hfz11_2); (try clear hfz11_3); (try clear hfz11_4); (try clear hfz11_5); (try clear hfz11_6); (try clear hfz11_7); (try clear hfz11_8); (try clear hfz11_9); (try clear hfz16_0); (try clear hfz16_1); (try clear hfz16_10); (try clear hfz16_2); (try clear hfz16_3); (try clear hfz16_4); (try clear hfz16_5); (try clear hfz16_6); (try clear hfz16_7); (try clear hfz16_8); (try clear hfz16_9); (try clear hfz23_0); (try clear hfz23_1); (try clear hfz23_10); (try clear hfz23_2); (try clear hfz23_3); (try clear hfz23_4); (try clear hfz23_5); (try clear hfz23_6); (try clear hfz23_7); (try clear hfz23_8); (try clear hfz23_9); (try clear hfz30_0); (try clear hfz30_1); (try clear hfz30_10); (try clear hfz30_2); (try clear hfz30_3); (try clear hfz30_4); (try clear hfz30_5); (try clear hfz30_6); (try clear hfz30_7); (try clear hfz30_8); (try clear hfz30_9); (try clear hfz37_0); (try clear hfz37_1); (try clear hfz37_10); (try clear hfz37_2); (try clear hfz37_3); (try clear hfz37_4); (try clear hfz37_5); (try clear hfz37_6); (try clear hfz37_7); (try clear hfz37_8); (try clear hfz37_9); (try clear hfz44_0); (try clear hfz44_1); (try clear hfz44_10); (try clear hfz44_2); (try clear hfz44_3); (try clear hfz44_4); (try clear hfz44_5); (try clear hfz44_6); (try clear hfz44_7); (try clear hfz44_8); (try clear hfz44_9); (try clear hfz51_0); (try clear hfz51_1); (try clear hfz51_10); (try clear hfz51_2); (try clear hfz51_3); (try clear hfz51_4); (try clear hfz51_5); (try clear hfz51_6); (try clear hfz51_7); (try clear hfz51_8); (try clear hfz51_9); (try clear hfz9_0); (try clear hfz9_1); (try clear hfz9_10); (try clear hfz9_2); (try clear hfz9_3); (try clear hfz9_4); (try clear hfz9_5); (try clear hfz9_6); (try clear hfz9_7); (try clear hfz9_8); (try clear hfz9_9)
                                obtain ⟨x4_6, x5_6, rfl, rfl, HA, HK6, BK189, HB⟩ := hrel
                                cases gk with
                                | zero => exact absurd HA.out (by simp [spec_WireBytes.l0])
                                | succ k6 =>
                                  have H := HA.out
                                  clear HA
                                  simp only [spec_WireBytes.l0] at H
                                  by_cases c53 : x5_6 < (l0_9.length : Int)
                                  · rw [if_pos c53] at H
                                    have c53b0 : decide (x5_6 < (l0_9.length : Int)) = true := decide_eq_true c53
                                    clear c53
                                    (first | rw [c53b0] | (simp only [i64_w, i32_w]; rw [c53b0]) | skip)
                                    by_cases c54 : 0 ≤ x5_6
                                    · rw [if_pos c54] at H
                                      have c54b0 : decide (0 ≤ x5_6) = true := decide_eq_true c54
                                      clear c54
                                      obtain ⟨t206, A55, H⟩ := bnd_ H
                                      by_cases c56 : x4_6.size + t206.size ≤ 9223372036854775807
                                      · rw [if_pos c56] at H
                                        have c56b0 := eq_true c56
                                        have c56b1 : decide (x4_6.size + t206.size ≤ 9223372036854775807) = true := decide_eq_true c56
                                        try have c56b2 : (9223372036854775807 < x4_6.size + t206.size) = False := eq_false (Nat.not_lt.2 c56)
                                        have H' := Aside0.mk H
                                        clear H
                                        have hcz57_0 : wr.cell? ⟨gb189, 0, none⟩ = some (.int .i64 a0_0) := (blk_cell BK189.out 0).trans rfl
                                        have hcz57_1 : wr.cell? ⟨gb189, 1, none⟩ = some (.int .i64 a0_1) := (blk_cell BK189.out 1).trans rfl
                                        have hcz57_2 : wr.cell? ⟨gb189, 2, none⟩ = some (.int .i64 a0_2) := (blk_cell BK189.out 2).trans rfl
                                        have hcz57_3 : wr.cell? ⟨gb189, 3, none⟩ = some (.int .i64 a0_3) := (blk_cell BK189.out 3).trans rfl
                                        have hcz57_4 : wr.cell? ⟨gb189, 4, none⟩ = some (.int .u64 a0_4) := (blk_cell BK189.out 4).trans rfl
                                        have hcz57_5 : wr.cell? ⟨gb189, 5, none⟩ = some (.int .u64 a0_5) := (blk_cell BK189.out 5).trans rfl
                                        have hcz57_6 : wr.cell? ⟨gb189, 6, none⟩ = some (.int .u64 a0_6) := (blk_cell BK189.out 6).trans rfl
                                        have hcz57_7 : wr.cell? ⟨gb189, 7, none⟩ = some (.int .u64 a0_7) := (blk_cell BK189.out 7).trans rfl
                                        have hcz57_8 : wr.cell? ⟨gb189, 8, none⟩ = some (.int .i64 a0_8) := (blk_cell BK189.out 8).trans rfl
                                        have hcz57_9 : wr.cell? ⟨gb189, 9, none⟩ = some (.slice A0_9 l0_9.length c0_9) := (blk_cell BK189.out 9).trans rfl
                                        have hcz57_10 : wr.cell? ⟨gb189, 10, none⟩ = some (.slice A0_10 l0_10.length c0_10) := (blk_cell BK189.out 10).trans rfl
                                        have hfz57_0 := blk_frozen BK189.out 0
                                        have hfz57_1 := blk_frozen BK189.out 1
                                        have hfz57_2 := blk_frozen BK189.out 2
                                        have hfz57_3 := blk_frozen BK189.out 3
                                        have hfz57_4 := blk_frozen BK189.out 4
                                        have hfz57_5 := blk_frozen BK189.out 5
                                        have hfz57_6 := blk_frozen BK189.out 6
                                        have hfz57_7 := blk_frozen BK189.out 7
                                        have hfz57_8 := blk_frozen BK189.out 8
                                        have hfz57_9 := blk_frozen BK189.out 9
                                        have hfz57_10 := blk_frozen BK189.out 10
                                        have p205 : 0 ≤ (x5_6 : Int) := ofd_
                                        have q205 : x5_6 < (l0_9.length : Int) := ofd_
                                        obtain ⟨ad205, e205, hx205_0, hx205_1, hx205_2, hx205_3⟩ := at_T26 HR0_9.out x5_6 p205 q205
                                        cases e205
                                        replace hx205_0 := pw_cell_below HB.out hx205_0
                                        replace hx205_1 := pw_cell_below HB.out hx205_1
                                        replace hx205_2 := pw_cell_below HB.out hx205_2
                                        replace hx205_3 := pw_cell_below HB.out hx205_3
                                        replace p205 := eq_true p205
                                        replace q205 := eq_true q205
                                        go_wp2_with (first | ((with_reducible refine gate_callee (f := 16) rfl ?_); refine goL_ (some 72) Try.func16 #[.agg #[.int .u64 ((rd_T26 l0_9 x5_6).f0), .int .u64 ((rd_T26 l0_9 x5_6).f1), .int .u64 ((rd_T26 l0_9 x5_6).f2), .int .u64 ((rd_T26 l0_9 x5_6).f3)]] ?_; (with_reducible refine (spec_HashBytes.calls k6 ((rd_T26 l0_9 x5_6).f0) ((rd_T26 l0_9 x5_6).f1) ((rd_T26 l0_9 x5_6).f2) ((rd_T26 l0_9 x5_6).f3) t206 _ A55.out).mono ?_); rintro e w58 ⟨rfl, hb⟩; refine ⟨_, rfl, ?_⟩; replace BK189 := blkBel_ BK189.out hb; replace HB := stepB_ hb; (try clear hb)))
                                        go_roundg k6
                                        case measure => have := HJ6.out; have := HJ18.out; have := HJ25.out; have := HJ32.out; have := HJ39.out; have := HK6.out; omega
                                        case rel => exact ⟨(x4_6 ++ t206), (wrap64 (x5_6 + 1)), (by first | rfl | (simp; done) | (simp [*]; done)), (by first | rfl | (simp; done) | (simp [*]; done)), H', ⟨by have := HJ6.out; have := HJ18.out; have := HJ25.out; have := HJ32.out; have := HJ39.out; have := HK6.out; omega⟩, ⟨blkU_ BK189.out⟩, ⟨bel_⟩⟩
                                      · rw [if_neg c56] at H
                                        exact absurd H (by simp)
                                    · rw [if_neg c54] at H
                                      exact absurd H (by simp)
                                  · rw [if_neg c53] at H
                                    have c53b0 : decide (x5_6 < (l0_9.length : Int)) = false := decide_eq_false c53
                                    clear c53
                                    (first | rw [c53b0] | (simp only [i64_w, i32_w]; rw [c53b0]) | skip)
                                    have H' := Aside0.mk H
                                    clear H
                                    have hcz59_0 : wr.cell? ⟨gb189, 0, none⟩ = some (.int .i64 a0_0) := (blk_cell BK189.out 0).trans rfl
                                    have hcz59_1 : wr.cell? ⟨gb189, 1, none⟩ = some (.int .i64 a0_1) := (blk_cell BK189.out 1).trans rfl
                                    have hcz59_2 : wr.cell? ⟨gb189, 2, none⟩ = some (.int .i64 a0_2) := (blk_cell BK189.out 2).trans rfl
                                    have hcz59_3 : wr.cell? ⟨gb189, 3, none⟩ = some (.int .i64 a0_3) := (blk_cell BK189.out 3).trans rfl
                                    have hcz59_4 : wr.cell? ⟨gb189, 4, none⟩ = some (.int .u64 a0_4) := (blk_cell BK189.out 4).trans rfl
                                    have hcz59_5 : wr.cell? ⟨gb189, 5, none⟩ = some (.int .u64 a0_5) := (blk_cell BK189.out 5).trans rfl
                                    have hcz59_6 : wr.cell? ⟨gb189, 6, none⟩ = some (.int .u64 a0_6) := (blk_cell BK189.out 6).trans rfl
                                    have hcz59_7 : wr.cell? ⟨gb189, 7, none⟩ = some (.int .u64 a0_7) := (blk_cell BK189.out 7).trans rfl
                                    have hcz59_8 : wr.cell? ⟨gb189, 8, none⟩ = some (.int .i64 a0_8) := (blk_cell BK189.out 8).trans rfl
                                    have hcz59_9 : wr.cell? ⟨gb189, 9, none⟩ = some (.slice A0_9 l0_9.length c0_9) := (blk_cell BK189.out 9).trans rfl
                                    have hcz59_10 : wr.cell? ⟨gb189, 10, none⟩ = some (.slice A0_10 l0_10.length c0_10) := (blk_cell BK189.out 10).trans rfl
                                    have hfz59_0 := blk_frozen BK189.out 0
                                    have hfz59_1 := blk_frozen BK189.out 1
                                    have hfz59_2 := blk_frozen BK189.out 2
                                    have hfz59_3 := blk_frozen BK189.out 3
                                    have hfz59_4 := blk_frozen BK189.out 4
                                    have hfz59_5 := blk_frozen BK189.out 5
                                    have hfz59_6 := blk_frozen BK189.out 6
                                    have hfz59_7 := blk_frozen BK189.out 7
                                    have hfz59_8 := blk_frozen BK189.out 8
                                    have hfz59_9 := blk_frozen BK189.out 9
                                    have hfz59_10 := blk_frozen BK189.out 10
                                    go_wp2
                                    go_meet
                                    case rel => exact ⟨_, (x4_6), (by first | rfl | (simp; done) | (simp [*]; done)), H', ⟨by have := HJ6.out; have := HJ18.out; have := HJ25.out; have := HJ32.out; have := HJ39.out; have := HK6.out; first | omega | exact Nat.le_refl _⟩, ⟨blkU_ BK189.out⟩, ⟨bel_⟩⟩
                            · rw [if_neg c50] at H
                              exact absurd H (by simp)
                          · replace c48 := Bool.eq_false_iff.mpr c48
                            subst c48
                            rw [if_neg (show ¬ (false = true) by decide)] at H
                            have H' := Aside0.mk H
                            clear H
                            go_wp2
                            go_meet
                            case rel => exact ⟨_, (x4_39), (by first | rfl | (simp; done) | (simp [*]; done)), H', ⟨by have := HJ6.out; have := HJ18.out; have := HJ25.out; have := HJ32.out; have := HJ39.out; first | omega | exact Nat.le_refl _⟩, ⟨blkU_ BK189.out⟩, ⟨bel_⟩⟩
                        case rest =>
                          clear HC47
                          (try clear c3); (try clear c13); (try clear c15); (try clear c15b0); (try clear c15b1); (try clear c15b2); (try clear c20); (try clear c22); (try clear c22b0); (try clear c22b1); (try clear c22b2); (try clear c27); (try clear c29); (try clear c29b0); (try clear c29b1); (try clear c29b2); (try clear c34); (try clear c36); (try clear c36b0); (try clear c36b1); (try clear c36b2); (try clear c41); (try clear c43); (try clear c43b0); (try clear c43b1); (try clear c43b2); (try clear c48); (try clear c50); (try clear c50b0); (try clear c50b1); (try clear c50b2); (try clear c53); (try clear c53b0); (try clear c54); (try clear c54b0); (try clear c56); (try clear c56b0); (try clear c56b1); (try clear c56b2); (try clear hcz11_0); (try clear hcz11_1); (try clear hcz11_10); (try clear hcz11_2); (try clear hcz11_3); (try clear hcz11_4); (try clear hcz11_5); (try clear hcz11_6); (try clear hcz11_7); (try clear hcz11_8); (try clear hcz11_9); (try clear hcz16_0); (try clear hcz16_1); (try clear hcz16_10); (try clear hcz16_2); (try clear hcz16_3); (try clear hcz16_4); (try clear hcz16_5); (try clear hcz16_6); (try clear hcz16_7); (try clear hcz16_8); (try clear hcz16_9); (try clear hcz23_0); (try clear hcz23_1); (try clear hcz23_10); (try clear hcz23_2); (try clear hcz23_3); (try clear hcz23_4); (try clear hcz23_5); (try clear hcz23_6); (try clear hcz23_7); (try clear hcz23_8); (try clear hcz23_9); (try clear hcz30_0); (try clear hcz30_1); (try clear hcz30_10); (try clear hcz30_2); (try clear hcz30_3); (try clear hcz30_4); (try clear hcz30_5); (try clear hcz30_6); (try clear hcz30_7); (try clear hcz30_8); (try clear hcz30_9); (try clear hcz37_0); (try clear hcz37_1); (try clear hcz37_10); (try clear hcz37_2); (try clear hcz37_3); (try clear hcz37_4); (try clear hcz37_5); (try clear hcz37_6); (try clear hcz37_7); (try clear hcz37_8); (try clear hcz37_9); (try clear hcz44_0); (try clear hcz44_1); (try clear hcz44_10); (try clear hcz44_2); (try clear hcz44_3); (try clear hcz44_4); (try clear hcz44_5); (try clear hcz44_6); (try clear hcz44_7); (try clear hcz44_8); (try clear hcz44_9); (try clear hcz51_0); (try clear hcz51_1); (try clear hcz51_10); (try clear hcz51_2); (try clear hcz51_3); (try clear hcz51_4); (try clear hcz51_5); (try clear hcz51_6); (try clear hcz51_7); (try clear hcz51_8); (try clear hcz51_9); (try clear hcz57_0); (try clear hcz57_1); (try clear hcz57_10); (try clear hcz57_2); (try clear hcz57_3); (try clear hcz57_4); (try clear hcz57_5); (try clear hcz57_6); (try clear hcz57_7); (try clear hcz57_8); (try clear hcz57_9); (try clear hcz59_0); (try clear hcz59_1); (try clear hcz59_10); (try clear hcz59_2); (try clear hcz59_3); (try clear hcz59_4); (try clear hcz59_5); (try clear hcz59_6); (try clear hcz59_7); (try clear hcz59_8); (try clear hcz59_9); (try clear hcz9_0); (try clear hcz9_1); (try clear hcz9_10); (try clear hcz9_2); (try clear hcz9_3); (try clear hcz9_4); (try clear hcz9_5); (try clear hcz9_6); (try clear hcz9_7); (try clear hcz9_8); (try clear hcz9_9); (try clear hfz11_0); (try clear hfz11_1); (try clear hfz11_10); (try clear hfz11_2); (try clear hfz11_3); (try clear hfz11_4); (try clear hfz11_5); (try clear hfz11_6); (try clear hfz11_7); (try clear hfz11_8); (try clear hfz11_9); (try clear hfz16_0); (try clear hfz16_1); (try clear hfz16_10); (try clear hfz16_2); (try clear hfz16_3); (try clear hfz16_4); (try clear hfz16_5); (try clear hfz16_6); (try clear hfz16_7); (try clear hfz16_8); (try clear hfz16_9); (try clear hfz23_0); (try clear hfz23_1); (try clear hfz23_10); (try clear hfz23_2); (try clear hfz23_3); (try clear hfz23_4); (try clear hfz23_5); (try clear hfz23_6); (try clear hfz23_7); (try clear hfz23_8); (try clear hfz23_9); (try clear hfz30_0); (try clear hfz30_1); (try clear hfz30_10); (try clear hfz30_2); (try clear hfz30_3); (try clear hfz30_4); (try clear hfz30_5); (try clear hfz30_6); (try clear hfz30_7); (try clear hfz30_8); (try clear hfz30_9); (try clear hfz37_0); (try clear hfz37_1); (try clear hfz37_10); (try clear hfz37_2); (try clear hfz37_3); (try clear hfz37_4); (try clear hfz37_5); (try clear hfz37_6); (try clear hfz37_7); (try clear hfz37_8); (try clear hfz37_9); (try clear hfz44_0); (try clear hfz44_1); (try clear hfz44_10); (try clear hfz44_2); (try clear hfz44_3); (try clear hfz44_4); (try clear hfz44_5); (try clear hfz44_6); (try clear hfz44_7); (try clear hfz44_8); (try clear hfz44_9); (try clear hfz51_0); (try clear hfz51_1); (try clear hfz51_10); (try clear hfz51_2); (try clear hfz51_3); (try clear hfz51_4); (try clear hfz51_5); (try clear hfz51_6); (try clear hfz51_7); (try clear hfz51_8); (try clear hfz51_9); (try clear hfz57_0); (try clear hfz57_1); (try clear hfz57_10); (try clear hfz57_2); (try clear hfz57_3); (try clear hfz57_4); (try clear hfz57_5); (try clear hfz57_6); (try clear hfz57_7); (try clear hfz57_8); (try clear hfz57_9); (try clear hfz59_0); (try clear hfz59_1); (try clear hfz59_10); (try clear hfz59_2); (try clear hfz59_3); (try clear hfz59_4); (try clear hfz59_5); (try clear hfz59_6); (try clear hfz59_7); (try clear hfz59_8); (try clear hfz59_9); (try clear hfz9_0); (try clear hfz9_1); (try clear hfz9_10); (try clear hfz9_2); (try clear hfz9_3); (try clear hfz9_4); (try clear hfz9_5); (try clear hfz9_6); (try clear hfz9_7); (try clear hfz9_8); (try clear hfz9_9); (try clear hx205_0); (try clear hx205_1); (try clear hx205_2); (try clear hx205_3); (try clear p205); (try clear q205)
                          obtain ⟨kq, x4_46, rfl, HA, HJ46, BK189, HB⟩ := hcut
                          cases kq with
                          | zero => exact absurd HA.out (by simp [spec_WireBytes.j6])
                          | succ kj46 =>
                            have H := HA.out
                            clear HA
                            simp only [spec_WireBytes.j6] at H
                            obtain ⟨t207, A60, H⟩ := bnd_ H
                            by_cases c61 : t207 = true
                            · subst c61
                              rw [if_pos rfl] at H
                              obtain ⟨t208, A62, H⟩ := bnd_ H
                              by_cases c63 : x4_46.size + t208.size ≤ 9223372036854775807
                              · rw [if_pos c63] at H
                                have c63b0 := eq_true c63
                                have c63b1 : decide (x4_46.size + t208.size ≤ 9223372036854775807) = true := decide_eq_true c63
                                try have c63b2 : (9223372036854775807 < x4_46.size + t208.size) = False := eq_false (Nat.not_lt.2 c63)
                                have H' := Aside0.mk H
                                clear H
                                go_wp2_with (first | ((with_reducible refine gate_callee (f := 23) rfl ?_); refine goL_ (some 75) Try.func23 #[.string t191, .int .u8 108] ?_; (with_reducible refine (spec_l5In.calls kj46 t191 108 true _ A60.out).mono ?_); rintro e w' ⟨rfl, ⟨nd, rfl⟩⟩; refine ⟨_, rfl, ?_⟩; have hcz64_0 : wc.cell? ⟨gb189, 0, none⟩ = some (.int .i64 a0_0) := (blk_cell BK189.out 0).trans rfl; have hcz64_1 : wc.cell? ⟨gb189, 1, none⟩ = some (.int .i64 a0_1) := (blk_cell BK189.out 1).trans rfl; have hcz64_2 : wc.cell? ⟨gb189, 2, none⟩ = some (.int .i64 a0_2) := (blk_cell BK189.out 2).trans rfl; have hcz64_3 : wc.cell? ⟨gb189, 3, none⟩ = some (.int .i64 a0_3) := (blk_cell BK189.out 3).trans rfl; have hcz64_4 : wc.cell? ⟨gb189, 4, none⟩ = some (.int .u64 a0_4) := (blk_cell BK189.out 4).trans rfl; have hcz64_5 : wc.cell? ⟨gb189, 5, none⟩ = some (.int .u64 a0_5) := (blk_cell BK189.out 5).trans rfl; have hcz64_6 : wc.cell? ⟨gb189, 6, none⟩ = some (.int .u64 a0_6) := (blk_cell BK189.out 6).trans rfl; have hcz64_7 : wc.cell? ⟨gb189, 7, none⟩ = some (.int .u64 a0_7) := (blk_cell BK189.out 7).trans rfl; have hcz64_8 : wc.cell? ⟨gb189, 8, none⟩ = some (.int .i64 a0_8) := (blk_cell BK189.out 8).trans rfl; have hcz64_9 : wc.cell? ⟨gb189, 9, none⟩ = some (.slice A0_9 l0_9.length c0_9) := (blk_cell BK189.out 9).trans rfl; have hcz64_10 : wc.cell? ⟨gb189, 10, none⟩ = some (.slice A0_10 l0_10.length c0_10) := (blk_cell BK189.out 10).trans rfl; have hfz64_0 := blk_frozen BK189.out 0; have hfz64_1 := blk_frozen BK189.out 1; have hfz64_2 := blk_frozen BK189.out 2; have hfz64_3 := blk_frozen BK189.out 3; have hfz64_4 := blk_frozen BK189.out 4; have hfz64_5 := blk_frozen BK189.out 5; have hfz64_6 := blk_frozen BK189.out 6; have hfz64_7 := blk_frozen BK189.out 7; have hfz64_8 := blk_frozen BK189.out 8; have hfz64_9 := blk_frozen BK189.out 9; have hfz64_10 := blk_frozen BK189.out 10) | ((with_reducible refine gate_callee (f := 34) rfl ?_); refine goL_ (some 80) Try.func34 #[.int .i64 (l0_10.length : Int), .int .i64 1] ?_; (with_reducible refine (spec_l5Num.calls kj46 (l0_10.length : Int) 1 t208 _ A62.out).mono ?_); rintro e w65 ⟨rfl, hb⟩; refine ⟨_, rfl, ?_⟩; replace BK189 := blkBel_ BK189.out hb; replace HB := stepB_ hb; (try clear hb)))
                                go_loopg [4, 6] kj46 (fun kq v4 v6 w' => ∃ (x4_7 : ByteArray) (x6_7 : Int), v4 = .string x4_7 ∧ v6 = .int .i64 x6_7 ∧ Aside0 (spec_WireBytes.l1 kq x4_7 x6_7 a0_0 a0_1 a0_2 a0_3 a0_4 a0_5 a0_6 a0_7 a0_8 l0_9 l0_10 = some r) ∧ Aside0 (kq ≤ kj46) ∧ Aside0 (w'.heap[gb189]? = some (.cells #[.int .i64 a0_0, .int .i64 a0_1, .int .i64 a0_2, .int .i64 a0_3, .int .u64 a0_4, .int .u64 a0_5, .int .u64 a0_6, .int .u64 a0_7, .int .i64 a0_8, (.slice A0_9 l0_9.length c0_9), (.slice A0_10 l0_10.length c0_10)] 37 (0, 0))) ∧ Aside0 (Below w.heap.size w w'))
                                case atStart => exact ⟨(x4_46 ++ t208), (0), (by first | rfl | (simp; done) | (simp [*]; done)), (by first | rfl | (simp; done) | (simp [*]; done)), H', ⟨Nat.le_refl _⟩, ⟨blkU_ BK189.out⟩, ⟨bel_⟩⟩
                                case round =>
                                  clear H'
                                  (try clear c3); (try clear c13); (try clear c15); (try clear c15b0); (try clear c15b1); (try clear c15b2); (try clear c20); (try clear c22); (try clear c22b0); (try clear c22b1); (try clear c22b2); (try clear c27); (try clear c29); (try clear c29b0); (try clear c29b1); (try clear c29b2); (try clear c34); (try clear c36); (try clear c36b0); (try clear c36b1); (try clear c36b2); (try clear c41); (try clear c43); (try clear c43b0); (try clear c43b1); (try clear c43b2); (try clear c48); (try clear c50); (try clear c50b0); (try clear c50b1); (try clear c50b2); (try clear c53); (try clear c53b0); (try clear c54); (try clear c54b0); (try clear c56); (try clear c56b0); (try clear c56b1); (try clear c56b2); (try clear c61); (try clear c63); (try clear c63b0); (try clear c63b1); (try clear c63b2); (try clear hcz11_0); (try clear hcz11_1); (try clear hcz11_10); (try clear hcz11_2); (try clear hcz11_3); (try clear hcz11_4); (try clear hcz11_5); (try clear hcz11_6); (try clear hcz11_7); (try clear hcz11_8); (try clear hcz11_9); (try clear hcz16_0); (try clear hcz16_1); (try clear hcz16_10); (try clear hcz16_2); (try clear hcz16_3); (try clear hcz16_4); (try clear hcz16_5); (try clear hcz16_6); (try clear hcz16_7); (try clear hcz16_8); (try clear hcz16_9); (try clear hcz23_0); (try clear hcz23_1); (try clear hcz23_10); (try clear hcz23_2); (try clear hcz23_3); (try clear hcz23_4); (try clear hcz23_5); (try clear hcz23_6); (try clear hcz23_7); (try clear hcz23_8); (try clear hcz23_9); (try clear hcz30_0); (try clear hcz30_1); (try clear hcz30_10); (try clear hcz30_2); (try clear hcz30_3); (try clear hcz30_4); (try clear hcz30_5); (try clear hcz30_6); (try clear hcz30_7); (try clear hcz30_8); (try clear hcz30_9); (try clear hcz37_0); (try clear hcz37_1); (try clear hcz37_10); (try clear hcz37_2); (try clear hcz37_3); (try clear hcz37_4); (try clear hcz37_5); (try clear hcz37_6); (try clear hcz37_7); (try clear hcz37_8); (try clear hcz37_9); (try clear hcz44_0); (try clear hcz44_1); (try clear hcz44_10); (try clear hcz44_2); (try clear hcz44_3); (try clear hcz44_4); (try clear hcz44_5); (try clear hcz44_6); (try clear hcz44_7); (try clear hcz44_8); (try clear hcz44_9); (try clear hcz51_0); (try clear hcz51_1); (try clear hcz51_10); (try clear hcz51_2); (try clear hcz51_3); (try clear hcz51_4); (try clear hcz51_5); (try clear hcz51_6); (try clear hcz51_7); (try clear hcz51_8); (try clear hcz51_9); (try clear hcz57_0); (try clear hcz57_1); (try clear hcz57_10); (try clear hcz57_2); (try clear hcz57_3); (try clear hcz57_4); (try clear hcz57_5); (try clear hcz57_6); (try clear hcz57_7); (try clear hcz57_8); (try clear hcz57_9); (try clear hcz59_0); (try clear hcz59_1); (try clear hcz59_10); (try clear hcz59_2); (try clear hcz59_3); (try clear hcz59_4); (try clear hcz59_5); (try clear hcz59_6); (try clear hcz59_7); (try clear hcz59_8); (try clear hcz59_9); (try clear hcz64_0); (try clear hcz64_1); (try clear hcz64_10); (try clear hcz64_2); (try clear hcz64_3); (try clear hcz64_4); (try clear hcz64_5); (try clear hcz64_6); (try clear hcz64_7); (try clear hcz64_8); (try clear hcz64_9); (try clear hcz9_0); (try clear hcz9_1); (try clear hcz9_10); (try clear hcz9_2); (try clear hcz9_3); (try clear hcz9_4); (try clear hcz9_5); (try clear hcz9_6); (try clear hcz9_7); (try clear hcz9_8); (try clear hcz9_9); (try clear hfz11_0); (try clear hfz11_1); (try clear hfz11_10); (try clear hfz11_2); (try clear hfz11_3); (try clear hfz11_4); (try clear hfz11_5); (try clear hfz11_6); (try clear hfz11_7); (try clear hfz11_8); (try clear hfz11_9); (try clear hfz16_0); (try clear hfz16_1); (try clear hfz16_10); (try clear hfz16_2); (try clear hfz16_3); (try clear hfz16_4); (try clear hfz16_5); (try clear hfz16_6); (try clear hfz16_7); (try clear hfz16_8); (try clear hfz16_9); (try clear hfz23_0); (try clear hfz23_1); (try clear hfz23_10); (try clear hfz23_2); (try clear hfz23_3); (try clear hfz23_4); (try clear hfz23_5); (try clear hfz23_6); (try clear hfz23_7); (try clear hfz23_8); (try clear hfz23_9); (try clear hfz30_0); (try clear hfz30_1); (try clear hfz30_10); (try clear hfz30_2); (try clear hfz30_3); (try clear hfz30_4); (try clear hfz30_5); (try clear hfz30_6); (try clear hfz30_7); (try clear hfz30_8); (try clear hfz30_9); (try clear hfz37_0); (try clear hfz37_1); (try clear hfz37_10); (try clear hfz37_2); (try clear hfz37_3); (try clear hfz37_4); (try clear hfz37_5); (try clear hfz37_6); (try clear hfz37_7); (try clear hfz37_8); (try clear hfz37_9); (try clear hfz44_0); (try clear hfz44_1); (try clear hfz44_10); (try clear hfz44_2); (try clear hfz44_3); (try clear hfz44_4); (try clear hfz44_5); (try clear hfz44_6); (try clear hfz44_7); (try clear hfz44_8); (try clear hfz44_9); (try clear hfz51_0); (try clear hfz51_1); (try clear hfz51_10); (try clear hfz51_2); (try clear hfz51_3); (try clear hfz51_4); (try clear hfz51_5); (try clear hfz51_6); (try clear hfz51_7); (try clear hfz51_8); (try clear hfz51_9); (try clear hfz57_0); (try clear hfz57_1); (try clear hfz57_10); (try clear hfz57_2); (try clear hfz57_3); (try clear hfz57_4); (try clear hfz57_5); (try clear hfz57_6); (try clear hfz57_7); (try clear hfz57_8); (try clear hfz57_9); (try clear hfz59_0); (try clear hfz59_1); (try clear hfz59_10); (try clear hfz59_2); (try clear hfz59_3); (try clear hfz59_4); (try clear hfz59_5); (try clear hfz59_6); (try clear hfz59_7); (try clear hfz59_8); (try clear hfz59_9); (try clear hfz64_0); (try clear hfz64_1); (try clear hfz64_10); (try clear hfz64_2); (try clear hfz64_3); (try clear hfz64_4); (try clear hfz64_5); (try clear hfz64_6); (try clear hfz64_7); (try clear hfz64_8); (try clear hfz64_9); (try clear hfz9_0); (try clear hfz9_1); (try clear hfz9_10); (try clear hfz9_2); (try clear hfz9_3); (try clear hfz9_4); (try clear hfz9_5); (try clear hfz9_6); (try clear hfz9_7); (try clear hfz9_8); (try clear hfz9_9); (try clear hx205_0); (try clear hx205_1); (try clear hx205_2); (try clear hx205_3); (try clear p205); (try clear q205)
                                  obtain ⟨x4_7, x6_7, rfl, rfl, HA, HK7, BK189, HB⟩ := hrel
                                  cases gk with
                                  | zero => exact absurd HA.out (by simp [spec_WireBytes.l1])
                                  | succ k7 =>
                                    have H := HA.out
                                    clear HA
                                    simp only [spec_WireBytes.l1] at H
                                    by_cases c66 : x6_7 < (l0_10.length : Int)
                                    · rw [if_pos c66] at H
                                      have c66b0 : decide (x6_7 < (l0_10.length : Int)) = true := decide_eq_true c66
                                      clear c66
                                      by_cases c67 : 0 ≤ x6_7
                                      · rw [if_pos c67] at H
                                        have c67b0 : decide (0 ≤ x6_7) = true := decide_eq_true c67
                                        clear c67
                                        obtain ⟨t210, A68, H⟩ := bnd_ H
                                        by_cases c69 : x4_7.size + t210.size ≤ 9223372036854775807
                                        · rw [if_pos c69] at H
                                          have c69b0 := eq_true c69
                                          have c69b1 : decide (x4_7.size + t210.size ≤ 9223372036854775807) = true := decide_eq_true c69
                                          try have c69b2 : (9223372036854775807 < x4_7.size + t210.size) = False := eq_false (Nat.not_lt.2 c69)
                                          by_cases c70 : (x4_7 ++ t210).size + (rdOf ByteArray.empty l0_10 x6_7).size ≤ 9223372036854775807
                                          · rw [if_pos c70] at H
                                            have c70b0 := eq_true c70
                                            have c70b1 : decide ((x4_7 ++ t210).size + (rdOf ByteArray.empty l0_10 x6_7).size ≤ 9223372036854775807) = true := decide_eq_true c70
                                            try (have c70b1n := c70b1; simp only [ByteArray.size_append, Int.natCast_add] at c70b1n)
                                            try have c70b2 : (9223372036854775807 < (x4_7 ++ t210).size + (rdOf ByteArray.empty l0_10 x6_7).size) = False := eq_false (Nat.not_lt.2 c70)
                                            have H' := Aside0.mk H
                                            clear H
                                            have hcz71_0 : wr.cell? ⟨gb189, 0, none⟩ = some (.int .i64 a0_0) := (blk_cell BK189.out 0).trans rfl
                                            have hcz71_1 : wr.cell? ⟨gb189, 1, none⟩ = some (.int .i64 a0_1) := (blk_cell BK189.out 1).trans rfl
                                            have hcz71_2 : wr.cell? ⟨gb189, 2, none⟩ = some (.int .i64 a0_2) := (blk_cell BK189.out 2).trans rfl
                                            have hcz71_3 : wr.cell? ⟨gb189, 3, none⟩ = some (.int .i64 a0_3) := (blk_cell BK189.out 3).trans rfl
                                            have hcz71_4 : wr.cell? ⟨gb189, 4, none⟩ = some (.int .u64 a0_4) := (blk_cell BK189.out 4).trans rfl
                                            have hcz71_5 : wr.cell? ⟨gb189, 5, none⟩ = some (.int .u64 a0_5) := (blk_cell BK189.out 5).trans rfl
                                            have hcz71_6 : wr.cell? ⟨gb189, 6, none⟩ = some (.int .u64 a0_6) := (blk_cell BK189.out 6).trans rfl
                                            have hcz71_7 : wr.cell? ⟨gb189, 7, none⟩ = some (.int .u64 a0_7) := (blk_cell BK189.out 7).trans rfl
                                            have hcz71_8 : wr.cell? ⟨gb189, 8, none⟩ = some (.int .i64 a0_8) := (blk_cell BK189.out 8).trans rfl
                                            have hcz71_9 : wr.cell? ⟨gb189, 9, none⟩ = some (.slice A0_9 l0_9.length c0_9) := (blk_cell BK189.out 9).trans rfl
                                            have hcz71_10 : wr.cell? ⟨gb189, 10, none⟩ = some (.slice A0_10 l0_10.length c0_10) := (blk_cell BK189.out 10).trans rfl
                                            have hfz71_0 := blk_frozen BK189.out 0
                                            have hfz71_1 := blk_frozen BK189.out 1
                                            have hfz71_2 := blk_frozen BK189.out 2
                                            have hfz71_3 := blk_frozen BK189.out 3
                                            have hfz71_4 := blk_frozen BK189.out 4
                                            have hfz71_5 := blk_frozen BK189.out 5
                                            have hfz71_6 := blk_frozen BK189.out 6
                                            have hfz71_7 := blk_frozen BK189.out 7
                                            have hfz71_8 := blk_frozen BK189.out 8
                                            have hfz71_9 := blk_frozen BK189.out 9
                                            have hfz71_10 := blk_frozen BK189.out 10
                                            try go_wp2
                                            replace BK189 := Aside0.mk (blk_drew BK189.out)
                                            replace HB := Aside0.mk (below_drew1 HB.out)
                                            have p209 : 0 ≤ (x6_7 : Int) := ofd_
                                            have q209 : x6_7 < (l0_10.length : Int) := ofd_
                                            obtain ⟨ad209, e209, hx209_0⟩ := Kd.at_string HR0_10.out x6_7 p209 q209
                                            have hw209_0 := hx209_0
                                            cases e209
                                            replace hx209_0 := pw_cell_below HB.out hx209_0
                                            replace p209 := eq_true p209
                                            replace q209 := eq_true q209
                                            have p211 : 0 ≤ (x6_7 : Int) := ofd_
                                            have q211 : x6_7 < (l0_10.length : Int) := ofd_
                                            obtain ⟨ad211, e211, hx211_0⟩ := Kd.at_string HR0_10.out x6_7 p211 q211
                                            have hw211_0 := hx211_0
                                            obtain rfl : ad209 = ad211 := (by injection e211)
                                            replace hx211_0 := pw_cell_below HB.out hx211_0
                                            replace p211 := eq_true p211
                                            replace q211 := eq_true q211
                                            refine start_ (n := 16) (S := fun w' => w'.cell? ⟨gb189, 0, none⟩ = some (.int .i64 a0_0) ∧ w'.cell? ⟨gb189, 1, none⟩ = some (.int .i64 a0_1) ∧ w'.cell? ⟨gb189, 2, none⟩ = some (.int .i64 a0_2) ∧ w'.cell? ⟨gb189, 3, none⟩ = some (.int .i64 a0_3) ∧ w'.cell? ⟨gb189, 4, none⟩ = some (.int .u64 a0_4) ∧ w'.cell? ⟨gb189, 5, none⟩ = some (.int .u64 a0_5) ∧ w'.cell? ⟨gb189, 6, none⟩ = some (.int .u64 a0_6) ∧ w'.cell? ⟨gb189, 7, none⟩ = some (.int .u64 a0_7) ∧ w'.cell? ⟨gb189, 8, none⟩ = some (.int .i64 a0_8) ∧ w'.cell? ⟨gb189, 9, none⟩ = some (.slice A0_9 l0_9.length c0_9) ∧ w'.cell? ⟨gb189, 10, none⟩ = some (.slice (some ad209) l0_10.length c0_10) ∧ w'.cell? (ad209.add (x6_7).toNat) = some (.string (rdOf ByteArray.empty l0_10 x6_7)) ∧ w'.cell? (ad209.add (x6_7).toNat) = some (.string (rdOf ByteArray.empty l0_10 x6_7))) (ds := []) #[false, false, false, false, false, false, false, false, false, false, false, false, false, false, false, false] (by kernel_rfl) rfl rfl ⟨(blk_cell BK189.out 0).trans rfl, (blk_cell BK189.out 1).trans rfl, (blk_cell BK189.out 2).trans rfl, (blk_cell BK189.out 3).trans rfl, (blk_cell BK189.out 4).trans rfl, (blk_cell BK189.out 5).trans rfl, (blk_cell BK189.out 6).trans rfl, (blk_cell BK189.out 7).trans rfl, (blk_cell BK189.out 8).trans rfl, (blk_cell BK189.out 9).trans rfl, (blk_cell BK189.out 10).trans rfl, (pw_cell_below HB.out hw209_0), (pw_cell_below HB.out hw211_0)⟩ (fun hHeld => ?_); refine with_tabW spec_WireBytes.tab26 spec_WireBytes.bits26 (fun HT_ HW_ => ?_)
                                            generalize wr.drew = w72 at BK189 HB hx209_0 hx211_0 hHeld ⊢
                                            refine pure_ (i := 0) (N := some 89) (v := ?_) (a' := ?_) #[true, false, false, false, false, false, false, false, false, false, false, false, false, false, false, false] rfl rfl (any_of HT_.out (by kernel_rfl)) (fun _ _ _ h => h) (Or.inl ⟨by rfl, ?_⟩) ?_ ?_
                                            rotate_left
                                            · intro w'
                                              go_simp
                                              first | with_reducible rfl | (rw [if_neg (by intro h_; (try simp only [ByteArray.size_append, ByteArray.size_extract, eq_iff_iff, iff_true] at *); omega)]; first | done | rfl)
                                            rotate_left
                                            · simp only [Act.put, List.setIfInBounds_toArray, List.set_cons_zero, List.set_cons_succ, i64_w, i32_w]
                                              rfl
                                            refine pure_ (i := 1) (N := some 90) (v := ?_) (a' := ?_) #[true, true, false, false, false, false, false, false, false, false, false, false, false, false, false, false] rfl rfl (any_of HT_.out (by kernel_rfl)) (fun _ _ _ h => h) (Or.inl ⟨by rfl, ?_⟩) ?_ ?_
                                            rotate_left
                                            · intro w'
                                              go_simp
                                              first | with_reducible rfl | (rw [if_neg (by intro h_; (try simp only [ByteArray.size_append, ByteArray.size_extract, eq_iff_iff, iff_true] at *); omega)]; first | done | rfl)
                                            rotate_left
                                            · simp only [Act.put, List.setIfInBounds_toArray, List.set_cons_zero, List.set_cons_succ, i64_w, i32_w]
                                              rfl
                                            refine pure_ (i := 3) (N := some 92) (v := ?_) (a' := ?_) #[true, true, false, true, false, false, false, false, false, false, false, false, false, false, false, false] rfl rfl (any_of HT_.out (by kernel_rfl)) (fun _ _ _ h => h) (Or.inl ⟨by rfl, ?_⟩) ?_ ?_
                                            rotate_left
                                            · intro w'
                                              go_simp
                                              first | with_reducible rfl | (rw [if_neg (by intro h_; (try simp only [ByteArray.size_append, ByteArray.size_extract, eq_iff_iff, iff_true] at *); omega)]; first | done | rfl)
                                            rotate_left
                                            · simp only [Act.put, List.setIfInBounds_toArray, List.set_cons_zero, List.set_cons_succ, i64_w, i32_w]
                                              rfl
                                            refine pure_ (i := 9) (N := some 98) (v := ?_) (a' := ?_) #[true, true, false, true, false, false, false, false, false, true, false, false, false, false, false, false] rfl rfl (any_of HT_.out (by kernel_rfl)) (fun _ _ _ h => h) (Or.inl ⟨by rfl, ?_⟩) ?_ ?_
                                            rotate_left
                                            · intro w'
                                              go_simp
                                              first | with_reducible rfl | (rw [if_neg (by intro h_; (try simp only [ByteArray.size_append, ByteArray.size_extract, eq_iff_iff, iff_true] at *); omega)]; first | done | rfl)
                                            rotate_left
                                            · simp only [Act.put, List.setIfInBounds_toArray, List.set_cons_zero, List.set_cons_succ, i64_w, i32_w]
                                              rfl
                                            refine pure_ (i := 11) (N := some 100) (v := ?_) (a' := ?_) #[true, true, false, true, false, false, false, false, false, true, false, true, false, false, false, false] rfl rfl (any_of HT_.out (by kernel_rfl)) (fun _ _ _ h => h) (Or.inl ⟨by rfl, ?_⟩) ?_ ?_
                                            rotate_left
                                            · intro w'
                                              go_simp
                                              first | with_reducible rfl | (rw [if_neg (by intro h_; (try simp only [ByteArray.size_append, ByteArray.size_extract, eq_iff_iff, iff_true] at *); omega)]; first | done | rfl)
                                            rotate_left
                                            · simp only [Act.put, List.setIfInBounds_toArray, List.set_cons_zero, List.set_cons_succ, i64_w, i32_w]
                                              rfl
                                            refine takeP_ 2 (some 91) #[true, true, true, true, false, false, false, false, false, true, false, true, false, false, false, false] HT_ HW_ hHeld ?_
                                            refine pure_ (i := 4) (N := some 93) (v := ?_) (a' := ?_) #[true, true, true, true, true, false, false, false, false, true, false, true, false, false, false, false] rfl rfl (any_of HT_.out (by kernel_rfl)) (fun _ _ _ h => h) (Or.inl ⟨by rfl, ?_⟩) ?_ ?_
                                            rotate_left
                                            · intro w'
                                              go_simp
                                              first | with_reducible rfl | (rw [if_neg (by intro h_; (try simp only [ByteArray.size_append, ByteArray.size_extract, eq_iff_iff, iff_true] at *); omega)]; first | done | rfl)
                                            rotate_left
                                            · simp only [Act.put, List.setIfInBounds_toArray, List.set_cons_zero, List.set_cons_succ, i64_w, i32_w]
                                              rfl
                                            refine takeP_ 5 (some 94) #[true, true, true, true, true, true, false, false, false, true, false, true, false, false, false, false] HT_ HW_ hHeld ?_
                                            refine pure_ (i := 6) (N := some 95) (v := ?_) (a' := ?_) #[true, true, true, true, true, true, true, false, false, true, false, true, false, false, false, false] rfl rfl (any_of HT_.out (by kernel_rfl)) (fun _ _ _ h => h) (Or.inl ⟨by rfl, ?_⟩) ?_ ?_
                                            rotate_left
                                            · intro w'
                                              go_simp
                                              first | with_reducible rfl | (rw [if_neg (by intro h_; (try simp only [ByteArray.size_append, ByteArray.size_extract, eq_iff_iff, iff_true] at *); omega)]; first | done | rfl)
                                            rotate_left
                                            · simp only [Act.put, List.setIfInBounds_toArray, List.set_cons_zero, List.set_cons_succ, i64_w, i32_w]
                                              rfl
                                            refine takeP_ 10 (some 99) #[true, true, true, true, true, true, true, false, false, true, true, true, false, false, false, false] HT_ HW_ hHeld ?_
                                            refine pure_ (i := 12) (N := some 101) (v := ?_) (a' := ?_) #[true, true, true, true, true, true, true, false, false, true, true, true, true, false, false, false] rfl rfl (any_of HT_.out (by kernel_rfl)) (fun _ _ _ h => h) (Or.inl ⟨by rfl, ?_⟩) ?_ ?_
                                            rotate_left
                                            · intro w'
                                              go_simp
                                              first | with_reducible rfl | (rw [if_neg (by intro h_; (try simp only [ByteArray.size_append, ByteArray.size_extract, eq_iff_iff, iff_true] at *); omega)]; first | done | rfl)
                                            rotate_left
                                            · simp only [Act.put, List.setIfInBounds_toArray, List.set_cons_zero, List.set_cons_succ, i64_w, i32_w]
                                              rfl
                                            refine takeP_ 13 (some 102) #[true, true, true, true, true, true, true, false, false, true, true, true, true, true, false, false] HT_ HW_ hHeld ?_
                                            refine oneP_ 7 (some 96) #[true, true, true, true, true, true, true, true, false, true, true, true, true, true, false, false] HT_ (fun K hK => ?_)
                                            refine goN_ Try.func34 #[.int .i64 ((rdOf ByteArray.empty l0_10 x6_7).size : Int), .int .i64 1] ?_
                                            with_reducible refine (spec_l5Num.calls k7 ((rdOf ByteArray.empty l0_10 x6_7).size : Int) 1 t210 _ A68.out).mono ?_
                                            rintro e w73 ⟨rfl, hb⟩
                                            refine ⟨_, rfl, ?_⟩
                                            replace BK189 := blkBel_ BK189.out hb
                                            replace HB := stepB_ hb
                                            (try clear hb)
                                            refine hK.out _ _ ⟨(blk_cell BK189.out 0).trans rfl, (blk_cell BK189.out 1).trans rfl, (blk_cell BK189.out 2).trans rfl, (blk_cell BK189.out 3).trans rfl, (blk_cell BK189.out 4).trans rfl, (blk_cell BK189.out 5).trans rfl, (blk_cell BK189.out 6).trans rfl, (blk_cell BK189.out 7).trans rfl, (blk_cell BK189.out 8).trans rfl, (blk_cell BK189.out 9).trans rfl, (blk_cell BK189.out 10).trans rfl, (pw_cell_below HB.out hw209_0), (pw_cell_below HB.out hw211_0)⟩ (fun hHeld => ?_)
                                            clear hK K
                                            refine norm_ (a' := ?_) ?_ ?_
                                            rotate_left
                                            · show Act.put _ (some 96) _ = _
                                              simp only [Act.put, List.setIfInBounds_toArray, List.set_cons_zero, List.set_cons_succ, i64_w, i32_w]
                                              rfl
                                            refine pure_ (i := 8) (N := some 97) (v := ?_) (a' := ?_) #[true, true, true, true, true, true, true, true, true, true, true, true, true, true, false, false] rfl rfl (any_of HT_.out (by kernel_rfl)) (fun _ _ _ h => h) (Or.inl ⟨by rfl, ?_⟩) ?_ ?_
                                            rotate_left
                                            · intro w'
                                              go_simp
                                              first | with_reducible rfl | (rw [if_neg (by intro h_; (try simp only [ByteArray.size_append, ByteArray.size_extract, eq_iff_iff, iff_true] at *); omega)]; first | done | rfl)
                                            rotate_left
                                            · simp only [Act.put, List.setIfInBounds_toArray, List.set_cons_zero, List.set_cons_succ, i64_w, i32_w]
                                              rfl
                                            refine pure_ (i := 14) (N := some 103) (v := ?_) (a' := ?_) #[true, true, true, true, true, true, true, true, true, true, true, true, true, true, true, false] rfl rfl (any_of HT_.out (by kernel_rfl)) (fun _ _ _ h => h) (Or.inl ⟨by rfl, ?_⟩) ?_ ?_
                                            rotate_left
                                            · intro w'
                                              go_simp
                                              first | with_reducible rfl | (rw [if_neg (by intro h_; (try simp only [ByteArray.size_append, ByteArray.size_extract, eq_iff_iff, iff_true] at *); omega)]; first | done | rfl)
                                            rotate_left
                                            · simp only [Act.put, List.setIfInBounds_toArray, List.set_cons_zero, List.set_cons_succ, i64_w, i32_w]
                                              rfl
                                            refine pure_ (i := 15) (N := some 4) (v := ?_) (a' := ?_) #[true, true, true, true, true, true, true, true, true, true, true, true, true, true, true, true] rfl rfl (any_of HT_.out (by kernel_rfl)) (fun _ _ _ h => h) (Or.inl ⟨by rfl, ?_⟩) ?_ ?_
                                            rotate_left
                                            · intro w'
                                              go_simp
                                              first | with_reducible rfl | (rw [if_neg (by intro h_; (try simp only [ByteArray.size_append, ByteArray.size_extract, eq_iff_iff, iff_true] at *); omega)]; first | done | rfl)
                                            rotate_left
                                            · simp only [Act.put, List.setIfInBounds_toArray, List.set_cons_zero, List.set_cons_succ, i64_w, i32_w]
                                              rfl
                                            refine done_ (done_of HT_.out (by kernel_rfl)) ?_
                                            try go_wp2
                                            go_roundg k7
                                            case measure => have := HJ6.out; have := HJ18.out; have := HJ25.out; have := HJ32.out; have := HJ39.out; have := HJ46.out; have := HK7.out; omega
                                            case rel => exact ⟨((x4_7 ++ t210) ++ (rdOf ByteArray.empty l0_10 x6_7)), (wrap64 (x6_7 + 1)), (by first | rfl | (simp; done) | (simp [*]; done)), (by first | rfl | (simp; done) | (simp [*]; done)), H', ⟨by have := HJ6.out; have := HJ18.out; have := HJ25.out; have := HJ32.out; have := HJ39.out; have := HJ46.out; have := HK7.out; omega⟩, ⟨blkU_ BK189.out⟩, ⟨bel_⟩⟩
                                          · rw [if_neg c70] at H
                                            exact absurd H (by simp)
                                        · rw [if_neg c69] at H
                                          exact absurd H (by simp)
                                      · rw [if_neg c67] at H
                                        exact absurd H (by simp)
                                    · rw [if_neg c66] at H
                                      have c66b0 : decide (x6_7 < (l0_10.length : Int)) = false := decide_eq_false c66
                                      clear c66
                                      obtain rfl := Option.some.inj H
                                      have hcz74_0 : wr.cell? ⟨gb189, 0, none⟩ = some (.int .i64 a0_0) := (blk_cell BK189.out 0).trans rfl
                                      have hcz74_1 : wr.cell? ⟨gb189, 1, none⟩ = some (.int .i64 a0_1) := (blk_cell BK189.out 1).trans rfl
                                      have hcz74_2 : wr.cell? ⟨gb189, 2, none⟩ = some (.int .i64 a0_2) := (blk_cell BK189.out 2).trans rfl
                                      have hcz74_3 : wr.cell? ⟨gb189, 3, none⟩ = some (.int .i64 a0_3) := (blk_cell BK189.out 3).trans rfl
                                      have hcz74_4 : wr.cell? ⟨gb189, 4, none⟩ = some (.int .u64 a0_4) := (blk_cell BK189.out 4).trans rfl
                                      have hcz74_5 : wr.cell? ⟨gb189, 5, none⟩ = some (.int .u64 a0_5) := (blk_cell BK189.out 5).trans rfl
                                      have hcz74_6 : wr.cell? ⟨gb189, 6, none⟩ = some (.int .u64 a0_6) := (blk_cell BK189.out 6).trans rfl
                                      have hcz74_7 : wr.cell? ⟨gb189, 7, none⟩ = some (.int .u64 a0_7) := (blk_cell BK189.out 7).trans rfl
                                      have hcz74_8 : wr.cell? ⟨gb189, 8, none⟩ = some (.int .i64 a0_8) := (blk_cell BK189.out 8).trans rfl
                                      have hcz74_9 : wr.cell? ⟨gb189, 9, none⟩ = some (.slice A0_9 l0_9.length c0_9) := (blk_cell BK189.out 9).trans rfl
                                      have hcz74_10 : wr.cell? ⟨gb189, 10, none⟩ = some (.slice A0_10 l0_10.length c0_10) := (blk_cell BK189.out 10).trans rfl
                                      have hfz74_0 := blk_frozen BK189.out 0
                                      have hfz74_1 := blk_frozen BK189.out 1
                                      have hfz74_2 := blk_frozen BK189.out 2
                                      have hfz74_3 := blk_frozen BK189.out 3
                                      have hfz74_4 := blk_frozen BK189.out 4
                                      have hfz74_5 := blk_frozen BK189.out 5
                                      have hfz74_6 := blk_frozen BK189.out 6
                                      have hfz74_7 := blk_frozen BK189.out 7
                                      have hfz74_8 := blk_frozen BK189.out 8
                                      have hfz74_9 := blk_frozen BK189.out 9
                                      have hfz74_10 := blk_frozen BK189.out 10
                                      go_wp2
                                      go_ret
                                      exact ⟨rfl_, bel_⟩
                              · rw [if_neg c63] at H
                                exact absurd H (by simp)
                            · replace c61 := Bool.eq_false_iff.mpr c61
                              subst c61
                              rw [if_neg (show ¬ (false = true) by decide)] at H
                              obtain rfl := Option.some.inj H
                              go_wp2_with (first | ((with_reducible refine gate_callee (f := 23) rfl ?_); refine goL_ (some 75) Try.func23 #[.string t191, .int .u8 108] ?_; (with_reducible refine (spec_l5In.calls kj46 t191 108 false _ A60.out).mono ?_); rintro e w' ⟨rfl, ⟨nd, rfl⟩⟩; refine ⟨_, rfl, ?_⟩))
                              go_ret
                              exact ⟨rfl_, bel_⟩
  · replace c3 := Bool.eq_false_iff.mpr c3
    subst c3
    rw [if_neg (show ¬ (false = true) by decide)] at H
    obtain rfl := Option.some.inj H
    go_enter Try.func14, Try.ntmps14
    go_wp2_with (first | ((with_reducible refine gate_dst (N := 1) rfl ?_); refine boxE_ (cs := #[.int .i64 a0_0, .int .i64 a0_1, .int .i64 a0_2, .int .i64 a0_3, .int .u64 a0_4, .int .u64 a0_5, .int .u64 a0_6, .int .u64 a0_7, .int .i64 a0_8, .slice A0_9 l0_9.length c0_9, .slice A0_10 l0_10.length c0_10]) (t := 37) ?_; intro gb189 hg w75 hbox hb; have BK189 := Aside0.mk (hbox); have GW189 := sizeB_ hg; have GE189 := sizeB_ hg; replace HB := stepB_ hb; clear hb hbox hg; have hcz76_0 : w75.cell? ⟨gb189, 0, none⟩ = some (.int .i64 a0_0) := (blk_cell BK189.out 0).trans rfl; have hcz76_1 : w75.cell? ⟨gb189, 1, none⟩ = some (.int .i64 a0_1) := (blk_cell BK189.out 1).trans rfl; have hcz76_2 : w75.cell? ⟨gb189, 2, none⟩ = some (.int .i64 a0_2) := (blk_cell BK189.out 2).trans rfl; have hcz76_3 : w75.cell? ⟨gb189, 3, none⟩ = some (.int .i64 a0_3) := (blk_cell BK189.out 3).trans rfl; have hcz76_4 : w75.cell? ⟨gb189, 4, none⟩ = some (.int .u64 a0_4) := (blk_cell BK189.out 4).trans rfl; have hcz76_5 : w75.cell? ⟨gb189, 5, none⟩ = some (.int .u64 a0_5) := (blk_cell BK189.out 5).trans rfl; have hcz76_6 : w75.cell? ⟨gb189, 6, none⟩ = some (.int .u64 a0_6) := (blk_cell BK189.out 6).trans rfl; have hcz76_7 : w75.cell? ⟨gb189, 7, none⟩ = some (.int .u64 a0_7) := (blk_cell BK189.out 7).trans rfl; have hcz76_8 : w75.cell? ⟨gb189, 8, none⟩ = some (.int .i64 a0_8) := (blk_cell BK189.out 8).trans rfl; have hcz76_9 : w75.cell? ⟨gb189, 9, none⟩ = some (.slice A0_9 l0_9.length c0_9) := (blk_cell BK189.out 9).trans rfl; have hcz76_10 : w75.cell? ⟨gb189, 10, none⟩ = some (.slice A0_10 l0_10.length c0_10) := (blk_cell BK189.out 10).trans rfl; have hfz76_0 := blk_frozen BK189.out 0; have hfz76_1 := blk_frozen BK189.out 1; have hfz76_2 := blk_frozen BK189.out 2; have hfz76_3 := blk_frozen BK189.out 3; have hfz76_4 := blk_frozen BK189.out 4; have hfz76_5 := blk_frozen BK189.out 5; have hfz76_6 := blk_frozen BK189.out 6; have hfz76_7 := blk_frozen BK189.out 7; have hfz76_8 := blk_frozen BK189.out 8; have hfz76_9 := blk_frozen BK189.out 9; have hfz76_10 := blk_frozen BK189.out 10) | ((with_reducible refine gate_callee (f := 10) rfl ?_); refine goL_ (some 8) Try.func10 #[.agg #[.int .i64 a0_0, .int .i64 a0_1, .int .i64 a0_2, .int .i64 a0_3, .int .u64 a0_4, .int .u64 a0_5, .int .u64 a0_6, .int .u64 a0_7, .int .i64 a0_8, .slice A0_9 l0_9.length c0_9, .slice A0_10 l0_10.length c0_10]] ?_; (with_reducible refine (spec_WireOk.calls k a0_0 a0_1 a0_2 a0_3 a0_4 a0_5 a0_6 a0_7 a0_8 _ _ l0_9 _ _ l0_10 false _ ?side1 ?side2 ?side3 ?side4 A2.out).mono ?_); (case side1 => repeat (first | exact (Kd.C_below HR0_9.out HB.out) | (with_reducible refine Kd.C_alloc ?_ _) | (with_reducible refine Kd.C_drewN ?_ _) | (with_reducible refine Kd.C_drew ?_))); (case side2 => exact HC0_9.out); (case side3 => repeat (first | exact (Kd.C_below HR0_10.out HB.out) | (with_reducible refine Kd.C_alloc ?_ _) | (with_reducible refine Kd.C_drewN ?_ _) | (with_reducible refine Kd.C_drew ?_))); (case side4 => exact HC0_10.out); rintro e w77 ⟨rfl, hb⟩; refine ⟨_, rfl, ?_⟩; replace BK189 := blkBel_ BK189.out hb; replace HB := stepB_ hb; (try clear hb)))
    go_ret
    exact ⟨rfl_, bel_⟩
end
end Go.Proofs.Ytflcbanemolkfaa.B
