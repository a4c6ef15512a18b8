/- What the Go functions loop.example/belfry/impl.WireOk do is what the Lean functions .f of their names here say; condition: .f gives an answer. (Written by the session's program pp.py over the kit's print; Lean checks it.) -/
import Derived.Test.YtflcbanemolkfaaZWBK
import Derived.Test.YtflcbanemolkfaaZWBM
import Derived.Test.YtflcbanemolkfaaZWBFImplHas
import Derived.Test.YtflcbanemolkfaaZWBFImplPartOk
import Derived.Test.YtflcbanemolkfaaZWBGEq1
import Derived.Test.YtflcbanemolkfaaZWBGSplit1
namespace Go.Proofs.Ytflcbanemolkfaa.B
open Go.RowKit Go.Proofs.YtflcbanemolkfaaW.PrintWords Go.Proofs.YtflcbanemolkfaaW.PrintLast Go.Proofs.YtflcbanemolkfaaW.PrintMore
attribute [local go_sem] max2_int min2_int max_two min_two max_three min_three max_four min_four
set_option linter.unusedVariables false
set_option linter.unusedSimpArgs false
section
attribute [local go_sem high] eqA26
def impl_WireOk.l0 : Nat → Int → List ByteArray → Int → Int → Int → Int → Int → Int → Int → Int → Int → Int → Int → List (S26) → List ByteArray → Option (Bool)
  | 0, _, _, _, _, _, _, _, _, _, _, _, _, _, _, _ => none
  | k + 1, x3, x9, x10, x11, x229000, x229001, x229002, x229003, x229004, x229005, x229006, x229007, x229008, x229009, x229010 => if x11 < x10 then (if 0 ≤ x11 then (if x11 < (x9.length : Int) then (if ((rdOf ByteArray.empty x9 x11).size : Int) > 40 then (some false) else (impl_WireOk.l0 k x3 x9 x10 (wrap64 (x11 + 1)) x229000 x229001 x229002 x229003 x229004 x229005 x229006 x229007 x229008 x229009 x229010)) else (none)) else (none)) else ((impl_in.f x3 1 8).bind fun t230 => (if t230 = true then ((impl_has.f k x3 115).bind fun t231 => ((impl_partOk.f t231 x229001 1 1000000).bind fun t232 => (if t232 = true then ((impl_has.f k x3 102).bind fun t233 => ((impl_partOk.f t233 x229002 0 256).bind fun t234 => (if t234 = true then ((impl_has.f k x3 122).bind fun t235 => ((impl_partOk.f t235 x229003 0 256).bind fun t236 => (if t236 = true then ((impl_has.f k x3 114).bind fun t237 => (if t237 = true then ((impl_has.f k x3 99).bind fun t238 => ((impl_partOk.f t238 x229008 1 8).bind fun t239 => (if t239 = true then ((impl_has.f k x3 112).bind fun t240 => ((impl_partOk.f t240 (x229009.length : Int) 0 16).bind fun t241 => (if t241 = true then ((impl_has.f k x3 108).bind fun t242 => ((impl_partOk.f t242 (x229010.length : Int) 0 8).bind fun t243 => (some t243))) else (some false)))) else (some false)))) else (if (x229004 == 0 && (x229005 == 0 && (x229006 == 0 && (x229007 == 0)))) = true then ((impl_has.f k x3 99).bind fun t244 => ((impl_partOk.f t244 x229008 1 8).bind fun t245 => (if t245 = true then ((impl_has.f k x3 112).bind fun t246 => ((impl_partOk.f t246 (x229009.length : Int) 0 16).bind fun t247 => (if t247 = true then ((impl_has.f k x3 108).bind fun t248 => ((impl_partOk.f t248 (x229010.length : Int) 0 8).bind fun t249 => (some t249))) else (some false)))) else (some false)))) else (some false)))) else (some false)))) else (some false)))) else (some false)))) else (some false)))
def impl_WireOk.f (k : Nat) (a0_0 : Int) (a0_1 : Int) (a0_2 : Int) (a0_3 : Int) (a0_4 : Int) (a0_5 : Int) (a0_6 : Int) (a0_7 : Int) (a0_8 : Int) (l0_9 : List (S26)) (l0_10 : List ByteArray) : Option (Bool) := impl_WireOk.l0 k a0_0 l0_10 (l0_10.length : Int) 0 a0_0 a0_1 a0_2 a0_3 a0_4 a0_5 a0_6 a0_7 a0_8 l0_9 l0_10
def impl_WireOk.T8 : Bool × List (List Nat × List Nat) := (true, [([], []), ([0], [0]), ([1, 1], [1]), ([2], [2]), ([3, 2, 2], [2, 3]), ([2], [2]), ([5, 2], [2, 5]), ([4, 6, 4, 2], [2, 4, 6]), ([2, 7], [2, 7]), ([8, 7], [8]), ([9], [9]), ([10, 9, 9], [9, 10]), ([9], [9]), ([12, 9], [9, 12]), ([11, 13, 11, 9], [9, 11, 13]), ([9, 14], [9, 14]), ([15, 14], [15]), ([16], [16]), ([17, 16, 16], [16, 17]), ([16], [16]), ([19, 16], [16, 19]), ([18, 20, 18, 16], [16, 18, 20]), ([16, 21], [16, 21]), ([22, 21], [22]), ([23], [23]), ([24, 23, 23], [23, 24]), ([25, 25, 23], [23, 25]), ([26], [26]), ([27, 26], [26, 27]), ([26], [26]), ([28, 29, 26], [26, 28, 29]), ([26, 30, 23], [23, 26, 30]), ([23, 31], [23, 31]), ([32, 26], [32]), ([33], [33]), ([34, 33, 33], [33, 34]), ([33], [33]), ([36, 33], [33, 36]), ([35, 37, 35, 33], [33, 35, 37]), ([33, 38], [33, 38]), ([39, 38], [39]), ([40], [40]), ([41, 40, 40], [40, 41]), ([40], [40]), ([43, 40], [40, 43]), ([44, 40], [40, 44]), ([42, 45, 42, 40], [40, 42, 45]), ([40, 46], [40, 46]), ([47, 46], [47]), ([48], [48]), ([49, 48, 48], [48, 49]), ([48], [48]), ([51, 48], [48, 51]), ([52, 48], [48, 52]), ([50, 53, 50, 48], [48, 50, 53]), ([48, 54], [48, 54]), ([55, 54, 0, 1, 2, 3, 4, 5, 6, 7, 8, 9, 10, 11, 12, 13, 14, 15, 16, 17, 18, 19, 20, 21, 22, 23, 24, 25, 26, 27, 28, 29, 30, 31, 32, 33, 34, 35, 36, 37, 38, 39, 40, 41, 42, 43, 44, 45, 46, 47, 48, 49, 50, 51, 52, 53, 54, 55], [55])])
def impl_WireOk.B8 : List Nat := [0, 1, 3, 7, 15, 7, 39, 127, 255, 511, 1023, 2047, 1023, 5119, 16383, 32767, 65535, 131071, 262143, 131071, 655359, 2097151, 4194303, 8388607, 16777215, 33554431, 67108863, 134217727, 268435455, 134217727, 1073741823, 2147483647, 4294967295, 8589934591, 17179869183, 34359738367, 17179869183, 85899345919, 274877906943, 549755813887, 1099511627775, 2199023255551, 4398046511103, 2199023255551, 10995116277759, 28587302322175, 70368744177663, 140737488355327, 281474976710655, 562949953421311, 1125899906842623, 562949953421311, 2814749767106559, 7318349394477055, 18014398509481983, 36028797018963967, 72057594037927935]
theorem impl_WireOk.tab8 : rtab .any (opsOf Try.f12 8) = impl_WireOk.T8 := by kernel_rfl
theorem impl_WireOk.bits8 : waitsOk impl_WireOk.T8.2 impl_WireOk.B8 = true := by kernel_rfl
set_option maxHeartbeats 8000000 in
set_option maxRecDepth 100000 in
theorem impl_WireOk.calls (k : Nat) (a0_0 : Int) (a0_1 : Int) (a0_2 : Int) (a0_3 : Int) (a0_4 : Int) (a0_5 : Int) (a0_6 : Int) (a0_7 : Int) (a0_8 : Int) (A0_9 : Option Addr) (c0_9 : Nat) (l0_9 : List (S26)) (A0_10 : Option Addr) (c0_10 : Nat) (l0_10 : List ByteArray) (r : Bool) (w : World) (hr0_9 : Kd.C k26 w A0_9 l0_9.length l0_9) (hc0_9 : l0_9.length ≤ c0_9) (hr0_10 : Kd.C Kd.string w A0_10 l0_10.length l0_10) (hc0_10 : l0_10.length ≤ c0_10) (h : impl_WireOk.f k a0_0 a0_1 a0_2 a0_3 a0_4 a0_5 a0_6 a0_7 a0_8 l0_9 l0_10 = some r) :
    Calls Try.prog 12 #[.agg #[.int .i64 a0_0, .int .i64 a0_1, .int .i64 a0_2, .int .i64 a0_3, .int .u64 a0_4, .int .u64 a0_5, .int .u64 a0_6, .int .u64 a0_7, .int .i64 a0_8, .slice A0_9 l0_9.length c0_9, .slice A0_10 l0_10.length c0_10]] w fun e w' => e = .returned (.bool r) ∧ Below w.heap.size w w' := by
  have hu37 := Try.underlying37
  have hu26 := Try.underlying26
  have HR0_9 := Aside0.mk hr0_9
  have HC0_9 := Aside0.mk hc0_9
  clear hr0_9 hc0_9
  have HR0_10 := Aside0.mk hr0_10
  have HC0_10 := Aside0.mk hc0_10
  clear hr0_10 hc0_10
  have HB := Aside0.mk (Below.refl w.heap.size w)
  have H : (impl_WireOk.l0 k a0_0 l0_10 (l0_10.length : Int) 0 a0_0 a0_1 a0_2 a0_3 a0_4 a0_5 a0_6 a0_7 a0_8 l0_9 l0_10) = some r := h
  clear h
  have H' := Aside0.mk H
  clear H
  go_enter Try.func12, Try.ntmps12
  go_wp2_with (first | ((with_reducible refine gate_dst (N := 1) rfl ?_); (try (refine gate_guard (by rfl) ?_; dsimp only)); refine boxE_ (cs := #[.int .i64 a0_0, .int .i64 a0_1, .int .i64 a0_2, .int .i64 a0_3, .int .u64 a0_4, .int .u64 a0_5, .int .u64 a0_6, .int .u64 a0_7, .int .i64 a0_8, .slice A0_9 l0_9.length c0_9, .slice A0_10 l0_10.length c0_10]) (t := 37) ?_; intro gb228 hg w2 hbox hb; have BK228 := Aside0.mk (hbox); have GW228 := sizeB_ hg; have GE228 := sizeB_ hg; replace HB := stepB_ hb; clear hb hbox hg; have hcz3_0 : w2.cell? ⟨gb228, 0, none⟩ = some (.int .i64 a0_0) := (blk_cell BK228.out 0).trans rfl; have hcz3_1 : w2.cell? ⟨gb228, 1, none⟩ = some (.int .i64 a0_1) := (blk_cell BK228.out 1).trans rfl; have hcz3_2 : w2.cell? ⟨gb228, 2, none⟩ = some (.int .i64 a0_2) := (blk_cell BK228.out 2).trans rfl; have hcz3_3 : w2.cell? ⟨gb228, 3, none⟩ = some (.int .i64 a0_3) := (blk_cell BK228.out 3).trans rfl; have hcz3_4 : w2.cell? ⟨gb228, 4, none⟩ = some (.int .u64 a0_4) := (blk_cell BK228.out 4).trans rfl; have hcz3_5 : w2.cell? ⟨gb228, 5, none⟩ = some (.int .u64 a0_5) := (blk_cell BK228.out 5).trans rfl; have hcz3_6 : w2.cell? ⟨gb228, 6, none⟩ = some (.int .u64 a0_6) := (blk_cell BK228.out 6).trans rfl; have hcz3_7 : w2.cell? ⟨gb228, 7, none⟩ = some (.int .u64 a0_7) := (blk_cell BK228.out 7).trans rfl; have hcz3_8 : w2.cell? ⟨gb228, 8, none⟩ = some (.int .i64 a0_8) := (blk_cell BK228.out 8).trans rfl; have hcz3_9 : w2.cell? ⟨gb228, 9, none⟩ = some (.slice A0_9 l0_9.length c0_9) := (blk_cell BK228.out 9).trans rfl; have hcz3_10 : w2.cell? ⟨gb228, 10, none⟩ = some (.slice A0_10 l0_10.length c0_10) := (blk_cell BK228.out 10).trans rfl; have hfz3_0 := blk_frozen BK228.out 0; have hfz3_1 := blk_frozen BK228.out 1; have hfz3_2 := blk_frozen BK228.out 2; have hfz3_3 := blk_frozen BK228.out 3; have hfz3_4 := blk_frozen BK228.out 4; have hfz3_5 := blk_frozen BK228.out 5; have hfz3_6 := blk_frozen BK228.out 6; have hfz3_7 := blk_frozen BK228.out 7; have hfz3_8 := blk_frozen BK228.out 8; have hfz3_9 := blk_frozen BK228.out 9; have hfz3_10 := blk_frozen BK228.out 10))
  go_loopg [11] k (fun kq v11 w' => ∃ (x11_1 : Int), v11 = .int .i64 x11_1 ∧ Aside0 (impl_WireOk.l0 kq a0_0 l0_10 (l0_10.length : Int) x11_1 a0_0 a0_1 a0_2 a0_3 a0_4 a0_5 a0_6 a0_7 a0_8 l0_9 l0_10 = some r) ∧ Aside0 (kq ≤ k) ∧ Aside0 (w'.heap[gb228]? = some (.cells #[.int .i64 a0_0, .int .i64 a0_1, .int .i64 a0_2, .int .i64 a0_3, .int .u64 a0_4, .int .u64 a0_5, .int .u64 a0_6, .int .u64 a0_7, .int .i64 a0_8, (.slice A0_9 l0_9.length c0_9), (.slice A0_10 l0_10.length c0_10)] 37 (0, 0))) ∧ Aside0 (Below w.heap.size w w'))
  case atStart => exact ⟨(0), (by first | rfl | (simp; done) | (simp [*]; done)), H', ⟨Nat.le_refl _⟩, ⟨blkU_ BK228.out⟩, ⟨bel_⟩⟩
  case round =>
    clear H'
    (try clear hcz3_0); (try clear hcz3_1); (try clear hcz3_10); (try clear hcz3_2); (try clear hcz3_3); (try clear hcz3_4); (try clear hcz3_5); (try clear hcz3_6); (try clear hcz3_7); (try clear hcz3_8); (try clear hcz3_9); (try clear hfz3_0); (try clear hfz3_1); (try clear hfz3_10); (try clear hfz3_2); (try clear hfz3_3); (try clear hfz3_4); (try clear hfz3_5); (try clear hfz3_6); (try clear hfz3_7); (try clear hfz3_8); (try clear hfz3_9)
    obtain ⟨x11_1, rfl, HA, HK1, BK228, HB⟩ := hrel
    cases gk with
    | zero => exact absurd HA.out (by simp [impl_WireOk.l0])
    | succ k1 =>
      have H := HA.out
      clear HA
      simp only [impl_WireOk.l0] at H
      by_cases c4 : x11_1 < (l0_10.length : Int)
      · rw [if_pos c4] at H
        have c4b0 : decide (x11_1 < (l0_10.length : Int)) = true := decide_eq_true c4
        clear c4
        by_cases c5 : 0 ≤ x11_1
        · rw [if_pos c5] at H
          have c5b0 : decide (0 ≤ x11_1) = true := decide_eq_true c5
          clear c5
          by_cases c6 : x11_1 < (l0_10.length : Int)
          · rw [if_pos c6] at H
            have c6b0 : decide (x11_1 < (l0_10.length : Int)) = true := decide_eq_true c6
            clear c6
            by_cases c7 : ((rdOf ByteArray.empty l0_10 x11_1).size : Int) > 40
            · rw [if_pos c7] at H
              have c7b0 : decide (40 < ((rdOf ByteArray.empty l0_10 x11_1).size : Int)) = true := decide_eq_true c7
              have c7b1 : decide (40 < (rdOf ByteArray.empty l0_10 x11_1).size) = true := decide_eq_true (by omega)
              clear c7
              obtain rfl := Option.some.inj H
              have p229 : 0 ≤ (x11_1 : Int) := ofd_
              have q229 : x11_1 < (l0_10.length : Int) := ofd_
              obtain ⟨ad229, e229, hx229_0⟩ := Kd.at_string HR0_10.out x11_1 p229 q229
              cases e229
              replace hx229_0 := pw_cell_below HB.out hx229_0
              replace p229 := eq_true p229
              replace q229 := eq_true q229
              go_wp2
              go_ret
              exact ⟨rfl_, bel_⟩
            · rw [if_neg c7] at H
              have c7b0 : decide (40 < ((rdOf ByteArray.empty l0_10 x11_1).size : Int)) = false := decide_eq_false c7
              have c7b1 : decide (40 < (rdOf ByteArray.empty l0_10 x11_1).size) = false := decide_eq_false (by omega)
              clear c7
              have H' := Aside0.mk H
              clear H
              have p229 : 0 ≤ (x11_1 : Int) := ofd_
              have q229 : x11_1 < (l0_10.length : Int) := ofd_
              obtain ⟨ad229, e229, hx229_0⟩ := Kd.at_string HR0_10.out x11_1 p229 q229
              cases e229
              replace hx229_0 := pw_cell_below HB.out hx229_0
              replace p229 := eq_true p229
              replace q229 := eq_true q229
              go_wp2
              go_roundg k1
              case measure => have := HK1.out; omega
              case rel => exact ⟨(wrap64 (x11_1 + 1)), (by first | rfl | (simp; done) | (simp [*]; done)), H', ⟨by have := HK1.out; omega⟩, ⟨blkU_ BK228.out⟩, ⟨bel_⟩⟩
          · rw [if_neg c6] at H
            exact absurd H (by simp)
        · rw [if_neg c5] at H
          exact absurd H (by simp)
      · rw [if_neg c4] at H
        have c4b0 : decide (x11_1 < (l0_10.length : Int)) = false := decide_eq_false c4
        clear c4
        obtain ⟨t230, A8, H⟩ := bnd_ H
        by_cases c9 : t230 = true
        · subst c9
          rw [if_pos rfl] at H
          obtain ⟨t231, A10, H⟩ := bnd_ H
          obtain ⟨t232, A11, H⟩ := bnd_ H
          by_cases c12 : t232 = true
          · subst c12
            rw [if_pos rfl] at H
            obtain ⟨t233, A13, H⟩ := bnd_ H
            obtain ⟨t234, A14, H⟩ := bnd_ H
            by_cases c15 : t234 = true
            · subst c15
              rw [if_pos rfl] at H
              obtain ⟨t235, A16, H⟩ := bnd_ H
              obtain ⟨t236, A17, H⟩ := bnd_ H
              by_cases c18 : t236 = true
              · subst c18
                rw [if_pos rfl] at H
                obtain ⟨t237, A19, H⟩ := bnd_ H
                by_cases c20 : t237 = true
                · subst c20
                  rw [if_pos rfl] at H
                  obtain ⟨t238, A21, H⟩ := bnd_ H
                  obtain ⟨t239, A22, H⟩ := bnd_ H
                  by_cases c23 : t239 = true
                  · subst c23
                    rw [if_pos rfl] at H
                    obtain ⟨t240, A24, H⟩ := bnd_ H
                    obtain ⟨t241, A25, H⟩ := bnd_ H
                    by_cases c26 : t241 = true
                    · subst c26
                      rw [if_pos rfl] at H
                      obtain ⟨t242, A27, H⟩ := bnd_ H
                      obtain ⟨t243, A28, H⟩ := bnd_ H
                      obtain rfl := Option.some.inj H
                      try go_wp2
                      replace BK228 := Aside0.mk (blk_drew BK228.out)
                      replace HB := Aside0.mk (below_drew1 HB.out)
                      refine start_ (n := 57) (S := fun w' => w'.cell? ⟨gb228, 0, none⟩ = some (.int .i64 a0_0) ∧ w'.cell? ⟨gb228, 1, none⟩ = some (.int .i64 a0_1) ∧ w'.cell? ⟨gb228, 2, none⟩ = some (.int .i64 a0_2) ∧ w'.cell? ⟨gb228, 3, none⟩ = some (.int .i64 a0_3) ∧ w'.cell? ⟨gb228, 4, none⟩ = some (.int .u64 a0_4) ∧ w'.cell? ⟨gb228, 5, none⟩ = some (.int .u64 a0_5) ∧ w'.cell? ⟨gb228, 6, none⟩ = some (.int .u64 a0_6) ∧ w'.cell? ⟨gb228, 7, none⟩ = some (.int .u64 a0_7) ∧ w'.cell? ⟨gb228, 8, none⟩ = some (.int .i64 a0_8) ∧ w'.cell? ⟨gb228, 9, none⟩ = some (.slice A0_9 l0_9.length c0_9) ∧ w'.cell? ⟨gb228, 10, none⟩ = some (.slice A0_10 l0_10.length c0_10)) (ds := []) #[false, false, false, false, false, false, false, false, false, false, false, false, false, false, false, false, false, false, false, false, false, false, false, false, false, false, false, false, false, false, false, false, false, false, false, false, false, false, false, false, false, false, false, false, false, false, false, false, false, false, false, false, false, false, false, false, false] (by kernel_rfl) rfl rfl (hc11_ BK228.out) (fun hHeld => ?_); refine with_tabW impl_WireOk.tab8 impl_WireOk.bits8 (fun HT_ HW_ => ?_)
                      generalize wr.drew = w29 at BK228 HB hHeld ⊢
                      refine pureP_ 0 (some 19) (bits_ 57 1) HT_ ?_
                      refine oneP_ 1 (some 20) (bits_ 57 3) HT_ (fun K hK => ?_)
                      refine goN_ Try.func28 #[.int .i64 a0_0, .int .i64 1, .int .i64 8] ?_
                      with_reducible refine (impl_in.calls a0_0 1 8 true _ A8.out).mono ?_
                      rintro e w' ⟨rfl, ⟨nd, rfl⟩⟩
                      refine ⟨_, rfl, ?_⟩
                      refine hK.out _ _ (hc11_ BK228.out) (fun hHeld => ?_)
                      clear hK K
                      refine normP_ (some 20) ?_
                      refine pureP_ 2 (some 21) (bits_ 57 7) HT_ ?_
                      refine pureP_ 3 (some 22) (bits_ 57 15) HT_ ?_
                      refine pureP_ 5 (some 24) (bits_ 57 47) HT_ ?_
                      refine takeP_ 6 (some 25) (bits_ 57 111) HT_ HW_ hHeld ?_
                      refine oneP_ 4 (some 23) (bits_ 57 127) HT_ (fun K hK => ?_)
                      refine goN_ Try.func30 #[.int .i64 a0_0, .int .u8 115] ?_
                      with_reducible refine (impl_has.calls k1 a0_0 115 t231 _ A10.out).mono ?_
                      rintro e w30 ⟨rfl, hb⟩
                      refine ⟨_, rfl, ?_⟩
                      replace BK228 := blkBel_ BK228.out hb
                      replace HB := stepB_ hb
                      (try clear hb)
                      refine hK.out _ _ (hc11_ BK228.out) (fun hHeld => ?_)
                      clear hK K
                      refine normP_ (some 23) ?_
                      refine oneP_ 7 (some 26) (bits_ 57 255) HT_ (fun K hK => ?_)
                      refine goN_ Try.func29 #[.bool t231, .int .i64 a0_1, .int .i64 1, .int .i64 1000000] ?_
                      with_reducible refine (impl_partOk.calls t231 a0_1 1 1000000 true _ A11.out).mono ?_
                      rintro e w' ⟨rfl, ⟨nd, rfl⟩⟩
                      refine ⟨_, rfl, ?_⟩
                      refine hK.out _ _ (hc11_ BK228.out) (fun hHeld => ?_)
                      clear hK K
                      refine normP_ (some 26) ?_
                      refine pureP_ 8 (some 27) (bits_ 57 511) HT_ ?_
                      refine pureP_ 9 (some 28) (bits_ 57 1023) HT_ ?_
                      refine pureP_ 10 (some 29) (bits_ 57 2047) HT_ ?_
                      refine pureP_ 12 (some 31) (bits_ 57 6143) HT_ ?_
                      refine takeP_ 13 (some 32) (bits_ 57 14335) HT_ HW_ hHeld ?_
                      refine oneP_ 11 (some 30) (bits_ 57 16383) HT_ (fun K hK => ?_)
                      refine goN_ Try.func30 #[.int .i64 a0_0, .int .u8 102] ?_
                      with_reducible refine (impl_has.calls k1 a0_0 102 t233 _ A13.out).mono ?_
                      rintro e w31 ⟨rfl, hb⟩
                      refine ⟨_, rfl, ?_⟩
                      replace BK228 := blkBel_ BK228.out hb
                      replace HB := stepB_ hb
                      (try clear hb)
                      refine hK.out _ _ (hc11_ BK228.out) (fun hHeld => ?_)
                      clear hK K
                      refine normP_ (some 30) ?_
                      refine oneP_ 14 (some 33) (bits_ 57 32767) HT_ (fun K hK => ?_)
                      refine goN_ Try.func29 #[.bool t233, .int .i64 a0_2, .int .i64 0, .int .i64 256] ?_
                      with_reducible refine (impl_partOk.calls t233 a0_2 0 256 true _ A14.out).mono ?_
                      rintro e w' ⟨rfl, ⟨nd, rfl⟩⟩
                      refine ⟨_, rfl, ?_⟩
                      refine hK.out _ _ (hc11_ BK228.out) (fun hHeld => ?_)
                      clear hK K
                      refine normP_ (some 33) ?_
                      refine pureP_ 15 (some 34) (bits_ 57 65535) HT_ ?_
                      refine pureP_ 16 (some 35) (bits_ 57 131071) HT_ ?_
                      refine pureP_ 17 (some 36) (bits_ 57 262143) HT_ ?_
                      refine pureP_ 19 (some 38) (bits_ 57 786431) HT_ ?_
                      refine takeP_ 20 (some 39) (bits_ 57 1835007) HT_ HW_ hHeld ?_
                      refine oneP_ 18 (some 37) (bits_ 57 2097151) HT_ (fun K hK => ?_)
                      refine goN_ Try.func30 #[.int .i64 a0_0, .int .u8 122] ?_
                      with_reducible refine (impl_has.calls k1 a0_0 122 t235 _ A16.out).mono ?_
                      rintro e w32 ⟨rfl, hb⟩
                      refine ⟨_, rfl, ?_⟩
                      replace BK228 := blkBel_ BK228.out hb
                      replace HB := stepB_ hb
                      (try clear hb)
                      refine hK.out _ _ (hc11_ BK228.out) (fun hHeld => ?_)
                      clear hK K
                      refine normP_ (some 37) ?_
                      refine oneP_ 21 (some 40) (bits_ 57 4194303) HT_ (fun K hK => ?_)
                      refine goN_ Try.func29 #[.bool t235, .int .i64 a0_3, .int .i64 0, .int .i64 256] ?_
                      with_reducible refine (impl_partOk.calls t235 a0_3 0 256 true _ A17.out).mono ?_
                      rintro e w' ⟨rfl, ⟨nd, rfl⟩⟩
                      refine ⟨_, rfl, ?_⟩
                      refine hK.out _ _ (hc11_ BK228.out) (fun hHeld => ?_)
                      clear hK K
                      refine normP_ (some 40) ?_
                      refine pureP_ 22 (some 41) (bits_ 57 8388607) HT_ ?_
                      refine pureP_ 23 (some 42) (bits_ 57 16777215) HT_ ?_
                      refine pureP_ 24 (some 43) (bits_ 57 33554431) HT_ ?_
                      refine oneP_ 25 (some 44) (bits_ 57 67108863) HT_ (fun K hK => ?_)
                      refine goN_ Try.func30 #[.int .i64 a0_0, .int .u8 114] ?_
                      with_reducible refine (impl_has.calls k1 a0_0 114 true _ A19.out).mono ?_
                      rintro e w33 ⟨rfl, hb⟩
                      refine ⟨_, rfl, ?_⟩
                      replace BK228 := blkBel_ BK228.out hb
                      replace HB := stepB_ hb
                      (try clear hb)
                      refine hK.out _ _ (hc11_ BK228.out) (fun hHeld => ?_)
                      clear hK K
                      refine normP_ (some 44) ?_
                      refine pureP_ 26 (some 45) (bits_ 57 134217727) HT_ ?_
                      refine pure_ (i := 27) (N := some 46) (v := undef) (a' := ?_) #[true, true, true, true, true, true, true, true, true, true, true, true, true, true, true, true, true, true, true, true, true, true, true, true, true, true, true, true, false, false, false, false, false, false, false, false, false, false, false, false, false, false, false, false, false, false, false, false, false, false, false, false, false, false, false, false, false] rfl rfl (any_of HT_.out (by kernel_rfl)) (fun _ _ _ h => h) (Or.inr ⟨by rfl, rfl⟩) ?_ ?_
                      rotate_left
                      · simp only [Act.put, List.setIfInBounds_toArray, List.set_cons_zero, List.set_cons_succ, i64_w, i32_w]
                        rfl
                      refine pure_ (i := 28) (N := some 47) (v := undef) (a' := ?_) #[true, true, true, true, true, true, true, true, true, true, true, true, true, true, true, true, true, true, true, true, true, true, true, true, true, true, true, true, true, false, false, false, false, false, false, false, false, false, false, false, false, false, false, false, false, false, false, false, false, false, false, false, false, false, false, false, false] rfl rfl (any_of HT_.out (by kernel_rfl)) (fun _ _ _ h => h) (Or.inr ⟨by rfl, rfl⟩) ?_ ?_
                      rotate_left
                      · simp only [Act.put, List.setIfInBounds_toArray, List.set_cons_zero, List.set_cons_succ, i64_w, i32_w]
                        rfl
                      refine pure_ (i := 29) (N := some 48) (v := undef) (a' := ?_) #[true, true, true, true, true, true, true, true, true, true, true, true, true, true, true, true, true, true, true, true, true, true, true, true, true, true, true, true, true, true, false, false, false, false, false, false, false, false, false, false, false, false, false, false, false, false, false, false, false, false, false, false, false, false, false, false, false] rfl rfl (any_of HT_.out (by kernel_rfl)) (fun _ _ _ h => h) (Or.inr ⟨by rfl, rfl⟩) ?_ ?_
                      rotate_left
                      · simp only [Act.put, List.setIfInBounds_toArray, List.set_cons_zero, List.set_cons_succ, i64_w, i32_w]
                        rfl
                      refine pure_ (i := 30) (N := some 49) (v := undef) (a' := ?_) #[true, true, true, true, true, true, true, true, true, true, true, true, true, true, true, true, true, true, true, true, true, true, true, true, true, true, true, true, true, true, true, false, false, false, false, false, false, false, false, false, false, false, false, false, false, false, false, false, false, false, false, false, false, false, false, false, false] rfl rfl (any_of HT_.out (by kernel_rfl)) (fun _ _ _ h => h) (Or.inr ⟨by rfl, rfl⟩) ?_ ?_
                      rotate_left
                      · simp only [Act.put, List.setIfInBounds_toArray, List.set_cons_zero, List.set_cons_succ, i64_w, i32_w]
                        rfl
                      refine pureP_ 31 (some 50) (bits_ 57 4294967295) HT_ ?_
                      refine pureP_ 32 (some 51) (bits_ 57 8589934591) HT_ ?_
                      refine pureP_ 33 (some 52) (bits_ 57 17179869183) HT_ ?_
                      refine pureP_ 34 (some 53) (bits_ 57 34359738367) HT_ ?_
                      refine pureP_ 36 (some 55) (bits_ 57 103079215103) HT_ ?_
                      refine takeP_ 37 (some 56) (bits_ 57 240518168575) HT_ HW_ hHeld ?_
                      refine oneP_ 35 (some 54) (bits_ 57 274877906943) HT_ (fun K hK => ?_)
                      refine goN_ Try.func30 #[.int .i64 a0_0, .int .u8 99] ?_
                      with_reducible refine (impl_has.calls k1 a0_0 99 t238 _ A21.out).mono ?_
                      rintro e w34 ⟨rfl, hb⟩
                      refine ⟨_, rfl, ?_⟩
                      replace BK228 := blkBel_ BK228.out hb
                      replace HB := stepB_ hb
                      (try clear hb)
                      refine hK.out _ _ (hc11_ BK228.out) (fun hHeld => ?_)
                      clear hK K
                      refine normP_ (some 54) ?_
                      refine oneP_ 38 (some 57) (bits_ 57 549755813887) HT_ (fun K hK => ?_)
                      refine goN_ Try.func29 #[.bool t238, .int .i64 a0_8, .int .i64 1, .int .i64 8] ?_
                      with_reducible refine (impl_partOk.calls t238 a0_8 1 8 true _ A22.out).mono ?_
                      rintro e w' ⟨rfl, ⟨nd, rfl⟩⟩
                      refine ⟨_, rfl, ?_⟩
                      refine hK.out _ _ (hc11_ BK228.out) (fun hHeld => ?_)
                      clear hK K
                      refine normP_ (some 57) ?_
                      refine pureP_ 39 (some 58) (bits_ 57 1099511627775) HT_ ?_
                      refine pureP_ 40 (some 59) (bits_ 57 2199023255551) HT_ ?_
                      refine pureP_ 41 (some 60) (bits_ 57 4398046511103) HT_ ?_
                      refine pureP_ 43 (some 62) (bits_ 57 13194139533311) HT_ ?_
                      refine takeP_ 44 (some 63) (bits_ 57 30786325577727) HT_ HW_ hHeld ?_
                      refine pureP_ 45 (some 64) (bits_ 57 65970697666559) HT_ ?_
                      refine oneP_ 42 (some 61) (bits_ 57 70368744177663) HT_ (fun K hK => ?_)
                      refine goN_ Try.func30 #[.int .i64 a0_0, .int .u8 112] ?_
                      with_reducible refine (impl_has.calls k1 a0_0 112 t240 _ A24.out).mono ?_
                      rintro e w35 ⟨rfl, hb⟩
                      refine ⟨_, rfl, ?_⟩
                      replace BK228 := blkBel_ BK228.out hb
                      replace HB := stepB_ hb
                      (try clear hb)
                      refine hK.out _ _ (hc11_ BK228.out) (fun hHeld => ?_)
                      clear hK K
                      refine normP_ (some 61) ?_
                      refine oneP_ 46 (some 65) (bits_ 57 140737488355327) HT_ (fun K hK => ?_)
                      refine goN_ Try.func29 #[.bool t240, .int .i64 (l0_9.length : Int), .int .i64 0, .int .i64 16] ?_
                      with_reducible refine (impl_partOk.calls t240 (l0_9.length : Int) 0 16 true _ A25.out).mono ?_
                      rintro e w' ⟨rfl, ⟨nd, rfl⟩⟩
                      refine ⟨_, rfl, ?_⟩
                      refine hK.out _ _ (hc11_ BK228.out) (fun hHeld => ?_)
                      clear hK K
                      refine normP_ (some 65) ?_
                      refine pureP_ 47 (some 66) (bits_ 57 281474976710655) HT_ ?_
                      refine pureP_ 48 (some 67) (bits_ 57 562949953421311) HT_ ?_
                      refine pureP_ 49 (some 68) (bits_ 57 1125899906842623) HT_ ?_
                      refine pureP_ 51 (some 70) (bits_ 57 3377699720527871) HT_ ?_
                      refine takeP_ 52 (some 71) (bits_ 57 7881299347898367) HT_ HW_ hHeld ?_
                      refine pureP_ 53 (some 72) (bits_ 57 16888498602639359) HT_ ?_
                      refine oneP_ 50 (some 69) (bits_ 57 18014398509481983) HT_ (fun K hK => ?_)
                      refine goN_ Try.func30 #[.int .i64 a0_0, .int .u8 108] ?_
                      with_reducible refine (impl_has.calls k1 a0_0 108 t242 _ A27.out).mono ?_
                      rintro e w36 ⟨rfl, hb⟩
                      refine ⟨_, rfl, ?_⟩
                      replace BK228 := blkBel_ BK228.out hb
                      replace HB := stepB_ hb
                      (try clear hb)
                      refine hK.out _ _ (hc11_ BK228.out) (fun hHeld => ?_)
                      clear hK K
                      refine normP_ (some 69) ?_
                      refine oneP_ 54 (some 73) (bits_ 57 36028797018963967) HT_ (fun K hK => ?_)
                      refine goN_ Try.func29 #[.bool t242, .int .i64 (l0_10.length : Int), .int .i64 0, .int .i64 8] ?_
                      with_reducible refine (impl_partOk.calls t242 (l0_10.length : Int) 0 8 t243 _ A28.out).mono ?_
                      rintro e w' ⟨rfl, ⟨nd, rfl⟩⟩
                      refine ⟨_, rfl, ?_⟩
                      refine hK.out _ _ (hc11_ BK228.out) (fun hHeld => ?_)
                      clear hK K
                      refine normP_ (some 73) ?_
                      refine pureP_ 55 (some 74) (bits_ 57 72057594037927935) HT_ ?_
                      refine pureP_ 56 (some 2) (bits_ 57 144115188075855871) HT_ ?_
                      refine done_ (done_of HT_.out (by kernel_rfl)) ?_
                      try go_wp2
                      go_ret
                      exact ⟨rfl_, bel_⟩
                    · replace c26 := Bool.eq_false_iff.mpr c26
                      subst c26
                      rw [if_neg (show ¬ (false = true) by decide)] at H
                      obtain rfl := Option.some.inj H
                      try go_wp2
                      replace BK228 := Aside0.mk (blk_drew BK228.out)
                      replace HB := Aside0.mk (below_drew1 HB.out)
                      refine start_ (n := 57) (S := fun w' => w'.cell? ⟨gb228, 0, none⟩ = some (.int .i64 a0_0) ∧ w'.cell? ⟨gb228, 1, none⟩ = some (.int .i64 a0_1) ∧ w'.cell? ⟨gb228, 2, none⟩ = some (.int .i64 a0_2) ∧ w'.cell? ⟨gb228, 3, none⟩ = some (.int .i64 a0_3) ∧ w'.cell? ⟨gb228, 4, none⟩ = some (.int .u64 a0_4) ∧ w'.cell? ⟨gb228, 5, none⟩ = some (.int .u64 a0_5) ∧ w'.cell? ⟨gb228, 6, none⟩ = some (.int .u64 a0_6) ∧ w'.cell? ⟨gb228, 7, none⟩ = some (.int .u64 a0_7) ∧ w'.cell? ⟨gb228, 8, none⟩ = some (.int .i64 a0_8) ∧ w'.cell? ⟨gb228, 9, none⟩ = some (.slice A0_9 l0_9.length c0_9) ∧ w'.cell? ⟨gb228, 10, none⟩ = some (.slice A0_10 l0_10.length c0_10)) (ds := []) #[false, false, false, false, false, false, false, false, false, false, false, false, false, false, false, false, false, false, false, false, false, false, false, false, false, false, false, false, false, false, false, false, false, false, false, false, false, false, false, false, false, false, false, false, false, false, false, false, false, false, false, false, false, false, false, false, false] (by kernel_rfl) rfl rfl (hc11_ BK228.out) (fun hHeld => ?_); refine with_tabW impl_WireOk.tab8 impl_WireOk.bits8 (fun HT_ HW_ => ?_)
                      generalize wr.drew = w37 at BK228 HB hHeld ⊢
                      refine pureP_ 0 (some 19) (bits_ 57 1) HT_ ?_
                      refine oneP_ 1 (some 20) (bits_ 57 3) HT_ (fun K hK => ?_)
                      refine goN_ Try.func28 #[.int .i64 a0_0, .int .i64 1, .int .i64 8] ?_
                      with_reducible refine (impl_in.calls a0_0 1 8 true _ A8.out).mono ?_
                      rintro e w' ⟨rfl, ⟨nd, rfl⟩⟩
                      refine ⟨_, rfl, ?_⟩
                      refine hK.out _ _ (hc11_ BK228.out) (fun hHeld => ?_)
                      clear hK K
                      refine normP_ (some 20) ?_
                      refine pureP_ 2 (some 21) (bits_ 57 7) HT_ ?_
                      refine pureP_ 3 (some 22) (bits_ 57 15) HT_ ?_
                      refine pureP_ 5 (some 24) (bits_ 57 47) HT_ ?_
                      refine takeP_ 6 (some 25) (bits_ 57 111) HT_ HW_ hHeld ?_
                      refine oneP_ 4 (some 23) (bits_ 57 127) HT_ (fun K hK => ?_)
                      refine goN_ Try.func30 #[.int .i64 a0_0, .int .u8 115] ?_
                      with_reducible refine (impl_has.calls k1 a0_0 115 t231 _ A10.out).mono ?_
                      rintro e w38 ⟨rfl, hb⟩
                      refine ⟨_, rfl, ?_⟩
                      replace BK228 := blkBel_ BK228.out hb
                      replace HB := stepB_ hb
                      (try clear hb)
                      refine hK.out _ _ (hc11_ BK228.out) (fun hHeld => ?_)
                      clear hK K
                      refine normP_ (some 23) ?_
                      refine oneP_ 7 (some 26) (bits_ 57 255) HT_ (fun K hK => ?_)
                      refine goN_ Try.func29 #[.bool t231, .int .i64 a0_1, .int .i64 1, .int .i64 1000000] ?_
                      with_reducible refine (impl_partOk.calls t231 a0_1 1 1000000 true _ A11.out).mono ?_
                      rintro e w' ⟨rfl, ⟨nd, rfl⟩⟩
                      refine ⟨_, rfl, ?_⟩
                      refine hK.out _ _ (hc11_ BK228.out) (fun hHeld => ?_)
                      clear hK K
                      refine normP_ (some 26) ?_
                      refine pureP_ 8 (some 27) (bits_ 57 511) HT_ ?_
                      refine pureP_ 9 (some 28) (bits_ 57 1023) HT_ ?_
                      refine pureP_ 10 (some 29) (bits_ 57 2047) HT_ ?_
                      refine pureP_ 12 (some 31) (bits_ 57 6143) HT_ ?_
                      refine takeP_ 13 (some 32) (bits_ 57 14335) HT_ HW_ hHeld ?_
                      refine oneP_ 11 (some 30) (bits_ 57 16383) HT_ (fun K hK => ?_)
                      refine goN_ Try.func30 #[.int .i64 a0_0, .int .u8 102] ?_
                      with_reducible refine (impl_has.calls k1 a0_0 102 t233 _ A13.out).mono ?_
                      rintro e w39 ⟨rfl, hb⟩
                      refine ⟨_, rfl, ?_⟩
                      replace BK228 := blkBel_ BK228.out hb
                      replace HB := stepB_ hb
                      (try clear hb)
                      refine hK.out _ _ (hc11_ BK228.out) (fun hHeld => ?_)
                      clear hK K
                      refine normP_ (some 30) ?_
                      refine oneP_ 14 (some 33) (bits_ 57 32767) HT_ (fun K hK => ?_)
                      refine goN_ Try.func29 #[.bool t233, .int .i64 a0_2, .int .i64 0, .int .i64 256] ?_
                      with_reducible refine (impl_partOk.calls t233 a0_2 0 256 true _ A14.out).mono ?_
                      rintro e w' ⟨rfl, ⟨nd, rfl⟩⟩
                      refine ⟨_, rfl, ?_⟩
                      refine hK.out _ _ (hc11_ BK228.out) (fun hHeld => ?_)
                      clear hK K
                      refine normP_ (some 33) ?_
                      refine pureP_ 15 (some 34) (bits_ 57 65535) HT_ ?_
                      refine pureP_ 16 (some 35) (bits_ 57 131071) HT_ ?_
                      refine pureP_ 17 (some 36) (bits_ 57 262143) HT_ ?_
                      refine pureP_ 19 (some 38) (bits_ 57 786431) HT_ ?_
                      refine takeP_ 20 (some 39) (bits_ 57 1835007) HT_ HW_ hHeld ?_
                      refine oneP_ 18 (some 37) (bits_ 57 2097151) HT_ (fun K hK => ?_)
                      refine goN_ Try.func30 #[.int .i64 a0_0, .int .u8 122] ?_
                      with_reducible refine (impl_has.calls k1 a0_0 122 t235 _ A16.out).mono ?_
                      rintro e w40 ⟨rfl, hb⟩
                      refine ⟨_, rfl, ?_⟩
                      replace BK228 := blkBel_ BK228.out hb
                      replace HB := stepB_ hb
                      (try clear hb)
                      refine hK.out _ _ (hc11_ BK228.out) (fun hHeld => ?_)
                      clear hK K
                      refine normP_ (some 37) ?_
                      refine oneP_ 21 (some 40) (bits_ 57 4194303) HT_ (fun K hK => ?_)
                      refine goN_ Try.func29 #[.bool t235, .int .i64 a0_3, .int .i64 0, .int .i64 256] ?_
                      with_reducible refine (impl_partOk.calls t235 a0_3 0 256 true _ A17.out).mono ?_
                      rintro e w' ⟨rfl, ⟨nd, rfl⟩⟩
                      refine ⟨_, rfl, ?_⟩
                      refine hK.out _ _ (hc11_ BK228.out) (fun hHeld => ?_)
                      clear hK K
                      refine normP_ (some 40) ?_
                      refine pureP_ 22 (some 41) (bits_ 57 8388607) HT_ ?_
                      refine pureP_ 23 (some 42) (bits_ 57 16777215) HT_ ?_
                      refine pureP_ 24 (some 43) (bits_ 57 33554431) HT_ ?_
                      refine oneP_ 25 (some 44) (bits_ 57 67108863) HT_ (fun K hK => ?_)
                      refine goN_ Try.func30 #[.int .i64 a0_0, .int .u8 114] ?_
                      with_reducible refine (impl_has.calls k1 a0_0 114 true _ A19.out).mono ?_
                      rintro e w41 ⟨rfl, hb⟩
                      refine ⟨_, rfl, ?_⟩
                      replace BK228 := blkBel_ BK228.out hb
                      replace HB := stepB_ hb
                      (try clear hb)
                      refine hK.out _ _ (hc11_ BK228.out) (fun hHeld => ?_)
                      clear hK K
                      refine normP_ (some 44) ?_
                      refine pureP_ 26 (some 45) (bits_ 57 134217727) HT_ ?_
                      refine pure_ (i := 27) (N := some 46) (v := undef) (a' := ?_) #[true, true, true, true, true, true, true, true, true, true, true, true, true, true, true, true, true, true, true, true, true, true, true, true, true, true, true, true, false, false, false, false, false, false, false, false, false, false, false, false, false, false, false, false, false, false, false, false, false, false, false, false, false, false, false, false, false] rfl rfl (any_of HT_.out (by kernel_rfl)) (fun _ _ _ h => h) (Or.inr ⟨by rfl, rfl⟩) ?_ ?_
                      rotate_left
                      · simp only [Act.put, List.setIfInBounds_toArray, List.set_cons_zero, List.set_cons_succ, i64_w, i32_w]
                        rfl
                      refine pure_ (i := 28) (N := some 47) (v := undef) (a' := ?_) #[true, true, true, true, true, true, true, true, true, true, true, true, true, true, true, true, true, true, true, true, true, true, true, true, true, true, true, true, true, false, false, false, false, false, false, false, false, false, false, false, false, false, false, false, false, false, false, false, false, false, false, false, false, false, false, false, false] rfl rfl (any_of HT_.out (by kernel_rfl)) (fun _ _ _ h => h) (Or.inr ⟨by rfl, rfl⟩) ?_ ?_
                      rotate_left
                      · simp only [Act.put, List.setIfInBounds_toArray, List.set_cons_zero, List.set_cons_succ, i64_w, i32_w]
                        rfl
                      refine pure_ (i := 29) (N := some 48) (v := undef) (a' := ?_) #[true, true, true, true, true, true, true, true, true, true, true, true, true, true, true, true, true, true, true, true, true, true, true, true, true, true, true, true, true, true, false, false, false, false, false, false, false, false, false, false, false, false, false, false, false, false, false, false, false, false, false, false, false, false, false, false, false] rfl rfl (any_of HT_.out (by kernel_rfl)) (fun _ _ _ h => h) (Or.inr ⟨by rfl, rfl⟩) ?_ ?_
                      rotate_left
                      · simp only [Act.put, List.setIfInBounds_toArray, List.set_cons_zero, List.set_cons_succ, i64_w, i32_w]
                        rfl
                      refine pure_ (i := 30) (N := some 49) (v := undef) (a' := ?_) #[true, true, true, true, true, true, true, true, true, true, true, true, true, true, true, true, true, true, true, true, true, true, true, true, true, true, true, true, true, true, true, false, false, false, false, false, false, false, false, false, false, false, false, false, false, false, false, false, false, false, false, false, false, false, false, false, false] rfl rfl (any_of HT_.out (by kernel_rfl)) (fun _ _ _ h => h) (Or.inr ⟨by rfl, rfl⟩) ?_ ?_
                      rotate_left
                      · simp only [Act.put, List.setIfInBounds_toArray, List.set_cons_zero, List.set_cons_succ, i64_w, i32_w]
                        rfl
                      refine pureP_ 31 (some 50) (bits_ 57 4294967295) HT_ ?_
                      refine pureP_ 32 (some 51) (bits_ 57 8589934591) HT_ ?_
                      refine pureP_ 33 (some 52) (bits_ 57 17179869183) HT_ ?_
                      refine pureP_ 34 (some 53) (bits_ 57 34359738367) HT_ ?_
                      refine pureP_ 36 (some 55) (bits_ 57 103079215103) HT_ ?_
                      refine takeP_ 37 (some 56) (bits_ 57 240518168575) HT_ HW_ hHeld ?_
                      refine oneP_ 35 (some 54) (bits_ 57 274877906943) HT_ (fun K hK => ?_)
                      refine goN_ Try.func30 #[.int .i64 a0_0, .int .u8 99] ?_
                      with_reducible refine (impl_has.calls k1 a0_0 99 t238 _ A21.out).mono ?_
                      rintro e w42 ⟨rfl, hb⟩
                      refine ⟨_, rfl, ?_⟩
                      replace BK228 := blkBel_ BK228.out hb
                      replace HB := stepB_ hb
                      (try clear hb)
                      refine hK.out _ _ (hc11_ BK228.out) (fun hHeld => ?_)
                      clear hK K
                      refine normP_ (some 54) ?_
                      refine oneP_ 38 (some 57) (bits_ 57 549755813887) HT_ (fun K hK => ?_)
                      refine goN_ Try.func29 #[.bool t238, .int .i64 a0_8, .int .i64 1, .int .i64 8] ?_
                      with_reducible refine (impl_partOk.calls t238 a0_8 1 8 true _ A22.out).mono ?_
                      rintro e w' ⟨rfl, ⟨nd, rfl⟩⟩
                      refine ⟨_, rfl, ?_⟩
                      refine hK.out _ _ (hc11_ BK228.out) (fun hHeld => ?_)
                      clear hK K
                      refine normP_ (some 57) ?_
                      refine pureP_ 39 (some 58) (bits_ 57 1099511627775) HT_ ?_
                      refine pureP_ 40 (some 59) (bits_ 57 2199023255551) HT_ ?_
                      refine pureP_ 41 (some 60) (bits_ 57 4398046511103) HT_ ?_
                      refine pureP_ 43 (some 62) (bits_ 57 13194139533311) HT_ ?_
                      refine takeP_ 44 (some 63) (bits_ 57 30786325577727) HT_ HW_ hHeld ?_
                      refine pureP_ 45 (some 64) (bits_ 57 65970697666559) HT_ ?_
                      refine oneP_ 42 (some 61) (bits_ 57 70368744177663) HT_ (fun K hK => ?_)
                      refine goN_ Try.func30 #[.int .i64 a0_0, .int .u8 112] ?_
                      with_reducible refine (impl_has.calls k1 a0_0 112 t240 _ A24.out).mono ?_
                      rintro e w43 ⟨rfl, hb⟩
                      refine ⟨_, rfl, ?_⟩
                      replace BK228 := blkBel_ BK228.out hb
                      replace HB := stepB_ hb
                      (try clear hb)
                      refine hK.out _ _ (hc11_ BK228.out) (fun hHeld => ?_)
                      clear hK K
                      refine normP_ (some 61) ?_
                      refine oneP_ 46 (some 65) (bits_ 57 140737488355327) HT_ (fun K hK => ?_)
                      refine goN_ Try.func29 #[.bool t240, .int .i64 (l0_9.length : Int), .int .i64 0, .int .i64 16] ?_
                      with_reducible refine (impl_partOk.calls t240 (l0_9.length : Int) 0 16 false _ A25.out).mono ?_
                      rintro e w' ⟨rfl, ⟨nd, rfl⟩⟩
                      refine ⟨_, rfl, ?_⟩
                      refine hK.out _ _ (hc11_ BK228.out) (fun hHeld => ?_)
                      clear hK K
                      refine normP_ (some 65) ?_
                      refine pureP_ 47 (some 66) (bits_ 57 281474976710655) HT_ ?_
                      refine pureP_ 48 (some 67) (bits_ 57 562949953421311) HT_ ?_
                      refine pure_ (i := 49) (N := some 68) (v := undef) (a' := ?_) #[true, true, true, true, true, true, true, true, true, true, true, true, true, true, true, true, true, true, true, true, true, true, true, true, true, true, true, true, true, true, true, true, true, true, true, true, true, true, true, true, true, true, true, true, true, true, true, true, true, true, false, false, false, false, false, false, false] rfl rfl (any_of HT_.out (by kernel_rfl)) (fun _ _ _ h => h) (Or.inr ⟨by rfl, rfl⟩) ?_ ?_
                      rotate_left
                      · simp only [Act.put, List.setIfInBounds_toArray, List.set_cons_zero, List.set_cons_succ, i64_w, i32_w]
                        rfl
                      refine pure_ (i := 50) (N := some 69) (v := undef) (a' := ?_) #[true, true, true, true, true, true, true, true, true, true, true, true, true, true, true, true, true, true, true, true, true, true, true, true, true, true, true, true, true, true, true, true, true, true, true, true, true, true, true, true, true, true, true, true, true, true, true, true, true, true, true, false, false, false, false, false, false] rfl rfl (any_of HT_.out (by kernel_rfl)) (fun _ _ _ h => h) (Or.inr ⟨by rfl, rfl⟩) ?_ ?_
                      rotate_left
                      · simp only [Act.put, List.setIfInBounds_toArray, List.set_cons_zero, List.set_cons_succ, i64_w, i32_w]
                        rfl
                      refine pure_ (i := 51) (N := some 70) (v := undef) (a' := ?_) #[true, true, true, true, true, true, true, true, true, true, true, true, true, true, true, true, true, true, true, true, true, true, true, true, true, true, true, true, true, true, true, true, true, true, true, true, true, true, true, true, true, true, true, true, true, true, true, true, true, true, true, true, false, false, false, false, false] rfl rfl (any_of HT_.out (by kernel_rfl)) (fun _ _ _ h => h) (Or.inr ⟨by rfl, rfl⟩) ?_ ?_
                      rotate_left
                      · simp only [Act.put, List.setIfInBounds_toArray, List.set_cons_zero, List.set_cons_succ, i64_w, i32_w]
                        rfl
                      refine pure_ (i := 52) (N := some 71) (v := undef) (a' := ?_) #[true, true, true, true, true, true, true, true, true, true, true, true, true, true, true, true, true, true, true, true, true, true, true, true, true, true, true, true, true, true, true, true, true, true, true, true, true, true, true, true, true, true, true, true, true, true, true, true, true, true, true, true, true, false, false, false, false] rfl rfl (any_of HT_.out (by kernel_rfl)) (fun _ _ _ h => h) (Or.inr ⟨by rfl, rfl⟩) ?_ ?_
                      rotate_left
                      · simp only [Act.put, List.setIfInBounds_toArray, List.set_cons_zero, List.set_cons_succ, i64_w, i32_w]
                        rfl
                      refine pure_ (i := 53) (N := some 72) (v := undef) (a' := ?_) #[true, true, true, true, true, true, true, true, true, true, true, true, true, true, true, true, true, true, true, true, true, true, true, true, true, true, true, true, true, true, true, true, true, true, true, true, true, true, true, true, true, true, true, true, true, true, true, true, true, true, true, true, true, true, false, false, false] rfl rfl (any_of HT_.out (by kernel_rfl)) (fun _ _ _ h => h) (Or.inr ⟨by rfl, rfl⟩) ?_ ?_
                      rotate_left
                      · simp only [Act.put, List.setIfInBounds_toArray, List.set_cons_zero, List.set_cons_succ, i64_w, i32_w]
                        rfl
                      refine pure_ (i := 54) (N := some 73) (v := undef) (a' := ?_) #[true, true, true, true, true, true, true, true, true, true, true, true, true, true, true, true, true, true, true, true, true, true, true, true, true, true, true, true, true, true, true, true, true, true, true, true, true, true, true, true, true, true, true, true, true, true, true, true, true, true, true, true, true, true, true, false, false] rfl rfl (any_of HT_.out (by kernel_rfl)) (fun _ _ _ h => h) (Or.inr ⟨by rfl, rfl⟩) ?_ ?_
                      rotate_left
                      · simp only [Act.put, List.setIfInBounds_toArray, List.set_cons_zero, List.set_cons_succ, i64_w, i32_w]
                        rfl
                      refine pureP_ 55 (some 74) (bits_ 57 72057594037927935) HT_ ?_
                      refine pureP_ 56 (some 2) (bits_ 57 144115188075855871) HT_ ?_
                      refine done_ (done_of HT_.out (by kernel_rfl)) ?_
                      try go_wp2
                      go_ret
                      exact ⟨rfl_, bel_⟩
                  · replace c23 := Bool.eq_false_iff.mpr c23
                    subst c23
                    rw [if_neg (show ¬ (false = true) by decide)] at H
                    obtain rfl := Option.some.inj H
                    try go_wp2
                    replace BK228 := Aside0.mk (blk_drew BK228.out)
                    replace HB := Aside0.mk (below_drew1 HB.out)
                    refine start_ (n := 57) (S := fun w' => w'.cell? ⟨gb228, 0, none⟩ = some (.int .i64 a0_0) ∧ w'.cell? ⟨gb228, 1, none⟩ = some (.int .i64 a0_1) ∧ w'.cell? ⟨gb228, 2, none⟩ = some (.int .i64 a0_2) ∧ w'.cell? ⟨gb228, 3, none⟩ = some (.int .i64 a0_3) ∧ w'.cell? ⟨gb228, 4, none⟩ = some (.int .u64 a0_4) ∧ w'.cell? ⟨gb228, 5, none⟩ = some (.int .u64 a0_5) ∧ w'.cell? ⟨gb228, 6, none⟩ = some (.int .u64 a0_6) ∧ w'.cell? ⟨gb228, 7, none⟩ = some (.int .u64 a0_7) ∧ w'.cell? ⟨gb228, 8, none⟩ = some (.int .i64 a0_8) ∧ w'.cell? ⟨gb228, 9, none⟩ = some (.slice A0_9 l0_9.length c0_9) ∧ w'.cell? ⟨gb228, 10, none⟩ = some (.slice A0_10 l0_10.length c0_10)) (ds := []) #[false, false, false, false, false, false, false, false, false, false, false, false, false, false, false, false, false, false, false, false, false, false, false, false, false, false, false, false, false, false, false, false, false, false, false, false, false, false, false, false, false, false, false, false, false, false, false, false, false, false, false, false, false, false, false, false, false] (by kernel_rfl) rfl rfl (hc11_ BK228.out) (fun hHeld => ?_); refine with_tabW impl_WireOk.tab8 impl_WireOk.bits8 (fun HT_ HW_ => ?_)
                    generalize wr.drew = w44 at BK228 HB hHeld ⊢
                    refine pureP_ 0 (some 19) (bits_ 57 1) HT_ ?_
                    refine oneP_ 1 (some 20) (bits_ 57 3) HT_ (fun K hK => ?_)
                    refine goN_ Try.func28 #[.int .i64 a0_0, .int .i64 1, .int .i64 8] ?_
                    with_reducible refine (impl_in.calls a0_0 1 8 true _ A8.out).mono ?_
                    rintro e w' ⟨rfl, ⟨nd, rfl⟩⟩
                    refine ⟨_, rfl, ?_⟩
                    refine hK.out _ _ (hc11_ BK228.out) (fun hHeld => ?_)
                    clear hK K
                    refine normP_ (some 20) ?_
                    refine pureP_ 2 (some 21) (bits_ 57 7) HT_ ?_
                    refine pureP_ 3 (some 22) (bits_ 57 15) HT_ ?_
                    refine pureP_ 5 (some 24) (bits_ 57 47) HT_ ?_
                    refine takeP_ 6 (some 25) (bits_ 57 111) HT_ HW_ hHeld ?_
                    refine oneP_ 4 (some 23) (bits_ 57 127) HT_ (fun K hK => ?_)
                    refine goN_ Try.func30 #[.int .i64 a0_0, .int .u8 115] ?_
                    with_reducible refine (impl_has.calls k1 a0_0 115 t231 _ A10.out).mono ?_
                    rintro e w45 ⟨rfl, hb⟩
                    refine ⟨_, rfl, ?_⟩
                    replace BK228 := blkBel_ BK228.out hb
                    replace HB := stepB_ hb
                    (try clear hb)
                    refine hK.out _ _ (hc11_ BK228.out) (fun hHeld => ?_)
                    clear hK K
                    refine normP_ (some 23) ?_
                    refine oneP_ 7 (some 26) (bits_ 57 255) HT_ (fun K hK => ?_)
                    refine goN_ Try.func29 #[.bool t231, .int .i64 a0_1, .int .i64 1, .int .i64 1000000] ?_
                    with_reducible refine (impl_partOk.calls t231 a0_1 1 1000000 true _ A11.out).mono ?_
                    rintro e w' ⟨rfl, ⟨nd, rfl⟩⟩
                    refine ⟨_, rfl, ?_⟩
                    refine hK.out _ _ (hc11_ BK228.out) (fun hHeld => ?_)
                    clear hK K
                    refine normP_ (some 26) ?_
                    refine pureP_ 8 (some 27) (bits_ 57 511) HT_ ?_
                    refine pureP_ 9 (some 28) (bits_ 57 1023) HT_ ?_
                    refine pureP_ 10 (some 29) (bits_ 57 2047) HT_ ?_
                    refine pureP_ 12 (some 31) (bits_ 57 6143) HT_ ?_
                    refine takeP_ 13 (some 32) (bits_ 57 14335) HT_ HW_ hHeld ?_
                    refine oneP_ 11 (some 30) (bits_ 57 16383) HT_ (fun K hK => ?_)
                    refine goN_ Try.func30 #[.int .i64 a0_0, .int .u8 102] ?_
                    with_reducible refine (impl_has.calls k1 a0_0 102 t233 _ A13.out).mono ?_
                    rintro e w46 ⟨rfl, hb⟩
                    refine ⟨_, rfl, ?_⟩
                    replace BK228 := blkBel_ BK228.out hb
                    replace HB := stepB_ hb
                    (try clear hb)
                    refine hK.out _ _ (hc11_ BK228.out) (fun hHeld => ?_)
                    clear hK K
                    refine normP_ (some 30) ?_
                    refine oneP_ 14 (some 33) (bits_ 57 32767) HT_ (fun K hK => ?_)
                    refine goN_ Try.func29 #[.bool t233, .int .i64 a0_2, .int .i64 0, .int .i64 256] ?_
                    with_reducible refine (impl_partOk.calls t233 a0_2 0 256 true _ A14.out).mono ?_
                    rintro e w' ⟨rfl, ⟨nd, rfl⟩⟩
                    refine ⟨_, rfl, ?_⟩
                    refine hK.out _ _ (hc11_ BK228.out) (fun hHeld => ?_)
                    clear hK K
                    refine normP_ (some 33) ?_
                    refine pureP_ 15 (some 34) (bits_ 57 65535) HT_ ?_
                    refine pureP_ 16 (some 35) (bits_ 57 131071) HT_ ?_
                    refine pureP_ 17 (some 36) (bits_ 57 262143) HT_ ?_
                    refine pureP_ 19 (some 38) (bits_ 57 786431) HT_ ?_
                    refine takeP_ 20 (some 39) (bits_ 57 1835007) HT_ HW_ hHeld ?_
                    refine oneP_ 18 (some 37) (bits_ 57 2097151) HT_ (fun K hK => ?_)
                    refine goN_ Try.func30 #[.int .i64 a0_0, .int .u8 122] ?_
                    with_reducible refine (impl_has.calls k1 a0_0 122 t235 _ A16.out).mono ?_
                    rintro e w47 ⟨rfl, hb⟩
                    refine ⟨_, rfl, ?_⟩
                    replace BK228 := blkBel_ BK228.out hb
                    replace HB := stepB_ hb
                    (try clear hb)
                    refine hK.out _ _ (hc11_ BK228.out) (fun hHeld => ?_)
                    clear hK K
                    refine normP_ (some 37) ?_
                    refine oneP_ 21 (some 40) (bits_ 57 4194303) HT_ (fun K hK => ?_)
                    refine goN_ Try.func29 #[.bool t235, .int .i64 a0_3, .int .i64 0, .int .i64 256] ?_
                    with_reducible refine (impl_partOk.calls t235 a0_3 0 256 true _ A17.out).mono ?_
                    rintro e w' ⟨rfl, ⟨nd, rfl⟩⟩
                    refine ⟨_, rfl, ?_⟩
                    refine hK.out _ _ (hc11_ BK228.out) (fun hHeld => ?_)
                    clear hK K
                    refine normP_ (some 40) ?_
                    refine pureP_ 22 (some 41) (bits_ 57 8388607) HT_ ?_
                    refine pureP_ 23 (some 42) (bits_ 57 16777215) HT_ ?_
                    refine pureP_ 24 (some 43) (bits_ 57 33554431) HT_ ?_
                    refine oneP_ 25 (some 44) (bits_ 57 67108863) HT_ (fun K hK => ?_)
                    refine goN_ Try.func30 #[.int .i64 a0_0, .int .u8 114] ?_
                    with_reducible refine (impl_has.calls k1 a0_0 114 true _ A19.out).mono ?_
                    rintro e w48 ⟨rfl, hb⟩
                    refine ⟨_, rfl, ?_⟩
                    replace BK228 := blkBel_ BK228.out hb
                    replace HB := stepB_ hb
                    (try clear hb)
                    refine hK.out _ _ (hc11_ BK228.out) (fun hHeld => ?_)
                    clear hK K
                    refine normP_ (some 44) ?_
                    refine pureP_ 26 (some 45) (bits_ 57 134217727) HT_ ?_
                    refine pure_ (i := 27) (N := some 46) (v := undef) (a' := ?_) #[true, true, true, true, true, true, true, true, true, true, true, true, true, true, true, true, true, true, true, true, true, true, true, true, true, true, true, true, false, false, false, false, false, false, false, false, false, false, false, false, false, false, false, false, false, false, false, false, false, false, false, false, false, false, false, false, false] rfl rfl (any_of HT_.out (by kernel_rfl)) (fun _ _ _ h => h) (Or.inr ⟨by rfl, rfl⟩) ?_ ?_
                    rotate_left
                    · simp only [Act.put, List.setIfInBounds_toArray, List.set_cons_zero, List.set_cons_succ, i64_w, i32_w]
                      rfl
                    refine pure_ (i := 28) (N := some 47) (v := undef) (a' := ?_) #[true, true, true, true, true, true, true, true, true, true, true, true, true, true, true, true, true, true, true, true, true, true, true, true, true, true, true, true, true, false, false, false, false, false, false, false, false, false, false, false, false, false, false, false, false, false, false, false, false, false, false, false, false, false, false, false, false] rfl rfl (any_of HT_.out (by kernel_rfl)) (fun _ _ _ h => h) (Or.inr ⟨by rfl, rfl⟩) ?_ ?_
                    rotate_left
                    · simp only [Act.put, List.setIfInBounds_toArray, List.set_cons_zero, List.set_cons_succ, i64_w, i32_w]
                      rfl
                    refine pure_ (i := 29) (N := some 48) (v := undef) (a' := ?_) #[true, true, true, true, true, true, true, true, true, true, true, true, true, true, true, true, true, true, true, true, true, true, true, true, true, true, true, true, true, true, false, false, false, false, false, false, false, false, false, false, false, false, false, false, false, false, false, false, false, false, false, false, false, false, false, false, false] rfl rfl (any_of HT_.out (by kernel_rfl)) (fun _ _ _ h => h) (Or.inr ⟨by rfl, rfl⟩) ?_ ?_
                    rotate_left
                    · simp only [Act.put, List.setIfInBounds_toArray, List.set_cons_zero, List.set_cons_succ, i64_w, i32_w]
                      rfl
                    refine pure_ (i := 30) (N := some 49) (v := undef) (a' := ?_) #[true, true, true, true, true, true, true, true, true, true, true, true, true, true, true, true, true, true, true, true, true, true, true, true, true, true, true, true, true, true, true, false, false, false, false, false, false, false, false, false, false, false, false, false, false, false, false, false, false, false, false, false, false, false, false, false, false] rfl rfl (any_of HT_.out (by kernel_rfl)) (fun _ _ _ h => h) (Or.inr ⟨by rfl, rfl⟩) ?_ ?_
                    rotate_left
                    · simp only [Act.put, List.setIfInBounds_toArray, List.set_cons_zero, List.set_cons_succ, i64_w, i32_w]
                      rfl
                    refine pureP_ 31 (some 50) (bits_ 57 4294967295) HT_ ?_
                    refine pureP_ 32 (some 51) (bits_ 57 8589934591) HT_ ?_
                    refine pureP_ 33 (some 52) (bits_ 57 17179869183) HT_ ?_
                    refine pureP_ 34 (some 53) (bits_ 57 34359738367) HT_ ?_
                    refine pureP_ 36 (some 55) (bits_ 57 103079215103) HT_ ?_
                    refine takeP_ 37 (some 56) (bits_ 57 240518168575) HT_ HW_ hHeld ?_
                    refine oneP_ 35 (some 54) (bits_ 57 274877906943) HT_ (fun K hK => ?_)
                    refine goN_ Try.func30 #[.int .i64 a0_0, .int .u8 99] ?_
                    with_reducible refine (impl_has.calls k1 a0_0 99 t238 _ A21.out).mono ?_
                    rintro e w49 ⟨rfl, hb⟩
                    refine ⟨_, rfl, ?_⟩
                    replace BK228 := blkBel_ BK228.out hb
                    replace HB := stepB_ hb
                    (try clear hb)
                    refine hK.out _ _ (hc11_ BK228.out) (fun hHeld => ?_)
                    clear hK K
                    refine normP_ (some 54) ?_
                    refine oneP_ 38 (some 57) (bits_ 57 549755813887) HT_ (fun K hK => ?_)
                    refine goN_ Try.func29 #[.bool t238, .int .i64 a0_8, .int .i64 1, .int .i64 8] ?_
                    with_reducible refine (impl_partOk.calls t238 a0_8 1 8 false _ A22.out).mono ?_
                    rintro e w' ⟨rfl, ⟨nd, rfl⟩⟩
                    refine ⟨_, rfl, ?_⟩
                    refine hK.out _ _ (hc11_ BK228.out) (fun hHeld => ?_)
                    clear hK K
                    refine normP_ (some 57) ?_
                    refine pureP_ 39 (some 58) (bits_ 57 1099511627775) HT_ ?_
                    refine pureP_ 40 (some 59) (bits_ 57 2199023255551) HT_ ?_
                    refine pure_ (i := 41) (N := some 60) (v := undef) (a' := ?_) #[true, true, true, true, true, true, true, true, true, true, true, true, true, true, true, true, true, true, true, true, true, true, true, true, true, true, true, true, true, true, true, true, true, true, true, true, true, true, true, true, true, true, false, false, false, false, false, false, false, false, false, false, false, false, false, false, false] rfl rfl (any_of HT_.out (by kernel_rfl)) (fun _ _ _ h => h) (Or.inr ⟨by rfl, rfl⟩) ?_ ?_
                    rotate_left
                    · simp only [Act.put, List.setIfInBounds_toArray, List.set_cons_zero, List.set_cons_succ, i64_w, i32_w]
                      rfl
                    refine pure_ (i := 42) (N := some 61) (v := undef) (a' := ?_) #[true, true, true, true, true, true, true, true, true, true, true, true, true, true, true, true, true, true, true, true, true, true, true, true, true, true, true, true, true, true, true, true, true, true, true, true, true, true, true, true, true, true, true, false, false, false, false, false, false, false, false, false, false, false, false, false, false] rfl rfl (any_of HT_.out (by kernel_rfl)) (fun _ _ _ h => h) (Or.inr ⟨by rfl, rfl⟩) ?_ ?_
                    rotate_left
                    · simp only [Act.put, List.setIfInBounds_toArray, List.set_cons_zero, List.set_cons_succ, i64_w, i32_w]
                      rfl
                    refine pure_ (i := 43) (N := some 62) (v := undef) (a' := ?_) #[true, true, true, true, true, true, true, true, true, true, true, true, true, true, true, true, true, true, true, true, true, true, true, true, true, true, true, true, true, true, true, true, true, true, true, true, true, true, true, true, true, true, true, true, false, false, false, false, false, false, false, false, false, false, false, false, false] rfl rfl (any_of HT_.out (by kernel_rfl)) (fun _ _ _ h => h) (Or.inr ⟨by rfl, rfl⟩) ?_ ?_
                    rotate_left
                    · simp only [Act.put, List.setIfInBounds_toArray, List.set_cons_zero, List.set_cons_succ, i64_w, i32_w]
                      rfl
                    refine pure_ (i := 44) (N := some 63) (v := undef) (a' := ?_) #[true, true, true, true, true, true, true, true, true, true, true, true, true, true, true, true, true, true, true, true, true, true, true, true, true, true, true, true, true, true, true, true, true, true, true, true, true, true, true, true, true, true, true, true, true, false, false, false, false, false, false, false, false, false, false, false, false] rfl rfl (any_of HT_.out (by kernel_rfl)) (fun _ _ _ h => h) (Or.inr ⟨by rfl, rfl⟩) ?_ ?_
                    rotate_left
                    · simp only [Act.put, List.setIfInBounds_toArray, List.set_cons_zero, List.set_cons_succ, i64_w, i32_w]
                      rfl
                    refine pure_ (i := 45) (N := some 64) (v := undef) (a' := ?_) #[true, true, true, true, true, true, true, true, true, true, true, true, true, true, true, true, true, true, true, true, true, true, true, true, true, true, true, true, true, true, true, true, true, true, true, true, true, true, true, true, true, true, true, true, true, true, false, false, false, false, false, false, false, false, false, false, false] rfl rfl (any_of HT_.out (by kernel_rfl)) (fun _ _ _ h => h) (Or.inr ⟨by rfl, rfl⟩) ?_ ?_
                    rotate_left
                    · simp only [Act.put, List.setIfInBounds_toArray, List.set_cons_zero, List.set_cons_succ, i64_w, i32_w]
                      rfl
                    refine pure_ (i := 46) (N := some 65) (v := undef) (a' := ?_) #[true, true, true, true, true, true, true, true, true, true, true, true, true, true, true, true, true, true, true, true, true, true, true, true, true, true, true, true, true, true, true, true, true, true, true, true, true, true, true, true, true, true, true, true, true, true, true, false, false, false, false, false, false, false, false, false, false] rfl rfl (any_of HT_.out (by kernel_rfl)) (fun _ _ _ h => h) (Or.inr ⟨by rfl, rfl⟩) ?_ ?_
                    rotate_left
                    · simp only [Act.put, List.setIfInBounds_toArray, List.set_cons_zero, List.set_cons_succ, i64_w, i32_w]
                      rfl
                    refine pureP_ 47 (some 66) (bits_ 57 281474976710655) HT_ ?_
                    refine pureP_ 48 (some 67) (bits_ 57 562949953421311) HT_ ?_
                    refine pure_ (i := 49) (N := some 68) (v := undef) (a' := ?_) #[true, true, true, true, true, true, true, true, true, true, true, true, true, true, true, true, true, true, true, true, true, true, true, true, true, true, true, true, true, true, true, true, true, true, true, true, true, true, true, true, true, true, true, true, true, true, true, true, true, true, false, false, false, false, false, false, false] rfl rfl (any_of HT_.out (by kernel_rfl)) (fun _ _ _ h => h) (Or.inr ⟨by rfl, rfl⟩) ?_ ?_
                    rotate_left
                    · simp only [Act.put, List.setIfInBounds_toArray, List.set_cons_zero, List.set_cons_succ, i64_w, i32_w]
                      rfl
                    refine pure_ (i := 50) (N := some 69) (v := undef) (a' := ?_) #[true, true, true, true, true, true, true, true, true, true, true, true, true, true, true, true, true, true, true, true, true, true, true, true, true, true, true, true, true, true, true, true, true, true, true, true, true, true, true, true, true, true, true, true, true, true, true, true, true, true, true, false, false, false, false, false, false] rfl rfl (any_of HT_.out (by kernel_rfl)) (fun _ _ _ h => h) (Or.inr ⟨by rfl, rfl⟩) ?_ ?_
                    rotate_left
                    · simp only [Act.put, List.setIfInBounds_toArray, List.set_cons_zero, List.set_cons_succ, i64_w, i32_w]
                      rfl
                    refine pure_ (i := 51) (N := some 70) (v := undef) (a' := ?_) #[true, true, true, true, true, true, true, true, true, true, true, true, true, true, true, true, true, true, true, true, true, true, true, true, true, true, true, true, true, true, true, true, true, true, true, true, true, true, true, true, true, true, true, true, true, true, true, true, true, true, true, true, false, false, false, false, false] rfl rfl (any_of HT_.out (by kernel_rfl)) (fun _ _ _ h => h) (Or.inr ⟨by rfl, rfl⟩) ?_ ?_
                    rotate_left
                    · simp only [Act.put, List.setIfInBounds_toArray, List.set_cons_zero, List.set_cons_succ, i64_w, i32_w]
                      rfl
                    refine pure_ (i := 52) (N := some 71) (v := undef) (a' := ?_) #[true, true, true, true, true, true, true, true, true, true, true, true, true, true, true, true, true, true, true, true, true, true, true, true, true, true, true, true, true, true, true, true, true, true, true, true, true, true, true, true, true, true, true, true, true, true, true, true, true, true, true, true, true, false, false, false, false] rfl rfl (any_of HT_.out (by kernel_rfl)) (fun _ _ _ h => h) (Or.inr ⟨by rfl, rfl⟩) ?_ ?_
                    rotate_left
                    · simp only [Act.put, List.setIfInBounds_toArray, List.set_cons_zero, List.set_cons_succ, i64_w, i32_w]
                      rfl
                    refine pure_ (i := 53) (N := some 72) (v := undef) (a' := ?_) #[true, true, true, true, true, true, true, true, true, true, true, true, true, true, true, true, true, true, true, true, true, true, true, true, true, true, true, true, true, true, true, true, true, true, true, true, true, true, true, true, true, true, true, true, true, true, true, true, true, true, true, true, true, true, false, false, false] rfl rfl (any_of HT_.out (by kernel_rfl)) (fun _ _ _ h => h) (Or.inr ⟨by rfl, rfl⟩) ?_ ?_
                    rotate_left
                    · simp only [Act.put, List.setIfInBounds_toArray, List.set_cons_zero, List.set_cons_succ, i64_w, i32_w]
                      rfl
                    refine pure_ (i := 54) (N := some 73) (v := undef) (a' := ?_) #[true, true, true, true, true, true, true, true, true, true, true, true, true, true, true, true, true, true, true, true, true, true, true, true, true, true, true, true, true, true, true, true, true, true, true, true, true, true, true, true, true, true, true, true, true, true, true, true, true, true, true, true, true, true, true, false, false] rfl rfl (any_of HT_.out (by kernel_rfl)) (fun _ _ _ h => h) (Or.inr ⟨by rfl, rfl⟩) ?_ ?_
                    rotate_left
                    · simp only [Act.put, List.setIfInBounds_toArray, List.set_cons_zero, List.set_cons_succ, i64_w, i32_w]
                      rfl
                    refine pureP_ 55 (some 74) (bits_ 57 72057594037927935) HT_ ?_
                    refine pureP_ 56 (some 2) (bits_ 57 144115188075855871) HT_ ?_
                    refine done_ (done_of HT_.out (by kernel_rfl)) ?_
                    try go_wp2
                    go_ret
                    exact ⟨rfl_, bel_⟩
                · replace c20 := Bool.eq_false_iff.mpr c20
                  subst c20
                  rw [if_neg (show ¬ (false = true) by decide)] at H
                  by_cases c50 : (a0_4 == 0 && (a0_5 == 0 && (a0_6 == 0 && (a0_7 == 0)))) = true
                  · rw [if_pos c50] at H
                    have c50b0 : (a0_4 == 0 && (a0_5 == 0 && (a0_6 == 0 && (a0_7 == 0)))) = true := c50
                    (try (have c50b1 : decide (a0_4 = 0 && (a0_5 == 0 && (a0_6 == 0 && (a0_7 == 0)))) = true := by simpa using c50))
                    (try (have c50b2 : (a0_4 == 0 && (a0_5 == 0 && (a0_6 == 0 && (a0_7 == 0)))) = true := by simpa using c50))
                    clear c50
                    obtain ⟨t244, A51, H⟩ := bnd_ H
                    obtain ⟨t245, A52, H⟩ := bnd_ H
                    by_cases c53 : t245 = true
                    · subst c53
                      rw [if_pos rfl] at H
                      obtain ⟨t246, A54, H⟩ := bnd_ H
                      obtain ⟨t247, A55, H⟩ := bnd_ H
                      by_cases c56 : t247 = true
                      · subst c56
                        rw [if_pos rfl] at H
                        obtain ⟨t248, A57, H⟩ := bnd_ H
                        obtain ⟨t249, A58, H⟩ := bnd_ H
                        obtain rfl := Option.some.inj H
                        try go_wp2
                        replace BK228 := Aside0.mk (blk_drew BK228.out)
                        replace HB := Aside0.mk (below_drew1 HB.out)
                        refine start_ (n := 57) (S := fun w' => w'.cell? ⟨gb228, 0, none⟩ = some (.int .i64 a0_0) ∧ w'.cell? ⟨gb228, 1, none⟩ = some (.int .i64 a0_1) ∧ w'.cell? ⟨gb228, 2, none⟩ = some (.int .i64 a0_2) ∧ w'.cell? ⟨gb228, 3, none⟩ = some (.int .i64 a0_3) ∧ w'.cell? ⟨gb228, 4, none⟩ = some (.int .u64 a0_4) ∧ w'.cell? ⟨gb228, 5, none⟩ = some (.int .u64 a0_5) ∧ w'.cell? ⟨gb228, 6, none⟩ = some (.int .u64 a0_6) ∧ w'.cell? ⟨gb228, 7, none⟩ = some (.int .u64 a0_7) ∧ w'.cell? ⟨gb228, 8, none⟩ = some (.int .i64 a0_8) ∧ w'.cell? ⟨gb228, 9, none⟩ = some (.slice A0_9 l0_9.length c0_9) ∧ w'.cell? ⟨gb228, 10, none⟩ = some (.slice A0_10 l0_10.length c0_10)) (ds := []) #[false, false, false, false, false, false, false, false, false, false, false, false, false, false, false, false, false, false, false, false, false, false, false, false, false, false, false, false, false, false, false, false, false, false, false, false, false, false, false, false, false, false, false, false, false, false, false, false, false, false, false, false, false, false, false, false, false] (by kernel_rfl) rfl rfl (hc11_ BK228.out) (fun hHeld => ?_); refine with_tabW impl_WireOk.tab8 impl_WireOk.bits8 (fun HT_ HW_ => ?_)
                        generalize wr.drew = w59 at BK228 HB hHeld ⊢
                        refine pureP_ 0 (some 19) (bits_ 57 1) HT_ ?_
                        refine oneP_ 1 (some 20) (bits_ 57 3) HT_ (fun K hK => ?_)
                        refine goN_ Try.func28 #[.int .i64 a0_0, .int .i64 1, .int .i64 8] ?_
                        with_reducible refine (impl_in.calls a0_0 1 8 true _ A8.out).mono ?_
                        rintro e w' ⟨rfl, ⟨nd, rfl⟩⟩
                        refine ⟨_, rfl, ?_⟩
                        refine hK.out _ _ (hc11_ BK228.out) (fun hHeld => ?_)
                        clear hK K
                        refine normP_ (some 20) ?_
                        refine pureP_ 2 (some 21) (bits_ 57 7) HT_ ?_
                        refine pureP_ 3 (some 22) (bits_ 57 15) HT_ ?_
                        refine pureP_ 5 (some 24) (bits_ 57 47) HT_ ?_
                        refine takeP_ 6 (some 25) (bits_ 57 111) HT_ HW_ hHeld ?_
                        refine oneP_ 4 (some 23) (bits_ 57 127) HT_ (fun K hK => ?_)
                        refine goN_ Try.func30 #[.int .i64 a0_0, .int .u8 115] ?_
                        with_reducible refine (impl_has.calls k1 a0_0 115 t231 _ A10.out).mono ?_
                        rintro e w60 ⟨rfl, hb⟩
                        refine ⟨_, rfl, ?_⟩
                        replace BK228 := blkBel_ BK228.out hb
                        replace HB := stepB_ hb
                        (try clear hb)
                        refine hK.out _ _ (hc11_ BK228.out) (fun hHeld => ?_)
                        clear hK K
                        refine normP_ (some 23) ?_
                        refine oneP_ 7 (some 26) (bits_ 57 255) HT_ (fun K hK => ?_)
                        refine goN_ Try.func29 #[.bool t231, .int .i64 a0_1, .int .i64 1, .int .i64 1000000] ?_
                        with_reducible refine (impl_partOk.calls t231 a0_1 1 1000000 true _ A11.out).mono ?_
                        rintro e w' ⟨rfl, ⟨nd, rfl⟩⟩
                        refine ⟨_, rfl, ?_⟩
                        refine hK.out _ _ (hc11_ BK228.out) (fun hHeld => ?_)
                        clear hK K
                        refine normP_ (some 26) ?_
                        refine pureP_ 8 (some 27) (bits_ 57 511) HT_ ?_
                        refine pureP_ 9 (some 28) (bits_ 57 1023) HT_ ?_
                        refine pureP_ 10 (some 29) (bits_ 57 2047) HT_ ?_
                        refine pureP_ 12 (some 31) (bits_ 57 6143) HT_ ?_
                        refine takeP_ 13 (some 32) (bits_ 57 14335) HT_ HW_ hHeld ?_
                        refine oneP_ 11 (some 30) (bits_ 57 16383) HT_ (fun K hK => ?_)
                        refine goN_ Try.func30 #[.int .i64 a0_0, .int .u8 102] ?_
                        with_reducible refine (impl_has.calls k1 a0_0 102 t233 _ A13.out).mono ?_
                        rintro e w61 ⟨rfl, hb⟩
                        refine ⟨_, rfl, ?_⟩
                        replace BK228 := blkBel_ BK228.out hb
                        replace HB := stepB_ hb
                        (try clear hb)
                        refine hK.out _ _ (hc11_ BK228.out) (fun hHeld => ?_)
                        clear hK K
                        refine normP_ (some 30) ?_
                        refine oneP_ 14 (some 33) (bits_ 57 32767) HT_ (fun K hK => ?_)
                        refine goN_ Try.func29 #[.bool t233, .int .i64 a0_2, .int .i64 0, .int .i64 256] ?_
                        with_reducible refine (impl_partOk.calls t233 a0_2 0 256 true _ A14.out).mono ?_
                        rintro e w' ⟨rfl, ⟨nd, rfl⟩⟩
                        refine ⟨_, rfl, ?_⟩
                        refine hK.out _ _ (hc11_ BK228.out) (fun hHeld => ?_)
                        clear hK K
                        refine normP_ (some 33) ?_
                        refine pureP_ 15 (some 34) (bits_ 57 65535) HT_ ?_
                        refine pureP_ 16 (some 35) (bits_ 57 131071) HT_ ?_
                        refine pureP_ 17 (some 36) (bits_ 57 262143) HT_ ?_
                        refine pureP_ 19 (some 38) (bits_ 57 786431) HT_ ?_
                        refine takeP_ 20 (some 39) (bits_ 57 1835007) HT_ HW_ hHeld ?_
                        refine oneP_ 18 (some 37) (bits_ 57 2097151) HT_ (fun K hK => ?_)
                        refine goN_ Try.func30 #[.int .i64 a0_0, .int .u8 122] ?_
                        with_reducible refine (impl_has.calls k1 a0_0 122 t235 _ A16.out).mono ?_
                        rintro e w62 ⟨rfl, hb⟩
                        refine ⟨_, rfl, ?_⟩
                        replace BK228 := blkBel_ BK228.out hb
                        replace HB := stepB_ hb
                        (try clear hb)
                        refine hK.out _ _ (hc11_ BK228.out) (fun hHeld => ?_)
                        clear hK K
                        refine normP_ (some 37) ?_
                        refine oneP_ 21 (some 40) (bits_ 57 4194303) HT_ (fun K hK => ?_)
                        refine goN_ Try.func29 #[.bool t235, .int .i64 a0_3, .int .i64 0, .int .i64 256] ?_
                        with_reducible refine (impl_partOk.calls t235 a0_3 0 256 true _ A17.out).mono ?_
                        rintro e w' ⟨rfl, ⟨nd, rfl⟩⟩
                        refine ⟨_, rfl, ?_⟩
                        refine hK.out _ _ (hc11_ BK228.out) (fun hHeld => ?_)
                        clear hK K
                        refine normP_ (some 40) ?_
                        refine pureP_ 22 (some 41) (bits_ 57 8388607) HT_ ?_
                        refine pureP_ 23 (some 42) (bits_ 57 16777215) HT_ ?_
                        refine pureP_ 24 (some 43) (bits_ 57 33554431) HT_ ?_
                        refine oneP_ 25 (some 44) (bits_ 57 67108863) HT_ (fun K hK => ?_)
                        refine goN_ Try.func30 #[.int .i64 a0_0, .int .u8 114] ?_
                        with_reducible refine (impl_has.calls k1 a0_0 114 false _ A19.out).mono ?_
                        rintro e w63 ⟨rfl, hb⟩
                        refine ⟨_, rfl, ?_⟩
                        replace BK228 := blkBel_ BK228.out hb
                        replace HB := stepB_ hb
                        (try clear hb)
                        refine hK.out _ _ (hc11_ BK228.out) (fun hHeld => ?_)
                        clear hK K
                        refine normP_ (some 44) ?_
                        refine pureP_ 26 (some 45) (bits_ 57 134217727) HT_ ?_
                        refine pureP_ 27 (some 46) (bits_ 57 268435455) HT_ ?_
                        refine pureP_ 29 (some 48) (bits_ 57 805306367) HT_ ?_
                        refine takeP_ 28 (some 47) (bits_ 57 1073741823) HT_ HW_ hHeld ?_
                        refine pureP_ 30 (some 49) (bits_ 57 2147483647) HT_ ?_
                        refine pureP_ 31 (some 50) (bits_ 57 4294967295) HT_ ?_
                        refine pureP_ 32 (some 51) (bits_ 57 8589934591) HT_ ?_
                        refine pureP_ 33 (some 52) (bits_ 57 17179869183) HT_ ?_
                        refine pureP_ 34 (some 53) (bits_ 57 34359738367) HT_ ?_
                        refine pureP_ 36 (some 55) (bits_ 57 103079215103) HT_ ?_
                        refine takeP_ 37 (some 56) (bits_ 57 240518168575) HT_ HW_ hHeld ?_
                        refine oneP_ 35 (some 54) (bits_ 57 274877906943) HT_ (fun K hK => ?_)
                        refine goN_ Try.func30 #[.int .i64 a0_0, .int .u8 99] ?_
                        with_reducible refine (impl_has.calls k1 a0_0 99 t244 _ A51.out).mono ?_
                        rintro e w64 ⟨rfl, hb⟩
                        refine ⟨_, rfl, ?_⟩
                        replace BK228 := blkBel_ BK228.out hb
                        replace HB := stepB_ hb
                        (try clear hb)
                        refine hK.out _ _ (hc11_ BK228.out) (fun hHeld => ?_)
                        clear hK K
                        refine normP_ (some 54) ?_
                        refine oneP_ 38 (some 57) (bits_ 57 549755813887) HT_ (fun K hK => ?_)
                        refine goN_ Try.func29 #[.bool t244, .int .i64 a0_8, .int .i64 1, .int .i64 8] ?_
                        with_reducible refine (impl_partOk.calls t244 a0_8 1 8 true _ A52.out).mono ?_
                        rintro e w' ⟨rfl, ⟨nd, rfl⟩⟩
                        refine ⟨_, rfl, ?_⟩
                        refine hK.out _ _ (hc11_ BK228.out) (fun hHeld => ?_)
                        clear hK K
                        refine normP_ (some 57) ?_
                        refine pureP_ 39 (some 58) (bits_ 57 1099511627775) HT_ ?_
                        refine pureP_ 40 (some 59) (bits_ 57 2199023255551) HT_ ?_
                        refine pureP_ 41 (some 60) (bits_ 57 4398046511103) HT_ ?_
                        refine pureP_ 43 (some 62) (bits_ 57 13194139533311) HT_ ?_
                        refine takeP_ 44 (some 63) (bits_ 57 30786325577727) HT_ HW_ hHeld ?_
                        refine pureP_ 45 (some 64) (bits_ 57 65970697666559) HT_ ?_
                        refine oneP_ 42 (some 61) (bits_ 57 70368744177663) HT_ (fun K hK => ?_)
                        refine goN_ Try.func30 #[.int .i64 a0_0, .int .u8 112] ?_
                        with_reducible refine (impl_has.calls k1 a0_0 112 t246 _ A54.out).mono ?_
                        rintro e w65 ⟨rfl, hb⟩
                        refine ⟨_, rfl, ?_⟩
                        replace BK228 := blkBel_ BK228.out hb
                        replace HB := stepB_ hb
                        (try clear hb)
                        refine hK.out _ _ (hc11_ BK228.out) (fun hHeld => ?_)
                        clear hK K
                        refine normP_ (some 61) ?_
                        refine oneP_ 46 (some 65) (bits_ 57 140737488355327) HT_ (fun K hK => ?_)
                        refine goN_ Try.func29 #[.bool t246, .int .i64 (l0_9.length : Int), .int .i64 0, .int .i64 16] ?_
                        with_reducible refine (impl_partOk.calls t246 (l0_9.length : Int) 0 16 true _ A55.out).mono ?_
                        rintro e w' ⟨rfl, ⟨nd, rfl⟩⟩
                        refine ⟨_, rfl, ?_⟩
                        refine hK.out _ _ (hc11_ BK228.out) (fun hHeld => ?_)
                        clear hK K
                        refine normP_ (some 65) ?_
                        refine pureP_ 47 (some 66) (bits_ 57 281474976710655) HT_ ?_
                        refine pureP_ 48 (some 67) (bits_ 57 562949953421311) HT_ ?_
                        refine pureP_ 49 (some 68) (bits_ 57 1125899906842623) HT_ ?_
                        refine pureP_ 51 (some 70) (bits_ 57 3377699720527871) HT_ ?_
                        refine takeP_ 52 (some 71) (bits_ 57 7881299347898367) HT_ HW_ hHeld ?_
                        refine pureP_ 53 (some 72) (bits_ 57 16888498602639359) HT_ ?_
                        refine oneP_ 50 (some 69) (bits_ 57 18014398509481983) HT_ (fun K hK => ?_)
                        refine goN_ Try.func30 #[.int .i64 a0_0, .int .u8 108] ?_
                        with_reducible refine (impl_has.calls k1 a0_0 108 t248 _ A57.out).mono ?_
                        rintro e w66 ⟨rfl, hb⟩
                        refine ⟨_, rfl, ?_⟩
                        replace BK228 := blkBel_ BK228.out hb
                        replace HB := stepB_ hb
                        (try clear hb)
                        refine hK.out _ _ (hc11_ BK228.out) (fun hHeld => ?_)
                        clear hK K
                        refine normP_ (some 69) ?_
                        refine oneP_ 54 (some 73) (bits_ 57 36028797018963967) HT_ (fun K hK => ?_)
                        refine goN_ Try.func29 #[.bool t248, .int .i64 (l0_10.length : Int), .int .i64 0, .int .i64 8] ?_
                        with_reducible refine (impl_partOk.calls t248 (l0_10.length : Int) 0 8 t249 _ A58.out).mono ?_
                        rintro e w' ⟨rfl, ⟨nd, rfl⟩⟩
                        refine ⟨_, rfl, ?_⟩
                        refine hK.out _ _ (hc11_ BK228.out) (fun hHeld => ?_)
                        clear hK K
                        refine normP_ (some 73) ?_
                        refine pureP_ 55 (some 74) (bits_ 57 72057594037927935) HT_ ?_
                        refine pureP_ 56 (some 2) (bits_ 57 144115188075855871) HT_ ?_
                        refine done_ (done_of HT_.out (by kernel_rfl)) ?_
                        try go_wp2
                        go_ret
                        exact ⟨rfl_, bel_⟩
                      · replace c56 := Bool.eq_false_iff.mpr c56
                        subst c56
                        rw [if_neg (show ¬ (false = true) by decide)] at H
                        obtain rfl := Option.some.inj H
                        try go_wp2
                        replace BK228 := Aside0.mk (blk_drew BK228.out)
                        replace HB := Aside0.mk (below_drew1 HB.out)
                        refine start_ (n := 57) (S := fun w' => w'.cell? ⟨gb228, 0, none⟩ = some (.int .i64 a0_0) ∧ w'.cell? ⟨gb228, 1, none⟩ = some (.int .i64 a0_1) ∧ w'.cell? ⟨gb228, 2, none⟩ = some (.int .i64 a0_2) ∧ w'.cell? ⟨gb228, 3, none⟩ = some (.int .i64 a0_3) ∧ w'.cell? ⟨gb228, 4, none⟩ = some (.int .u64 a0_4) ∧ w'.cell? ⟨gb228, 5, none⟩ = some (.int .u64 a0_5) ∧ w'.cell? ⟨gb228, 6, none⟩ = some (.int .u64 a0_6) ∧ w'.cell? ⟨gb228, 7, none⟩ = some (.int .u64 a0_7) ∧ w'.cell? ⟨gb228, 8, none⟩ = some (.int .i64 a0_8) ∧ w'.cell? ⟨gb228, 9, none⟩ = some (.slice A0_9 l0_9.length c0_9) ∧ w'.cell? ⟨gb228, 10, none⟩ = some (.slice A0_10 l0_10.length c0_10)) (ds := []) #[false, false, false, false, false, false, false, false, false, false, false, false, false, false, false, false, false, false, false, false, false, false, false, false, false, false, false, false, false, false, false, false, false, false, false, false, false, false, false, false, false, false, false, false, false, false, false, false, false, false, false, false, false, false, false, false, false] (by kernel_rfl) rfl rfl (hc11_ BK228.out) (fun hHeld => ?_); refine with_tabW impl_WireOk.tab8 impl_WireOk.bits8 (fun HT_ HW_ => ?_)
                        generalize wr.drew = w67 at BK228 HB hHeld ⊢
                        refine pureP_ 0 (some 19) (bits_ 57 1) HT_ ?_
                        refine oneP_ 1 (some 20) (bits_ 57 3) HT_ (fun K hK => ?_)
                        refine goN_ Try.func28 #[.int .i64 a0_0, .int .i64 1, .int .i64 8] ?_
                        with_reducible refine (impl_in.calls a0_0 1 8 true _ A8.out).mono ?_
                        rintro e w' ⟨rfl, ⟨nd, rfl⟩⟩
                        refine ⟨_, rfl, ?_⟩
                        refine hK.out _ _ (hc11_ BK228.out) (fun hHeld => ?_)
                        clear hK K
                        refine normP_ (some 20) ?_
                        refine pureP_ 2 (some 21) (bits_ 57 7) HT_ ?_
                        refine pureP_ 3 (some 22) (bits_ 57 15) HT_ ?_
                        refine pureP_ 5 (some 24) (bits_ 57 47) HT_ ?_
                        refine takeP_ 6 (some 25) (bits_ 57 111) HT_ HW_ hHeld ?_
                        refine oneP_ 4 (some 23) (bits_ 57 127) HT_ (fun K hK => ?_)
                        refine goN_ Try.func30 #[.int .i64 a0_0, .int .u8 115] ?_
                        with_reducible refine (impl_has.calls k1 a0_0 115 t231 _ A10.out).mono ?_
                        rintro e w68 ⟨rfl, hb⟩
                        refine ⟨_, rfl, ?_⟩
                        replace BK228 := blkBel_ BK228.out hb
                        replace HB := stepB_ hb
                        (try clear hb)
                        refine hK.out _ _ (hc11_ BK228.out) (fun hHeld => ?_)
                        clear hK K
                        refine normP_ (some 23) ?_
                        refine oneP_ 7 (some 26) (bits_ 57 255) HT_ (fun K hK => ?_)
                        refine goN_ Try.func29 #[.bool t231, .int .i64 a0_1, .int .i64 1, .int .i64 1000000] ?_
                        with_reducible refine (impl_partOk.calls t231 a0_1 1 1000000 true _ A11.out).mono ?_
                        rintro e w' ⟨rfl, ⟨nd, rfl⟩⟩
                        refine ⟨_, rfl, ?_⟩
                        refine hK.out _ _ (hc11_ BK228.out) (fun hHeld => ?_)
                        clear hK K
                        refine normP_ (some 26) ?_
                        refine pureP_ 8 (some 27) (bits_ 57 511) HT_ ?_
                        refine pureP_ 9 (some 28) (bits_ 57 1023) HT_ ?_
                        refine pureP_ 10 (some 29) (bits_ 57 2047) HT_ ?_
                        refine pureP_ 12 (some 31) (bits_ 57 6143) HT_ ?_
                        refine takeP_ 13 (some 32) (bits_ 57 14335) HT_ HW_ hHeld ?_
                        refine oneP_ 11 (some 30) (bits_ 57 16383) HT_ (fun K hK => ?_)
                        refine goN_ Try.func30 #[.int .i64 a0_0, .int .u8 102] ?_
                        with_reducible refine (impl_has.calls k1 a0_0 102 t233 _ A13.out).mono ?_
                        rintro e w69 ⟨rfl, hb⟩
                        refine ⟨_, rfl, ?_⟩
                        replace BK228 := blkBel_ BK228.out hb
                        replace HB := stepB_ hb
                        (try clear hb)
                        refine hK.out _ _ (hc11_ BK228.out) (fun hHeld => ?_)
                        clear hK K
                        refine normP_ (some 30) ?_
                        refine oneP_ 14 (some 33) (bits_ 57 32767) HT_ (fun K hK => ?_)
                        refine goN_ Try.func29 #[.bool t233, .int .i64 a0_2, .int .i64 0, .int .i64 256] ?_
                        with_reducible refine (impl_partOk.calls t233 a0_2 0 256 true _ A14.out).mono ?_
                        rintro e w' ⟨rfl, ⟨nd, rfl⟩⟩
                        refine ⟨_, rfl, ?_⟩
                        refine hK.out _ _ (hc11_ BK228.out) (fun hHeld => ?_)
                        clear hK K
                        refine normP_ (some 33) ?_
                        refine pureP_ 15 (some 34) (bits_ 57 65535) HT_ ?_
                        refine pureP_ 16 (some 35) (bits_ 57 131071) HT_ ?_
                        refine pureP_ 17 (some 36) (bits_ 57 262143) HT_ ?_
                        refine pureP_ 19 (some 38) (bits_ 57 786431) HT_ ?_
                        refine takeP_ 20 (some 39) (bits_ 57 1835007) HT_ HW_ hHeld ?_
                        refine oneP_ 18 (some 37) (bits_ 57 2097151) HT_ (fun K hK => ?_)
                        refine goN_ Try.func30 #[.int .i64 a0_0, .int .u8 122] ?_
                        with_reducible refine (impl_has.calls k1 a0_0 122 t235 _ A16.out).mono ?_
                        rintro e w70 ⟨rfl, hb⟩
                        refine ⟨_, rfl, ?_⟩
                        replace BK228 := blkBel_ BK228.out hb
                        replace HB := stepB_ hb
                        (try clear hb)
                        refine hK.out _ _ (hc11_ BK228.out) (fun hHeld => ?_)
                        clear hK K
                        refine normP_ (some 37) ?_
                        refine oneP_ 21 (some 40) (bits_ 57 4194303) HT_ (fun K hK => ?_)
                        refine goN_ Try.func29 #[.bool t235, .int .i64 a0_3, .int .i64 0, .int .i64 256] ?_
                        with_reducible refine (impl_partOk.calls t235 a0_3 0 256 true _ A17.out).mono ?_
                        rintro e w' ⟨rfl, ⟨nd, rfl⟩⟩
                        refine ⟨_, rfl, ?_⟩
                        refine hK.out _ _ (hc11_ BK228.out) (fun hHeld => ?_)
                        clear hK K
                        refine normP_ (some 40) ?_
                        refine pureP_ 22 (some 41) (bits_ 57 8388607) HT_ ?_
                        refine pureP_ 23 (some 42) (bits_ 57 16777215) HT_ ?_
                        refine pureP_ 24 (some 43) (bits_ 57 33554431) HT_ ?_
                        refine oneP_ 25 (some 44) (bits_ 57 67108863) HT_ (fun K hK => ?_)
                        refine goN_ Try.func30 #[.int .i64 a0_0, .int .u8 114] ?_
                        with_reducible refine (impl_has.calls k1 a0_0 114 false _ A19.out).mono ?_
                        rintro e w71 ⟨rfl, hb⟩
                        refine ⟨_, rfl, ?_⟩
                        replace BK228 := blkBel_ BK228.out hb
                        replace HB := stepB_ hb
                        (try clear hb)
                        refine hK.out _ _ (hc11_ BK228.out) (fun hHeld => ?_)
                        clear hK K
                        refine normP_ (some 44) ?_
                        refine pureP_ 26 (some 45) (bits_ 57 134217727) HT_ ?_
                        refine pureP_ 27 (some 46) (bits_ 57 268435455) HT_ ?_
                        refine pureP_ 29 (some 48) (bits_ 57 805306367) HT_ ?_
                        refine takeP_ 28 (some 47) (bits_ 57 1073741823) HT_ HW_ hHeld ?_
                        refine pureP_ 30 (some 49) (bits_ 57 2147483647) HT_ ?_
                        refine pureP_ 31 (some 50) (bits_ 57 4294967295) HT_ ?_
                        refine pureP_ 32 (some 51) (bits_ 57 8589934591) HT_ ?_
                        refine pureP_ 33 (some 52) (bits_ 57 17179869183) HT_ ?_
                        refine pureP_ 34 (some 53) (bits_ 57 34359738367) HT_ ?_
                        refine pureP_ 36 (some 55) (bits_ 57 103079215103) HT_ ?_
                        refine takeP_ 37 (some 56) (bits_ 57 240518168575) HT_ HW_ hHeld ?_
                        refine oneP_ 35 (some 54) (bits_ 57 274877906943) HT_ (fun K hK => ?_)
                        refine goN_ Try.func30 #[.int .i64 a0_0, .int .u8 99] ?_
                        with_reducible refine (impl_has.calls k1 a0_0 99 t244 _ A51.out).mono ?_
                        rintro e w72 ⟨rfl, hb⟩
                        refine ⟨_, rfl, ?_⟩
                        replace BK228 := blkBel_ BK228.out hb
                        replace HB := stepB_ hb
                        (try clear hb)
                        refine hK.out _ _ (hc11_ BK228.out) (fun hHeld => ?_)
                        clear hK K
                        refine normP_ (some 54) ?_
                        refine oneP_ 38 (some 57) (bits_ 57 549755813887) HT_ (fun K hK => ?_)
                        refine goN_ Try.func29 #[.bool t244, .int .i64 a0_8, .int .i64 1, .int .i64 8] ?_
                        with_reducible refine (impl_partOk.calls t244 a0_8 1 8 true _ A52.out).mono ?_
                        rintro e w' ⟨rfl, ⟨nd, rfl⟩⟩
                        refine ⟨_, rfl, ?_⟩
                        refine hK.out _ _ (hc11_ BK228.out) (fun hHeld => ?_)
                        clear hK K
                        refine normP_ (some 57) ?_
                        refine pureP_ 39 (some 58) (bits_ 57 1099511627775) HT_ ?_
                        refine pureP_ 40 (some 59) (bits_ 57 2199023255551) HT_ ?_
                        refine pureP_ 41 (some 60) (bits_ 57 4398046511103) HT_ ?_
                        refine pureP_ 43 (some 62) (bits_ 57 13194139533311) HT_ ?_
                        refine takeP_ 44 (some 63) (bits_ 57 30786325577727) HT_ HW_ hHeld ?_
                        refine pureP_ 45 (some 64) (bits_ 57 65970697666559) HT_ ?_
                        refine oneP_ 42 (some 61) (bits_ 57 70368744177663) HT_ (fun K hK => ?_)
                        refine goN_ Try.func30 #[.int .i64 a0_0, .int .u8 112] ?_
                        with_reducible refine (impl_has.calls k1 a0_0 112 t246 _ A54.out).mono ?_
                        rintro e w73 ⟨rfl, hb⟩
                        refine ⟨_, rfl, ?_⟩
                        replace BK228 := blkBel_ BK228.out hb
                        replace HB := stepB_ hb
                        (try clear hb)
                        refine hK.out _ _ (hc11_ BK228.out) (fun hHeld => ?_)
                        clear hK K
                        refine normP_ (some 61) ?_
                        refine oneP_ 46 (some 65) (bits_ 57 140737488355327) HT_ (fun K hK => ?_)
                        refine goN_ Try.func29 #[.bool t246, .int .i64 (l0_9.length : Int), .int .i64 0, .int .i64 16] ?_
                        with_reducible refine (impl_partOk.calls t246 (l0_9.length : Int) 0 16 false _ A55.out).mono ?_
                        rintro e w' ⟨rfl, ⟨nd, rfl⟩⟩
                        refine ⟨_, rfl, ?_⟩
                        refine hK.out _ _ (hc11_ BK228.out) (fun hHeld => ?_)
                        clear hK K
                        refine normP_ (some 65) ?_
                        refine pureP_ 47 (some 66) (bits_ 57 281474976710655) HT_ ?_
                        refine pureP_ 48 (some 67) (bits_ 57 562949953421311) HT_ ?_
                        refine pure_ (i := 49) (N := some 68) (v := undef) (a' := ?_) #[true, true, true, true, true, true, true, true, true, true, true, true, true, true, true, true, true, true, true, true, true, true, true, true, true, true, true, true, true, true, true, true, true, true, true, true, true, true, true, true, true, true, true, true, true, true, true, true, true, true, false, false, false, false, false, false, false] rfl rfl (any_of HT_.out (by kernel_rfl)) (fun _ _ _ h => h) (Or.inr ⟨by rfl, rfl⟩) ?_ ?_
                        rotate_left
                        · simp only [Act.put, List.setIfInBounds_toArray, List.set_cons_zero, List.set_cons_succ, i64_w, i32_w]
                          rfl
                        refine pure_ (i := 50) (N := some 69) (v := undef) (a' := ?_) #[true, true, true, true, true, true, true, true, true, true, true, true, true, true, true, true, true, true, true, true, true, true, true, true, true, true, true, true, true, true, true, true, true, true, true, true, true, true, true, true, true, true, true, true, true, true, true, true, true, true, true, false, false, false, false, false, false] rfl rfl (any_of HT_.out (by kernel_rfl)) (fun _ _ _ h => h) (Or.inr ⟨by rfl, rfl⟩) ?_ ?_
                        rotate_left
                        · simp only [Act.put, List.setIfInBounds_toArray, List.set_cons_zero, List.set_cons_succ, i64_w, i32_w]
                          rfl
                        refine pure_ (i := 51) (N := some 70) (v := undef) (a' := ?_) #[true, true, true, true, true, true, true, true, true, true, true, true, true, true, true, true, true, true, true, true, true, true, true, true, true, true, true, true, true, true, true, true, true, true, true, true, true, true, true, true, true, true, true, true, true, true, true, true, true, true, true, true, false, false, false, false, false] rfl rfl (any_of HT_.out (by kernel_rfl)) (fun _ _ _ h => h) (Or.inr ⟨by rfl, rfl⟩) ?_ ?_
                        rotate_left
                        · simp only [Act.put, List.setIfInBounds_toArray, List.set_cons_zero, List.set_cons_succ, i64_w, i32_w]
                          rfl
                        refine pure_ (i := 52) (N := some 71) (v := undef) (a' := ?_) #[true, true, true, true, true, true, true, true, true, true, true, true, true, true, true, true, true, true, true, true, true, true, true, true, true, true, true, true, true, true, true, true, true, true, true, true, true, true, true, true, true, true, true, true, true, true, true, true, true, true, true, true, true, false, false, false, false] rfl rfl (any_of HT_.out (by kernel_rfl)) (fun _ _ _ h => h) (Or.inr ⟨by rfl, rfl⟩) ?_ ?_
                        rotate_left
                        · simp only [Act.put, List.setIfInBounds_toArray, List.set_cons_zero, List.set_cons_succ, i64_w, i32_w]
                          rfl
                        refine pure_ (i := 53) (N := some 72) (v := undef) (a' := ?_) #[true, true, true, true, true, true, true, true, true, true, true, true, true, true, true, true, true, true, true, true, true, true, true, true, true, true, true, true, true, true, true, true, true, true, true, true, true, true, true, true, true, true, true, true, true, true, true, true, true, true, true, true, true, true, false, false, false] rfl rfl (any_of HT_.out (by kernel_rfl)) (fun _ _ _ h => h) (Or.inr ⟨by rfl, rfl⟩) ?_ ?_
                        rotate_left
                        · simp only [Act.put, List.setIfInBounds_toArray, List.set_cons_zero, List.set_cons_succ, i64_w, i32_w]
                          rfl
                        refine pure_ (i := 54) (N := some 73) (v := undef) (a' := ?_) #[true, true, true, true, true, true, true, true, true, true, true, true, true, true, true, true, true, true, true, true, true, true, true, true, true, true, true, true, true, true, true, true, true, true, true, true, true, true, true, true, true, true, true, true, true, true, true, true, true, true, true, true, true, true, true, false, false] rfl rfl (any_of HT_.out (by kernel_rfl)) (fun _ _ _ h => h) (Or.inr ⟨by rfl, rfl⟩) ?_ ?_
                        rotate_left
                        · simp only [Act.put, List.setIfInBounds_toArray, List.set_cons_zero, List.set_cons_succ, i64_w, i32_w]
                          rfl
                        refine pureP_ 55 (some 74) (bits_ 57 72057594037927935) HT_ ?_
                        refine pureP_ 56 (some 2) (bits_ 57 144115188075855871) HT_ ?_
                        refine done_ (done_of HT_.out (by kernel_rfl)) ?_
                        try go_wp2
                        go_ret
                        exact ⟨rfl_, bel_⟩
                    · replace c53 := Bool.eq_false_iff.mpr c53
                      subst c53
                      rw [if_neg (show ¬ (false = true) by decide)] at H
                      obtain rfl := Option.some.inj H
                      try go_wp2
                      replace BK228 := Aside0.mk (blk_drew BK228.out)
                      replace HB := Aside0.mk (below_drew1 HB.out)
                      refine start_ (n := 57) (S := fun w' => w'.cell? ⟨gb228, 0, none⟩ = some (.int .i64 a0_0) ∧ w'.cell? ⟨gb228, 1, none⟩ = some (.int .i64 a0_1) ∧ w'.cell? ⟨gb228, 2, none⟩ = some (.int .i64 a0_2) ∧ w'.cell? ⟨gb228, 3, none⟩ = some (.int .i64 a0_3) ∧ w'.cell? ⟨gb228, 4, none⟩ = some (.int .u64 a0_4) ∧ w'.cell? ⟨gb228, 5, none⟩ = some (.int .u64 a0_5) ∧ w'.cell? ⟨gb228, 6, none⟩ = some (.int .u64 a0_6) ∧ w'.cell? ⟨gb228, 7, none⟩ = some (.int .u64 a0_7) ∧ w'.cell? ⟨gb228, 8, none⟩ = some (.int .i64 a0_8) ∧ w'.cell? ⟨gb228, 9, none⟩ = some (.slice A0_9 l0_9.length c0_9) ∧ w'.cell? ⟨gb228, 10, none⟩ = some (.slice A0_10 l0_10.length c0_10)) (ds := []) #[false, false, false, false, false, false, false, false, false, false, false, false, false, false, false, false, false, false, false, false, false, false, false, false, false, false, false, false, false, false, false, false, false, false, false, false, false, false, false, false, false, false, false, false, false, false, false, false, false, false, false, false, false, false, false, false, false] (by kernel_rfl) rfl rfl (hc11_ BK228.out) (fun hHeld => ?_); refine with_tabW impl_WireOk.tab8 impl_WireOk.bits8 (fun HT_ HW_ => ?_)
                      generalize wr.drew = w74 at BK228 HB hHeld ⊢
                      refine pureP_ 0 (some 19) (bits_ 57 1) HT_ ?_
                      refine oneP_ 1 (some 20) (bits_ 57 3) HT_ (fun K hK => ?_)
                      refine goN_ Try.func28 #[.int .i64 a0_0, .int .i64 1, .int .i64 8] ?_
                      with_reducible refine (impl_in.calls a0_0 1 8 true _ A8.out).mono ?_
                      rintro e w' ⟨rfl, ⟨nd, rfl⟩⟩
                      refine ⟨_, rfl, ?_⟩
                      refine hK.out _ _ (hc11_ BK228.out) (fun hHeld => ?_)
                      clear hK K
                      refine normP_ (some 20) ?_
                      refine pureP_ 2 (some 21) (bits_ 57 7) HT_ ?_
                      refine pureP_ 3 (some 22) (bits_ 57 15) HT_ ?_
                      refine pureP_ 5 (some 24) (bits_ 57 47) HT_ ?_
                      refine takeP_ 6 (some 25) (bits_ 57 111) HT_ HW_ hHeld ?_
                      refine oneP_ 4 (some 23) (bits_ 57 127) HT_ (fun K hK => ?_)
                      refine goN_ Try.func30 #[.int .i64 a0_0, .int .u8 115] ?_
                      with_reducible refine (impl_has.calls k1 a0_0 115 t231 _ A10.out).mono ?_
                      rintro e w75 ⟨rfl, hb⟩
                      refine ⟨_, rfl, ?_⟩
                      replace BK228 := blkBel_ BK228.out hb
                      replace HB := stepB_ hb
                      (try clear hb)
                      refine hK.out _ _ (hc11_ BK228.out) (fun hHeld => ?_)
                      clear hK K
                      refine normP_ (some 23) ?_
                      refine oneP_ 7 (some 26) (bits_ 57 255) HT_ (fun K hK => ?_)
                      refine goN_ Try.func29 #[.bool t231, .int .i64 a0_1, .int .i64 1, .int .i64 1000000] ?_
                      with_reducible refine (impl_partOk.calls t231 a0_1 1 1000000 true _ A11.out).mono ?_
                      rintro e w' ⟨rfl, ⟨nd, rfl⟩⟩
                      refine ⟨_, rfl, ?_⟩
                      refine hK.out _ _ (hc11_ BK228.out) (fun hHeld => ?_)
                      clear hK K
                      refine normP_ (some 26) ?_
                      refine pureP_ 8 (some 27) (bits_ 57 511) HT_ ?_
                      refine pureP_ 9 (some 28) (bits_ 57 1023) HT_ ?_
                      refine pureP_ 10 (some 29) (bits_ 57 2047) HT_ ?_
                      refine pureP_ 12 (some 31) (bits_ 57 6143) HT_ ?_
                      refine takeP_ 13 (some 32) (bits_ 57 14335) HT_ HW_ hHeld ?_
                      refine oneP_ 11 (some 30) (bits_ 57 16383) HT_ (fun K hK => ?_)
                      refine goN_ Try.func30 #[.int .i64 a0_0, .int .u8 102] ?_
                      with_reducible refine (impl_has.calls k1 a0_0 102 t233 _ A13.out).mono ?_
                      rintro e w76 ⟨rfl, hb⟩
                      refine ⟨_, rfl, ?_⟩
                      replace BK228 := blkBel_ BK228.out hb
                      replace HB := stepB_ hb
                      (try clear hb)
                      refine hK.out _ _ (hc11_ BK228.out) (fun hHeld => ?_)
                      clear hK K
                      refine normP_ (some 30) ?_
                      refine oneP_ 14 (some 33) (bits_ 57 32767) HT_ (fun K hK => ?_)
                      refine goN_ Try.func29 #[.bool t233, .int .i64 a0_2, .int .i64 0, .int .i64 256] ?_
                      with_reducible refine (impl_partOk.calls t233 a0_2 0 256 true _ A14.out).mono ?_
                      rintro e w' ⟨rfl, ⟨nd, rfl⟩⟩
                      refine ⟨_, rfl, ?_⟩
                      refine hK.out _ _ (hc11_ BK228.out) (fun hHeld => ?_)
                      clear hK K
                      refine normP_ (some 33) ?_
                      refine pureP_ 15 (some 34) (bits_ 57 65535) HT_ ?_
                      refine pureP_ 16 (some 35) (bits_ 57 131071) HT_ ?_
                      refine pureP_ 17 (some 36) (bits_ 57 262143) HT_ ?_
                      refine pureP_ 19 (some 38) (bits_ 57 786431) HT_ ?_
                      refine takeP_ 20 (some 39) (bits_ 57 1835007) HT_ HW_ hHeld ?_
                      refine oneP_ 18 (some 37) (bits_ 57 2097151) HT_ (fun K hK => ?_)
                      refine goN_ Try.func30 #[.int .i64 a0_0, .int .u8 122] ?_
                      with_reducible refine (impl_has.calls k1 a0_0 122 t235 _ A16.out).mono ?_
                      rintro e w77 ⟨rfl, hb⟩
                      refine ⟨_, rfl, ?_⟩
                      replace BK228 := blkBel_ BK228.out hb
                      replace HB := stepB_ hb
                      (try clear hb)
                      refine hK.out _ _ (hc11_ BK228.out) (fun hHeld => ?_)
                      clear hK K
                      refine normP_ (some 37) ?_
                      refine oneP_ 21 (some 40) (bits_ 57 4194303) HT_ (fun K hK => ?_)
                      refine goN_ Try.func29 #[.bool t235, .int .i64 a0_3, .int .i64 0, .int .i64 256] ?_
                      with_reducible refine (impl_partOk.calls t235 a0_3 0 256 true _ A17.out).mono ?_
                      rintro e w' ⟨rfl, ⟨nd, rfl⟩⟩
                      refine ⟨_, rfl, ?_⟩
                      refine hK.out _ _ (hc11_ BK228.out) (fun hHeld => ?_)
                      clear hK K
                      refine normP_ (some 40) ?_
                      refine pureP_ 22 (some 41) (bits_ 57 8388607) HT_ ?_
                      refine pureP_ 23 (some 42) (bits_ 57 16777215) HT_ ?_
                      refine pureP_ 24 (some 43) (bits_ 57 33554431) HT_ ?_
                      refine oneP_ 25 (some 44) (bits_ 57 67108863) HT_ (fun K hK => ?_)
                      refine goN_ Try.func30 #[.int .i64 a0_0, .int .u8 114] ?_
                      with_reducible refine (impl_has.calls k1 a0_0 114 false _ A19.out).mono ?_
                      rintro e w78 ⟨rfl, hb⟩
                      refine ⟨_, rfl, ?_⟩
                      replace BK228 := blkBel_ BK228.out hb
                      replace HB := stepB_ hb
                      (try clear hb)
                      refine hK.out _ _ (hc11_ BK228.out) (fun hHeld => ?_)
                      clear hK K
                      refine normP_ (some 44) ?_
                      refine pureP_ 26 (some 45) (bits_ 57 134217727) HT_ ?_
                      refine pureP_ 27 (some 46) (bits_ 57 268435455) HT_ ?_
                      refine pureP_ 29 (some 48) (bits_ 57 805306367) HT_ ?_
                      refine takeP_ 28 (some 47) (bits_ 57 1073741823) HT_ HW_ hHeld ?_
                      refine pureP_ 30 (some 49) (bits_ 57 2147483647) HT_ ?_
                      refine pureP_ 31 (some 50) (bits_ 57 4294967295) HT_ ?_
                      refine pureP_ 32 (some 51) (bits_ 57 8589934591) HT_ ?_
                      refine pureP_ 33 (some 52) (bits_ 57 17179869183) HT_ ?_
                      refine pureP_ 34 (some 53) (bits_ 57 34359738367) HT_ ?_
                      refine pureP_ 36 (some 55) (bits_ 57 103079215103) HT_ ?_
                      refine takeP_ 37 (some 56) (bits_ 57 240518168575) HT_ HW_ hHeld ?_
                      refine oneP_ 35 (some 54) (bits_ 57 274877906943) HT_ (fun K hK => ?_)
                      refine goN_ Try.func30 #[.int .i64 a0_0, .int .u8 99] ?_
                      with_reducible refine (impl_has.calls k1 a0_0 99 t244 _ A51.out).mono ?_
                      rintro e w79 ⟨rfl, hb⟩
                      refine ⟨_, rfl, ?_⟩
                      replace BK228 := blkBel_ BK228.out hb
                      replace HB := stepB_ hb
                      (try clear hb)
                      refine hK.out _ _ (hc11_ BK228.out) (fun hHeld => ?_)
                      clear hK K
                      refine normP_ (some 54) ?_
                      refine oneP_ 38 (some 57) (bits_ 57 549755813887) HT_ (fun K hK => ?_)
                      refine goN_ Try.func29 #[.bool t244, .int .i64 a0_8, .int .i64 1, .int .i64 8] ?_
                      with_reducible refine (impl_partOk.calls t244 a0_8 1 8 false _ A52.out).mono ?_
                      rintro e w' ⟨rfl, ⟨nd, rfl⟩⟩
                      refine ⟨_, rfl, ?_⟩
                      refine hK.out _ _ (hc11_ BK228.out) (fun hHeld => ?_)
                      clear hK K
                      refine normP_ (some 57) ?_
                      refine pureP_ 39 (some 58) (bits_ 57 1099511627775) HT_ ?_
                      refine pureP_ 40 (some 59) (bits_ 57 2199023255551) HT_ ?_
                      refine pure_ (i := 41) (N := some 60) (v := undef) (a' := ?_) #[true, true, true, true, true, true, true, true, true, true, true, true, true, true, true, true, true, true, true, true, true, true, true, true, true, true, true, true, true, true, true, true, true, true, true, true, true, true, true, true, true, true, false, false, false, false, false, false, false, false, false, false, false, false, false, false, false] rfl rfl (any_of HT_.out (by kernel_rfl)) (fun _ _ _ h => h) (Or.inr ⟨by rfl, rfl⟩) ?_ ?_
                      rotate_left
                      · simp only [Act.put, List.setIfInBounds_toArray, List.set_cons_zero, List.set_cons_succ, i64_w, i32_w]
                        rfl
                      refine pure_ (i := 42) (N := some 61) (v := undef) (a' := ?_) #[true, true, true, true, true, true, true, true, true, true, true, true, true, true, true, true, true, true, true, true, true, true, true, true, true, true, true, true, true, true, true, true, true, true, true, true, true, true, true, true, true, true, true, false, false, false, false, false, false, false, false, false, false, false, false, false, false] rfl rfl (any_of HT_.out (by kernel_rfl)) (fun _ _ _ h => h) (Or.inr ⟨by rfl, rfl⟩) ?_ ?_
                      rotate_left
                      · simp only [Act.put, List.setIfInBounds_toArray, List.set_cons_zero, List.set_cons_succ, i64_w, i32_w]
                        rfl
                      refine pure_ (i := 43) (N := some 62) (v := undef) (a' := ?_) #[true, true, true, true, true, true, true, true, true, true, true, true, true, true, true, true, true, true, true, true, true, true, true, true, true, true, true, true, true, true, true, true, true, true, true, true, true, true, true, true, true, true, true, true, false, false, false, false, false, false, false, false, false, false, false, false, false] rfl rfl (any_of HT_.out (by kernel_rfl)) (fun _ _ _ h => h) (Or.inr ⟨by rfl, rfl⟩) ?_ ?_
                      rotate_left
                      · simp only [Act.put, List.setIfInBounds_toArray, List.set_cons_zero, List.set_cons_succ, i64_w, i32_w]
                        rfl
                      refine pure_ (i := 44) (N := some 63) (v := undef) (a' := ?_) #[true, true, true, true, true, true, true, true, true, true, true, true, true, true, true, true, true, true, true, true, true, true, true, true, true, true, true, true, true, true, true, true, true, true, true, true, true, true, true, true, true, true, true, true, true, false, false, false, false, false, false, false, false, false, false, false, false] rfl rfl (any_of HT_.out (by kernel_rfl)) (fun _ _ _ h => h) (Or.inr ⟨by rfl, rfl⟩) ?_ ?_
                      rotate_left
                      · simp only [Act.put, List.setIfInBounds_toArray, List.set_cons_zero, List.set_cons_succ, i64_w, i32_w]
                        rfl
                      refine pure_ (i := 45) (N := some 64) (v := undef) (a' := ?_) #[true, true, true, true, true, true, true, true, true, true, true, true, true, true, true, true, true, true, true, true, true, true, true, true, true, true, true, true, true, true, true, true, true, true, true, true, true, true, true, true, true, true, true, true, true, true, false, false, false, false, false, false, false, false, false, false, false] rfl rfl (any_of HT_.out (by kernel_rfl)) (fun _ _ _ h => h) (Or.inr ⟨by rfl, rfl⟩) ?_ ?_
                      rotate_left
                      · simp only [Act.put, List.setIfInBounds_toArray, List.set_cons_zero, List.set_cons_succ, i64_w, i32_w]
                        rfl
                      refine pure_ (i := 46) (N := some 65) (v := undef) (a' := ?_) #[true, true, true, true, true, true, true, true, true, true, true, true, true, true, true, true, true, true, true, true, true, true, true, true, true, true, true, true, true, true, true, true, true, true, true, true, true, true, true, true, true, true, true, true, true, true, true, false, false, false, false, false, false, false, false, false, false] rfl rfl (any_of HT_.out (by kernel_rfl)) (fun _ _ _ h => h) (Or.inr ⟨by rfl, rfl⟩) ?_ ?_
                      rotate_left
                      · simp only [Act.put, List.setIfInBounds_toArray, List.set_cons_zero, List.set_cons_succ, i64_w, i32_w]
                        rfl
                      refine pureP_ 47 (some 66) (bits_ 57 281474976710655) HT_ ?_
                      refine pureP_ 48 (some 67) (bits_ 57 562949953421311) HT_ ?_
                      refine pure_ (i := 49) (N := some 68) (v := undef) (a' := ?_) #[true, true, true, true, true, true, true, true, true, true, true, true, true, true, true, true, true, true, true, true, true, true, true, true, true, true, true, true, true, true, true, true, true, true, true, true, true, true, true, true, true, true, true, true, true, true, true, true, true, true, false, false, false, false, false, false, false] rfl rfl (any_of HT_.out (by kernel_rfl)) (fun _ _ _ h => h) (Or.inr ⟨by rfl, rfl⟩) ?_ ?_
                      rotate_left
                      · simp only [Act.put, List.setIfInBounds_toArray, List.set_cons_zero, List.set_cons_succ, i64_w, i32_w]
                        rfl
                      refine pure_ (i := 50) (N := some 69) (v := undef) (a' := ?_) #[true, true, true, true, true, true, true, true, true, true, true, true, true, true, true, true, true, true, true, true, true, true, true, true, true, true, true, true, true, true, true, true, true, true, true, true, true, true, true, true, true, true, true, true, true, true, true, true, true, true, true, false, false, false, false, false, false] rfl rfl (any_of HT_.out (by kernel_rfl)) (fun _ _ _ h => h) (Or.inr ⟨by rfl, rfl⟩) ?_ ?_
                      rotate_left
                      · simp only [Act.put, List.setIfInBounds_toArray, List.set_cons_zero, List.set_cons_succ, i64_w, i32_w]
                        rfl
                      refine pure_ (i := 51) (N := some 70) (v := undef) (a' := ?_) #[true, true, true, true, true, true, true, true, true, true, true, true, true, true, true, true, true, true, true, true, true, true, true, true, true, true, true, true, true, true, true, true, true, true, true, true, true, true, true, true, true, true, true, true, true, true, true, true, true, true, true, true, false, false, false, false, false] rfl rfl (any_of HT_.out (by kernel_rfl)) (fun _ _ _ h => h) (Or.inr ⟨by rfl, rfl⟩) ?_ ?_
                      rotate_left
                      · simp only [Act.put, List.setIfInBounds_toArray, List.set_cons_zero, List.set_cons_succ, i64_w, i32_w]
                        rfl
                      refine pure_ (i := 52) (N := some 71) (v := undef) (a' := ?_) #[true, true, true, true, true, true, true, true, true, true, true, true, true, true, true, true, true, true, true, true, true, true, true, true, true, true, true, true, true, true, true, true, true, true, true, true, true, true, true, true, true, true, true, true, true, true, true, true, true, true, true, true, true, false, false, false, false] rfl rfl (any_of HT_.out (by kernel_rfl)) (fun _ _ _ h => h) (Or.inr ⟨by rfl, rfl⟩) ?_ ?_
                      rotate_left
                      · simp only [Act.put, List.setIfInBounds_toArray, List.set_cons_zero, List.set_cons_succ, i64_w, i32_w]
                        rfl
                      refine pure_ (i := 53) (N := some 72) (v := undef) (a' := ?_) #[true, true, true, true, true, true, true, true, true, true, true, true, true, true, true, true, true, true, true, true, true, true, true, true, true, true, true, true, true, true, true, true, true, true, true, true, true, true, true, true, true, true, true, true, true, true, true, true, true, true, true, true, true, true, false, false, false] rfl rfl (any_of HT_.out (by kernel_rfl)) (fun _ _ _ h => h) (Or.inr ⟨by rfl, rfl⟩) ?_ ?_
                      rotate_left
                      · simp only [Act.put, List.setIfInBounds_toArray, List.set_cons_zero, List.set_cons_succ, i64_w, i32_w]
                        rfl
                      refine pure_ (i := 54) (N := some 73) (v := undef) (a' := ?_) #[true, true, true, true, true, true, true, true, true, true, true, true, true, true, true, true, true, true, true, true, true, true, true, true, true, true, true, true, true, true, true, true, true, true, true, true, true, true, true, true, true, true, true, true, true, true, true, true, true, true, true, true, true, true, true, false, false] rfl rfl (any_of HT_.out (by kernel_rfl)) (fun _ _ _ h => h) (Or.inr ⟨by rfl, rfl⟩) ?_ ?_
                      rotate_left
                      · simp only [Act.put, List.setIfInBounds_toArray, List.set_cons_zero, List.set_cons_succ, i64_w, i32_w]
                        rfl
                      refine pureP_ 55 (some 74) (bits_ 57 72057594037927935) HT_ ?_
                      refine pureP_ 56 (some 2) (bits_ 57 144115188075855871) HT_ ?_
                      refine done_ (done_of HT_.out (by kernel_rfl)) ?_
                      try go_wp2
                      go_ret
                      exact ⟨rfl_, bel_⟩
                  · rw [if_neg c50] at H
                    have c50b0 : (a0_4 == 0 && (a0_5 == 0 && (a0_6 == 0 && (a0_7 == 0)))) = false := by simpa using c50
                    (try (have c50b1 : decide (a0_4 = 0 && (a0_5 == 0 && (a0_6 == 0 && (a0_7 == 0)))) = false := by simpa using c50))
                    (try (have c50b2 : (a0_4 == 0 && (a0_5 == 0 && (a0_6 == 0 && (a0_7 == 0)))) = false := by simpa using c50))
                    (try (have c50b3 : ¬ (a0_4 = 0 && (a0_5 == 0 && (a0_6 == 0 && (a0_7 == 0)))) := by simpa using c50))
                    clear c50
                    obtain rfl := Option.some.inj H
                    try go_wp2
                    replace BK228 := Aside0.mk (blk_drew BK228.out)
                    replace HB := Aside0.mk (below_drew1 HB.out)
                    refine start_ (n := 57) (S := fun w' => w'.cell? ⟨gb228, 0, none⟩ = some (.int .i64 a0_0) ∧ w'.cell? ⟨gb228, 1, none⟩ = some (.int .i64 a0_1) ∧ w'.cell? ⟨gb228, 2, none⟩ = some (.int .i64 a0_2) ∧ w'.cell? ⟨gb228, 3, none⟩ = some (.int .i64 a0_3) ∧ w'.cell? ⟨gb228, 4, none⟩ = some (.int .u64 a0_4) ∧ w'.cell? ⟨gb228, 5, none⟩ = some (.int .u64 a0_5) ∧ w'.cell? ⟨gb228, 6, none⟩ = some (.int .u64 a0_6) ∧ w'.cell? ⟨gb228, 7, none⟩ = some (.int .u64 a0_7) ∧ w'.cell? ⟨gb228, 8, none⟩ = some (.int .i64 a0_8) ∧ w'.cell? ⟨gb228, 9, none⟩ = some (.slice A0_9 l0_9.length c0_9) ∧ w'.cell? ⟨gb228, 10, none⟩ = some (.slice A0_10 l0_10.length c0_10)) (ds := []) #[false, false, false, false, false, false, false, false, false, false, false, false, false, false, false, false, false, false, false, false, false, false, false, false, false, false, false, false, false, false, false, false, false, false, false, false, false, false, false, false, false, false, false, false, false, false, false, false, false, false, false, false, false, false, false, false, false] (by kernel_rfl) rfl rfl (hc11_ BK228.out) (fun hHeld => ?_); refine with_tabW impl_WireOk.tab8 impl_WireOk.bits8 (fun HT_ HW_ => ?_)
                    generalize wr.drew = w80 at BK228 HB hHeld ⊢
                    refine pureP_ 0 (some 19) (bits_ 57 1) HT_ ?_
                    refine oneP_ 1 (some 20) (bits_ 57 3) HT_ (fun K hK => ?_)
                    refine goN_ Try.func28 #[.int .i64 a0_0, .int .i64 1, .int .i64 8] ?_
                    with_reducible refine (impl_in.calls a0_0 1 8 true _ A8.out).mono ?_
                    rintro e w' ⟨rfl, ⟨nd, rfl⟩⟩
                    refine ⟨_, rfl, ?_⟩
                    refine hK.out _ _ (hc11_ BK228.out) (fun hHeld => ?_)
                    clear hK K
                    refine normP_ (some 20) ?_
                    refine pureP_ 2 (some 21) (bits_ 57 7) HT_ ?_
                    refine pureP_ 3 (some 22) (bits_ 57 15) HT_ ?_
                    refine pureP_ 5 (some 24) (bits_ 57 47) HT_ ?_
                    refine takeP_ 6 (some 25) (bits_ 57 111) HT_ HW_ hHeld ?_
                    refine oneP_ 4 (some 23) (bits_ 57 127) HT_ (fun K hK => ?_)
                    refine goN_ Try.func30 #[.int .i64 a0_0, .int .u8 115] ?_
                    with_reducible refine (impl_has.calls k1 a0_0 115 t231 _ A10.out).mono ?_
                    rintro e w81 ⟨rfl, hb⟩
                    refine ⟨_, rfl, ?_⟩
                    replace BK228 := blkBel_ BK228.out hb
                    replace HB := stepB_ hb
                    (try clear hb)
                    refine hK.out _ _ (hc11_ BK228.out) (fun hHeld => ?_)
                    clear hK K
                    refine normP_ (some 23) ?_
                    refine oneP_ 7 (some 26) (bits_ 57 255) HT_ (fun K hK => ?_)
                    refine goN_ Try.func29 #[.bool t231, .int .i64 a0_1, .int .i64 1, .int .i64 1000000] ?_
                    with_reducible refine (impl_partOk.calls t231 a0_1 1 1000000 true _ A11.out).mono ?_
                    rintro e w' ⟨rfl, ⟨nd, rfl⟩⟩
                    refine ⟨_, rfl, ?_⟩
                    refine hK.out _ _ (hc11_ BK228.out) (fun hHeld => ?_)
                    clear hK K
                    refine normP_ (some 26) ?_
                    refine pureP_ 8 (some 27) (bits_ 57 511) HT_ ?_
                    refine pureP_ 9 (some 28) (bits_ 57 1023) HT_ ?_
                    refine pureP_ 10 (some 29) (bits_ 57 2047) HT_ ?_
                    refine pureP_ 12 (some 31) (bits_ 57 6143) HT_ ?_
                    refine takeP_ 13 (some 32) (bits_ 57 14335) HT_ HW_ hHeld ?_
                    refine oneP_ 11 (some 30) (bits_ 57 16383) HT_ (fun K hK => ?_)
                    refine goN_ Try.func30 #[.int .i64 a0_0, .int .u8 102] ?_
                    with_reducible refine (impl_has.calls k1 a0_0 102 t233 _ A13.out).mono ?_
                    rintro e w82 ⟨rfl, hb⟩
                    refine ⟨_, rfl, ?_⟩
                    replace BK228 := blkBel_ BK228.out hb
                    replace HB := stepB_ hb
                    (try clear hb)
                    refine hK.out _ _ (hc11_ BK228.out) (fun hHeld => ?_)
                    clear hK K
                    refine normP_ (some 30) ?_
                    refine oneP_ 14 (some 33) (bits_ 57 32767) HT_ (fun K hK => ?_)
                    refine goN_ Try.func29 #[.bool t233, .int .i64 a0_2, .int .i64 0, .int .i64 256] ?_
                    with_reducible refine (impl_partOk.calls t233 a0_2 0 256 true _ A14.out).mono ?_
                    rintro e w' ⟨rfl, ⟨nd, rfl⟩⟩
                    refine ⟨_, rfl, ?_⟩
                    refine hK.out _ _ (hc11_ BK228.out) (fun hHeld => ?_)
                    clear hK K
                    refine normP_ (some 33) ?_
                    refine pureP_ 15 (some 34) (bits_ 57 65535) HT_ ?_
                    refine pureP_ 16 (some 35) (bits_ 57 131071) HT_ ?_
                    refine pureP_ 17 (some 36) (bits_ 57 262143) HT_ ?_
                    refine pureP_ 19 (some 38) (bits_ 57 786431) HT_ ?_
                    refine takeP_ 20 (some 39) (bits_ 57 1835007) HT_ HW_ hHeld ?_
                    refine oneP_ 18 (some 37) (bits_ 57 2097151) HT_ (fun K hK => ?_)
                    refine goN_ Try.func30 #[.int .i64 a0_0, .int .u8 122] ?_
                    with_reducible refine (impl_has.calls k1 a0_0 122 t235 _ A16.out).mono ?_
                    rintro e w83 ⟨rfl, hb⟩
                    refine ⟨_, rfl, ?_⟩
                    replace BK228 := blkBel_ BK228.out hb
                    replace HB := stepB_ hb
                    (try clear hb)
                    refine hK.out _ _ (hc11_ BK228.out) (fun hHeld => ?_)
                    clear hK K
                    refine normP_ (some 37) ?_
                    refine oneP_ 21 (some 40) (bits_ 57 4194303) HT_ (fun K hK => ?_)
                    refine goN_ Try.func29 #[.bool t235, .int .i64 a0_3, .int .i64 0, .int .i64 256] ?_
                    with_reducible refine (impl_partOk.calls t235 a0_3 0 256 true _ A17.out).mono ?_
                    rintro e w' ⟨rfl, ⟨nd, rfl⟩⟩
                    refine ⟨_, rfl, ?_⟩
                    refine hK.out _ _ (hc11_ BK228.out) (fun hHeld => ?_)
                    clear hK K
                    refine normP_ (some 40) ?_
                    refine pureP_ 22 (some 41) (bits_ 57 8388607) HT_ ?_
                    refine pureP_ 23 (some 42) (bits_ 57 16777215) HT_ ?_
                    refine pureP_ 24 (some 43) (bits_ 57 33554431) HT_ ?_
                    refine oneP_ 25 (some 44) (bits_ 57 67108863) HT_ (fun K hK => ?_)
                    refine goN_ Try.func30 #[.int .i64 a0_0, .int .u8 114] ?_
                    with_reducible refine (impl_has.calls k1 a0_0 114 false _ A19.out).mono ?_
                    rintro e w84 ⟨rfl, hb⟩
                    refine ⟨_, rfl, ?_⟩
                    replace BK228 := blkBel_ BK228.out hb
                    replace HB := stepB_ hb
                    (try clear hb)
                    refine hK.out _ _ (hc11_ BK228.out) (fun hHeld => ?_)
                    clear hK K
                    refine normP_ (some 44) ?_
                    refine pureP_ 26 (some 45) (bits_ 57 134217727) HT_ ?_
                    refine pureP_ 27 (some 46) (bits_ 57 268435455) HT_ ?_
                    refine pureP_ 29 (some 48) (bits_ 57 805306367) HT_ ?_
                    refine takeP_ 28 (some 47) (bits_ 57 1073741823) HT_ HW_ hHeld ?_
                    refine pureP_ 30 (some 49) (bits_ 57 2147483647) HT_ ?_
                    refine pureP_ 31 (some 50) (bits_ 57 4294967295) HT_ ?_
                    refine pureP_ 32 (some 51) (bits_ 57 8589934591) HT_ ?_
                    refine pureP_ 33 (some 52) (bits_ 57 17179869183) HT_ ?_
                    refine pure_ (i := 34) (N := some 53) (v := undef) (a' := ?_) #[true, true, true, true, true, true, true, true, true, true, true, true, true, true, true, true, true, true, true, true, true, true, true, true, true, true, true, true, true, true, true, true, true, true, true, false, false, false, false, false, false, false, false, false, false, false, false, false, false, false, false, false, false, false, false, false, false] rfl rfl (any_of HT_.out (by kernel_rfl)) (fun _ _ _ h => h) (Or.inr ⟨by rfl, rfl⟩) ?_ ?_
                    rotate_left
                    · simp only [Act.put, List.setIfInBounds_toArray, List.set_cons_zero, List.set_cons_succ, i64_w, i32_w]
                      rfl
                    refine pure_ (i := 35) (N := some 54) (v := undef) (a' := ?_) #[true, true, true, true, true, true, true, true, true, true, true, true, true, true, true, true, true, true, true, true, true, true, true, true, true, true, true, true, true, true, true, true, true, true, true, true, false, false, false, false, false, false, false, false, false, false, false, false, false, false, false, false, false, false, false, false, false] rfl rfl (any_of HT_.out (by kernel_rfl)) (fun _ _ _ h => h) (Or.inr ⟨by rfl, rfl⟩) ?_ ?_
                    rotate_left
                    · simp only [Act.put, List.setIfInBounds_toArray, List.set_cons_zero, List.set_cons_succ, i64_w, i32_w]
                      rfl
                    refine pure_ (i := 36) (N := some 55) (v := undef) (a' := ?_) #[true, true, true, true, true, true, true, true, true, true, true, true, true, true, true, true, true, true, true, true, true, true, true, true, true, true, true, true, true, true, true, true, true, true, true, true, true, false, false, false, false, false, false, false, false, false, false, false, false, false, false, false, false, false, false, false, false] rfl rfl (any_of HT_.out (by kernel_rfl)) (fun _ _ _ h => h) (Or.inr ⟨by rfl, rfl⟩) ?_ ?_
                    rotate_left
                    · simp only [Act.put, List.setIfInBounds_toArray, List.set_cons_zero, List.set_cons_succ, i64_w, i32_w]
                      rfl
                    refine pure_ (i := 37) (N := some 56) (v := undef) (a' := ?_) #[true, true, true, true, true, true, true, true, true, true, true, true, true, true, true, true, true, true, true, true, true, true, true, true, true, true, true, true, true, true, true, true, true, true, true, true, true, true, false, false, false, false, false, false, false, false, false, false, false, false, false, false, false, false, false, false, false] rfl rfl (any_of HT_.out (by kernel_rfl)) (fun _ _ _ h => h) (Or.inr ⟨by rfl, rfl⟩) ?_ ?_
                    rotate_left
                    · simp only [Act.put, List.setIfInBounds_toArray, List.set_cons_zero, List.set_cons_succ, i64_w, i32_w]
                      rfl
                    refine pure_ (i := 38) (N := some 57) (v := undef) (a' := ?_) #[true, true, true, true, true, true, true, true, true, true, true, true, true, true, true, true, true, true, true, true, true, true, true, true, true, true, true, true, true, true, true, true, true, true, true, true, true, true, true, false, false, false, false, false, false, false, false, false, false, false, false, false, false, false, false, false, false] rfl rfl (any_of HT_.out (by kernel_rfl)) (fun _ _ _ h => h) (Or.inr ⟨by rfl, rfl⟩) ?_ ?_
                    rotate_left
                    · simp only [Act.put, List.setIfInBounds_toArray, List.set_cons_zero, List.set_cons_succ, i64_w, i32_w]
                      rfl
                    refine pureP_ 39 (some 58) (bits_ 57 1099511627775) HT_ ?_
                    refine pureP_ 40 (some 59) (bits_ 57 2199023255551) HT_ ?_
                    refine pure_ (i := 41) (N := some 60) (v := undef) (a' := ?_) #[true, true, true, true, true, true, true, true, true, true, true, true, true, true, true, true, true, true, true, true, true, true, true, true, true, true, true, true, true, true, true, true, true, true, true, true, true, true, true, true, true, true, false, false, false, false, false, false, false, false, false, false, false, false, false, false, false] rfl rfl (any_of HT_.out (by kernel_rfl)) (fun _ _ _ h => h) (Or.inr ⟨by rfl, rfl⟩) ?_ ?_
                    rotate_left
                    · simp only [Act.put, List.setIfInBounds_toArray, List.set_cons_zero, List.set_cons_succ, i64_w, i32_w]
                      rfl
                    refine pure_ (i := 42) (N := some 61) (v := undef) (a' := ?_) #[true, true, true, true, true, true, true, true, true, true, true, true, true, true, true, true, true, true, true, true, true, true, true, true, true, true, true, true, true, true, true, true, true, true, true, true, true, true, true, true, true, true, true, false, false, false, false, false, false, false, false, false, false, false, false, false, false] rfl rfl (any_of HT_.out (by kernel_rfl)) (fun _ _ _ h => h) (Or.inr ⟨by rfl, rfl⟩) ?_ ?_
                    rotate_left
                    · simp only [Act.put, List.setIfInBounds_toArray, List.set_cons_zero, List.set_cons_succ, i64_w, i32_w]
                      rfl
                    refine pure_ (i := 43) (N := some 62) (v := undef) (a' := ?_) #[true, true, true, true, true, true, true, true, true, true, true, true, true, true, true, true, true, true, true, true, true, true, true, true, true, true, true, true, true, true, true, true, true, true, true, true, true, true, true, true, true, true, true, true, false, false, false, false, false, false, false, false, false, false, false, false, false] rfl rfl (any_of HT_.out (by kernel_rfl)) (fun _ _ _ h => h) (Or.inr ⟨by rfl, rfl⟩) ?_ ?_
                    rotate_left
                    · simp only [Act.put, List.setIfInBounds_toArray, List.set_cons_zero, List.set_cons_succ, i64_w, i32_w]
                      rfl
                    refine pure_ (i := 44) (N := some 63) (v := undef) (a' := ?_) #[true, true, true, true, true, true, true, true, true, true, true, true, true, true, true, true, true, true, true, true, true, true, true, true, true, true, true, true, true, true, true, true, true, true, true, true, true, true, true, true, true, true, true, true, true, false, false, false, false, false, false, false, false, false, false, false, false] rfl rfl (any_of HT_.out (by kernel_rfl)) (fun _ _ _ h => h) (Or.inr ⟨by rfl, rfl⟩) ?_ ?_
                    rotate_left
                    · simp only [Act.put, List.setIfInBounds_toArray, List.set_cons_zero, List.set_cons_succ, i64_w, i32_w]
                      rfl
                    refine pure_ (i := 45) (N := some 64) (v := undef) (a' := ?_) #[true, true, true, true, true, true, true, true, true, true, true, true, true, true, true, true, true, true, true, true, true, true, true, true, true, true, true, true, true, true, true, true, true, true, true, true, true, true, true, true, true, true, true, true, true, true, false, false, false, false, false, false, false, false, false, false, false] rfl rfl (any_of HT_.out (by kernel_rfl)) (fun _ _ _ h => h) (Or.inr ⟨by rfl, rfl⟩) ?_ ?_
                    rotate_left
                    · simp only [Act.put, List.setIfInBounds_toArray, List.set_cons_zero, List.set_cons_succ, i64_w, i32_w]
                      rfl
                    refine pure_ (i := 46) (N := some 65) (v := undef) (a' := ?_) #[true, true, true, true, true, true, true, true, true, true, true, true, true, true, true, true, true, true, true, true, true, true, true, true, true, true, true, true, true, true, true, true, true, true, true, true, true, true, true, true, true, true, true, true, true, true, true, false, false, false, false, false, false, false, false, false, false] rfl rfl (any_of HT_.out (by kernel_rfl)) (fun _ _ _ h => h) (Or.inr ⟨by rfl, rfl⟩) ?_ ?_
                    rotate_left
                    · simp only [Act.put, List.setIfInBounds_toArray, List.set_cons_zero, List.set_cons_succ, i64_w, i32_w]
                      rfl
                    refine pureP_ 47 (some 66) (bits_ 57 281474976710655) HT_ ?_
                    refine pureP_ 48 (some 67) (bits_ 57 562949953421311) HT_ ?_
                    refine pure_ (i := 49) (N := some 68) (v := undef) (a' := ?_) #[true, true, true, true, true, true, true, true, true, true, true, true, true, true, true, true, true, true, true, true, true, true, true, true, true, true, true, true, true, true, true, true, true, true, true, true, true, true, true, true, true, true, true, true, true, true, true, true, true, true, false, false, false, false, false, false, false] rfl rfl (any_of HT_.out (by kernel_rfl)) (fun _ _ _ h => h) (Or.inr ⟨by rfl, rfl⟩) ?_ ?_
                    rotate_left
                    · simp only [Act.put, List.setIfInBounds_toArray, List.set_cons_zero, List.set_cons_succ, i64_w, i32_w]
                      rfl
                    refine pure_ (i := 50) (N := some 69) (v := undef) (a' := ?_) #[true, true, true, true, true, true, true, true, true, true, true, true, true, true, true, true, true, true, true, true, true, true, true, true, true, true, true, true, true, true, true, true, true, true, true, true, true, true, true, true, true, true, true, true, true, true, true, true, true, true, true, false, false, false, false, false, false] rfl rfl (any_of HT_.out (by kernel_rfl)) (fun _ _ _ h => h) (Or.inr ⟨by rfl, rfl⟩) ?_ ?_
                    rotate_left
                    · simp only [Act.put, List.setIfInBounds_toArray, List.set_cons_zero, List.set_cons_succ, i64_w, i32_w]
                      rfl
                    refine pure_ (i := 51) (N := some 70) (v := undef) (a' := ?_) #[true, true, true, true, true, true, true, true, true, true, true, true, true, true, true, true, true, true, true, true, true, true, true, true, true, true, true, true, true, true, true, true, true, true, true, true, true, true, true, true, true, true, true, true, true, true, true, true, true, true, true, true, false, false, false, false, false] rfl rfl (any_of HT_.out (by kernel_rfl)) (fun _ _ _ h => h) (Or.inr ⟨by rfl, rfl⟩) ?_ ?_
                    rotate_left
                    · simp only [Act.put, List.setIfInBounds_toArray, List.set_cons_zero, List.set_cons_succ, i64_w, i32_w]
                      rfl
                    refine pure_ (i := 52) (N := some 71) (v := undef) (a' := ?_) #[true, true, true, true, true, true, true, true, true, true, true, true, true, true, true, true, true, true, true, true, true, true, true, true, true, true, true, true, true, true, true, true, true, true, true, true, true, true, true, true, true, true, true, true, true, true, true, true, true, true, true, true, true, false, false, false, false] rfl rfl (any_of HT_.out (by kernel_rfl)) (fun _ _ _ h => h) (Or.inr ⟨by rfl, rfl⟩) ?_ ?_
                    rotate_left
                    · simp only [Act.put, List.setIfInBounds_toArray, List.set_cons_zero, List.set_cons_succ, i64_w, i32_w]
                      rfl
                    refine pure_ (i := 53) (N := some 72) (v := undef) (a' := ?_) #[true, true, true, true, true, true, true, true, true, true, true, true, true, true, true, true, true, true, true, true, true, true, true, true, true, true, true, true, true, true, true, true, true, true, true, true, true, true, true, true, true, true, true, true, true, true, true, true, true, true, true, true, true, true, false, false, false] rfl rfl (any_of HT_.out (by kernel_rfl)) (fun _ _ _ h => h) (Or.inr ⟨by rfl, rfl⟩) ?_ ?_
                    rotate_left
                    · simp only [Act.put, List.setIfInBounds_toArray, List.set_cons_zero, List.set_cons_succ, i64_w, i32_w]
                      rfl
                    refine pure_ (i := 54) (N := some 73) (v := undef) (a' := ?_) #[true, true, true, true, true, true, true, true, true, true, true, true, true, true, true, true, true, true, true, true, true, true, true, true, true, true, true, true, true, true, true, true, true, true, true, true, true, true, true, true, true, true, true, true, true, true, true, true, true, true, true, true, true, true, true, false, false] rfl rfl (any_of HT_.out (by kernel_rfl)) (fun _ _ _ h => h) (Or.inr ⟨by rfl, rfl⟩) ?_ ?_
                    rotate_left
                    · simp only [Act.put, List.setIfInBounds_toArray, List.set_cons_zero, List.set_cons_succ, i64_w, i32_w]
                      rfl
                    refine pureP_ 55 (some 74) (bits_ 57 72057594037927935) HT_ ?_
                    refine pureP_ 56 (some 2) (bits_ 57 144115188075855871) HT_ ?_
                    refine done_ (done_of HT_.out (by kernel_rfl)) ?_
                    try go_wp2
                    go_ret
                    exact ⟨rfl_, bel_⟩
              · replace c18 := Bool.eq_false_iff.mpr c18
                subst c18
                rw [if_neg (show ¬ (false = true) by decide)] at H
                obtain rfl := Option.some.inj H
                try go_wp2
                replace BK228 := Aside0.mk (blk_drew BK228.out)
                replace HB := Aside0.mk (below_drew1 HB.out)
                refine start_ (n := 57) (S := fun w' => w'.cell? ⟨gb228, 0, none⟩ = some (.int .i64 a0_0) ∧ w'.cell? ⟨gb228, 1, none⟩ = some (.int .i64 a0_1) ∧ w'.cell? ⟨gb228, 2, none⟩ = some (.int .i64 a0_2) ∧ w'.cell? ⟨gb228, 3, none⟩ = some (.int .i64 a0_3) ∧ w'.cell? ⟨gb228, 4, none⟩ = some (.int .u64 a0_4) ∧ w'.cell? ⟨gb228, 5, none⟩ = some (.int .u64 a0_5) ∧ w'.cell? ⟨gb228, 6, none⟩ = some (.int .u64 a0_6) ∧ w'.cell? ⟨gb228, 7, none⟩ = some (.int .u64 a0_7) ∧ w'.cell? ⟨gb228, 8, none⟩ = some (.int .i64 a0_8) ∧ w'.cell? ⟨gb228, 9, none⟩ = some (.slice A0_9 l0_9.length c0_9) ∧ w'.cell? ⟨gb228, 10, none⟩ = some (.slice A0_10 l0_10.length c0_10)) (ds := []) #[false, false, false, false, false, false, false, false, false, false, false, false, false, false, false, false, false, false, false, false, false, false, false, false, false, false, false, false, false, false, false, false, false, false, false, false, false, false, false, false, false, false, false, false, false, false, false, false, false, false, false, false, false, false, false, false, false] (by kernel_rfl) rfl rfl (hc11_ BK228.out) (fun hHeld => ?_); refine with_tabW impl_WireOk.tab8 impl_WireOk.bits8 (fun HT_ HW_ => ?_)
                generalize wr.drew = w85 at BK228 HB hHeld ⊢
                refine pureP_ 0 (some 19) (bits_ 57 1) HT_ ?_
                refine oneP_ 1 (some 20) (bits_ 57 3) HT_ (fun K hK => ?_)
                refine goN_ Try.func28 #[.int .i64 a0_0, .int .i64 1, .int .i64 8] ?_
                with_reducible refine (impl_in.calls a0_0 1 8 true _ A8.out).mono ?_
                rintro e w' ⟨rfl, ⟨nd, rfl⟩⟩
                refine ⟨_, rfl, ?_⟩
                refine hK.out _ _ (hc11_ BK228.out) (fun hHeld => ?_)
                clear hK K
                refine normP_ (some 20) ?_
                refine pureP_ 2 (some 21) (bits_ 57 7) HT_ ?_
                refine pureP_ 3 (some 22) (bits_ 57 15) HT_ ?_
                refine pureP_ 5 (some 24) (bits_ 57 47) HT_ ?_
                refine takeP_ 6 (some 25) (bits_ 57 111) HT_ HW_ hHeld ?_
                refine oneP_ 4 (some 23) (bits_ 57 127) HT_ (fun K hK => ?_)
                refine goN_ Try.func30 #[.int .i64 a0_0, .int .u8 115] ?_
                with_reducible refine (impl_has.calls k1 a0_0 115 t231 _ A10.out).mono ?_
                rintro e w86 ⟨rfl, hb⟩
                refine ⟨_, rfl, ?_⟩
                replace BK228 := blkBel_ BK228.out hb
                replace HB := stepB_ hb
                (try clear hb)
                refine hK.out _ _ (hc11_ BK228.out) (fun hHeld => ?_)
                clear hK K
                refine normP_ (some 23) ?_
                refine oneP_ 7 (some 26) (bits_ 57 255) HT_ (fun K hK => ?_)
                refine goN_ Try.func29 #[.bool t231, .int .i64 a0_1, .int .i64 1, .int .i64 1000000] ?_
                with_reducible refine (impl_partOk.calls t231 a0_1 1 1000000 true _ A11.out).mono ?_
                rintro e w' ⟨rfl, ⟨nd, rfl⟩⟩
                refine ⟨_, rfl, ?_⟩
                refine hK.out _ _ (hc11_ BK228.out) (fun hHeld => ?_)
                clear hK K
                refine normP_ (some 26) ?_
                refine pureP_ 8 (some 27) (bits_ 57 511) HT_ ?_
                refine pureP_ 9 (some 28) (bits_ 57 1023) HT_ ?_
                refine pureP_ 10 (some 29) (bits_ 57 2047) HT_ ?_
                refine pureP_ 12 (some 31) (bits_ 57 6143) HT_ ?_
                refine takeP_ 13 (some 32) (bits_ 57 14335) HT_ HW_ hHeld ?_
                refine oneP_ 11 (some 30) (bits_ 57 16383) HT_ (fun K hK => ?_)
                refine goN_ Try.func30 #[.int .i64 a0_0, .int .u8 102] ?_
                with_reducible refine (impl_has.calls k1 a0_0 102 t233 _ A13.out).mono ?_
                rintro e w87 ⟨rfl, hb⟩
                refine ⟨_, rfl, ?_⟩
                replace BK228 := blkBel_ BK228.out hb
                replace HB := stepB_ hb
                (try clear hb)
                refine hK.out _ _ (hc11_ BK228.out) (fun hHeld => ?_)
                clear hK K
                refine normP_ (some 30) ?_
                refine oneP_ 14 (some 33) (bits_ 57 32767) HT_ (fun K hK => ?_)
                refine goN_ Try.func29 #[.bool t233, .int .i64 a0_2, .int .i64 0, .int .i64 256] ?_
                with_reducible refine (impl_partOk.calls t233 a0_2 0 256 true _ A14.out).mono ?_
                rintro e w' ⟨rfl, ⟨nd, rfl⟩⟩
                refine ⟨_, rfl, ?_⟩
                refine hK.out _ _ (hc11_ BK228.out) (fun hHeld => ?_)
                clear hK K
                refine normP_ (some 33) ?_
                refine pureP_ 15 (some 34) (bits_ 57 65535) HT_ ?_
                refine pureP_ 16 (some 35) (bits_ 57 131071) HT_ ?_
                refine pureP_ 17 (some 36) (bits_ 57 262143) HT_ ?_
                refine pureP_ 19 (some 38) (bits_ 57 786431) HT_ ?_
                refine takeP_ 20 (some 39) (bits_ 57 1835007) HT_ HW_ hHeld ?_
                refine oneP_ 18 (some 37) (bits_ 57 2097151) HT_ (fun K hK => ?_)
                refine goN_ Try.func30 #[.int .i64 a0_0, .int .u8 122] ?_
                with_reducible refine (impl_has.calls k1 a0_0 122 t235 _ A16.out).mono ?_
                rintro e w88 ⟨rfl, hb⟩
                refine ⟨_, rfl, ?_⟩
                replace BK228 := blkBel_ BK228.out hb
                replace HB := stepB_ hb
                (try clear hb)
                refine hK.out _ _ (hc11_ BK228.out) (fun hHeld => ?_)
                clear hK K
                refine normP_ (some 37) ?_
                refine oneP_ 21 (some 40) (bits_ 57 4194303) HT_ (fun K hK => ?_)
                refine goN_ Try.func29 #[.bool t235, .int .i64 a0_3, .int .i64 0, .int .i64 256] ?_
                with_reducible refine (impl_partOk.calls t235 a0_3 0 256 false _ A17.out).mono ?_
                rintro e w' ⟨rfl, ⟨nd, rfl⟩⟩
                refine ⟨_, rfl, ?_⟩
                refine hK.out _ _ (hc11_ BK228.out) (fun hHeld => ?_)
                clear hK K
                refine normP_ (some 40) ?_
                refine pureP_ 22 (some 41) (bits_ 57 8388607) HT_ ?_
                refine pureP_ 23 (some 42) (bits_ 57 16777215) HT_ ?_
                refine pure_ (i := 24) (N := some 43) (v := undef) (a' := ?_) #[true, true, true, true, true, true, true, true, true, true, true, true, true, true, true, true, true, true, true, true, true, true, true, true, true, false, false, false, false, false, false, false, false, false, false, false, false, false, false, false, false, false, false, false, false, false, false, false, false, false, false, false, false, false, false, false, false] rfl rfl (any_of HT_.out (by kernel_rfl)) (fun _ _ _ h => h) (Or.inr ⟨by rfl, rfl⟩) ?_ ?_
                rotate_left
                · simp only [Act.put, List.setIfInBounds_toArray, List.set_cons_zero, List.set_cons_succ, i64_w, i32_w]
                  rfl
                refine pure_ (i := 25) (N := some 44) (v := undef) (a' := ?_) #[true, true, true, true, true, true, true, true, true, true, true, true, true, true, true, true, true, true, true, true, true, true, true, true, true, true, false, false, false, false, false, false, false, false, false, false, false, false, false, false, false, false, false, false, false, false, false, false, false, false, false, false, false, false, false, false, false] rfl rfl (any_of HT_.out (by kernel_rfl)) (fun _ _ _ h => h) (Or.inr ⟨by rfl, rfl⟩) ?_ ?_
                rotate_left
                · simp only [Act.put, List.setIfInBounds_toArray, List.set_cons_zero, List.set_cons_succ, i64_w, i32_w]
                  rfl
                refine pure_ (i := 26) (N := some 45) (v := undef) (a' := ?_) #[true, true, true, true, true, true, true, true, true, true, true, true, true, true, true, true, true, true, true, true, true, true, true, true, true, true, true, false, false, false, false, false, false, false, false, false, false, false, false, false, false, false, false, false, false, false, false, false, false, false, false, false, false, false, false, false, false] rfl rfl (any_of HT_.out (by kernel_rfl)) (fun _ _ _ h => h) (Or.inr ⟨by rfl, rfl⟩) ?_ ?_
                rotate_left
                · simp only [Act.put, List.setIfInBounds_toArray, List.set_cons_zero, List.set_cons_succ, i64_w, i32_w]
                  rfl
                refine pure_ (i := 27) (N := some 46) (v := undef) (a' := ?_) #[true, true, true, true, true, true, true, true, true, true, true, true, true, true, true, true, true, true, true, true, true, true, true, true, true, true, true, true, false, false, false, false, false, false, false, false, false, false, false, false, false, false, false, false, false, false, false, false, false, false, false, false, false, false, false, false, false] rfl rfl (any_of HT_.out (by kernel_rfl)) (fun _ _ _ h => h) (Or.inr ⟨by rfl, rfl⟩) ?_ ?_
                rotate_left
                · simp only [Act.put, List.setIfInBounds_toArray, List.set_cons_zero, List.set_cons_succ, i64_w, i32_w]
                  rfl
                refine pure_ (i := 28) (N := some 47) (v := undef) (a' := ?_) #[true, true, true, true, true, true, true, true, true, true, true, true, true, true, true, true, true, true, true, true, true, true, true, true, true, true, true, true, true, false, false, false, false, false, false, false, false, false, false, false, false, false, false, false, false, false, false, false, false, false, false, false, false, false, false, false, false] rfl rfl (any_of HT_.out (by kernel_rfl)) (fun _ _ _ h => h) (Or.inr ⟨by rfl, rfl⟩) ?_ ?_
                rotate_left
                · simp only [Act.put, List.setIfInBounds_toArray, List.set_cons_zero, List.set_cons_succ, i64_w, i32_w]
                  rfl
                refine pure_ (i := 29) (N := some 48) (v := undef) (a' := ?_) #[true, true, true, true, true, true, true, true, true, true, true, true, true, true, true, true, true, true, true, true, true, true, true, true, true, true, true, true, true, true, false, false, false, false, false, false, false, false, false, false, false, false, false, false, false, false, false, false, false, false, false, false, false, false, false, false, false] rfl rfl (any_of HT_.out (by kernel_rfl)) (fun _ _ _ h => h) (Or.inr ⟨by rfl, rfl⟩) ?_ ?_
                rotate_left
                · simp only [Act.put, List.setIfInBounds_toArray, List.set_cons_zero, List.set_cons_succ, i64_w, i32_w]
                  rfl
                refine pure_ (i := 30) (N := some 49) (v := undef) (a' := ?_) #[true, true, true, true, true, true, true, true, true, true, true, true, true, true, true, true, true, true, true, true, true, true, true, true, true, true, true, true, true, true, true, false, false, false, false, false, false, false, false, false, false, false, false, false, false, false, false, false, false, false, false, false, false, false, false, false, false] rfl rfl (any_of HT_.out (by kernel_rfl)) (fun _ _ _ h => h) (Or.inr ⟨by rfl, rfl⟩) ?_ ?_
                rotate_left
                · simp only [Act.put, List.setIfInBounds_toArray, List.set_cons_zero, List.set_cons_succ, i64_w, i32_w]
                  rfl
                refine pure_ (i := 31) (N := some 50) (v := undef) (a' := ?_) #[true, true, true, true, true, true, true, true, true, true, true, true, true, true, true, true, true, true, true, true, true, true, true, true, true, true, true, true, true, true, true, true, false, false, false, false, false, false, false, false, false, false, false, false, false, false, false, false, false, false, false, false, false, false, false, false, false] rfl rfl (any_of HT_.out (by kernel_rfl)) (fun _ _ _ h => h) (Or.inr ⟨by rfl, rfl⟩) ?_ ?_
                rotate_left
                · simp only [Act.put, List.setIfInBounds_toArray, List.set_cons_zero, List.set_cons_succ, i64_w, i32_w]
                  rfl
                refine pureP_ 32 (some 51) (bits_ 57 8589934591) HT_ ?_
                refine pureP_ 33 (some 52) (bits_ 57 17179869183) HT_ ?_
                refine pure_ (i := 34) (N := some 53) (v := undef) (a' := ?_) #[true, true, true, true, true, true, true, true, true, true, true, true, true, true, true, true, true, true, true, true, true, true, true, true, true, true, true, true, true, true, true, true, true, true, true, false, false, false, false, false, false, false, false, false, false, false, false, false, false, false, false, false, false, false, false, false, false] rfl rfl (any_of HT_.out (by kernel_rfl)) (fun _ _ _ h => h) (Or.inr ⟨by rfl, rfl⟩) ?_ ?_
                rotate_left
                · simp only [Act.put, List.setIfInBounds_toArray, List.set_cons_zero, List.set_cons_succ, i64_w, i32_w]
                  rfl
                refine pure_ (i := 35) (N := some 54) (v := undef) (a' := ?_) #[true, true, true, true, true, true, true, true, true, true, true, true, true, true, true, true, true, true, true, true, true, true, true, true, true, true, true, true, true, true, true, true, true, true, true, true, false, false, false, false, false, false, false, false, false, false, false, false, false, false, false, false, false, false, false, false, false] rfl rfl (any_of HT_.out (by kernel_rfl)) (fun _ _ _ h => h) (Or.inr ⟨by rfl, rfl⟩) ?_ ?_
                rotate_left
                · simp only [Act.put, List.setIfInBounds_toArray, List.set_cons_zero, List.set_cons_succ, i64_w, i32_w]
                  rfl
                refine pure_ (i := 36) (N := some 55) (v := undef) (a' := ?_) #[true, true, true, true, true, true, true, true, true, true, true, true, true, true, true, true, true, true, true, true, true, true, true, true, true, true, true, true, true, true, true, true, true, true, true, true, true, false, false, false, false, false, false, false, false, false, false, false, false, false, false, false, false, false, false, false, false] rfl rfl (any_of HT_.out (by kernel_rfl)) (fun _ _ _ h => h) (Or.inr ⟨by rfl, rfl⟩) ?_ ?_
                rotate_left
                · simp only [Act.put, List.setIfInBounds_toArray, List.set_cons_zero, List.set_cons_succ, i64_w, i32_w]
                  rfl
                refine pure_ (i := 37) (N := some 56) (v := undef) (a' := ?_) #[true, true, true, true, true, true, true, true, true, true, true, true, true, true, true, true, true, true, true, true, true, true, true, true, true, true, true, true, true, true, true, true, true, true, true, true, true, true, false, false, false, false, false, false, false, false, false, false, false, false, false, false, false, false, false, false, false] rfl rfl (any_of HT_.out (by kernel_rfl)) (fun _ _ _ h => h) (Or.inr ⟨by rfl, rfl⟩) ?_ ?_
                rotate_left
                · simp only [Act.put, List.setIfInBounds_toArray, List.set_cons_zero, List.set_cons_succ, i64_w, i32_w]
                  rfl
                refine pure_ (i := 38) (N := some 57) (v := undef) (a' := ?_) #[true, true, true, true, true, true, true, true, true, true, true, true, true, true, true, true, true, true, true, true, true, true, true, true, true, true, true, true, true, true, true, true, true, true, true, true, true, true, true, false, false, false, false, false, false, false, false, false, false, false, false, false, false, false, false, false, false] rfl rfl (any_of HT_.out (by kernel_rfl)) (fun _ _ _ h => h) (Or.inr ⟨by rfl, rfl⟩) ?_ ?_
                rotate_left
                · simp only [Act.put, List.setIfInBounds_toArray, List.set_cons_zero, List.set_cons_succ, i64_w, i32_w]
                  rfl
                refine pureP_ 39 (some 58) (bits_ 57 1099511627775) HT_ ?_
                refine pureP_ 40 (some 59) (bits_ 57 2199023255551) HT_ ?_
                refine pure_ (i := 41) (N := some 60) (v := undef) (a' := ?_) #[true, true, true, true, true, true, true, true, true, true, true, true, true, true, true, true, true, true, true, true, true, true, true, true, true, true, true, true, true, true, true, true, true, true, true, true, true, true, true, true, true, true, false, false, false, false, false, false, false, false, false, false, false, false, false, false, false] rfl rfl (any_of HT_.out (by kernel_rfl)) (fun _ _ _ h => h) (Or.inr ⟨by rfl, rfl⟩) ?_ ?_
                rotate_left
                · simp only [Act.put, List.setIfInBounds_toArray, List.set_cons_zero, List.set_cons_succ, i64_w, i32_w]
                  rfl
                refine pure_ (i := 42) (N := some 61) (v := undef) (a' := ?_) #[true, true, true, true, true, true, true, true, true, true, true, true, true, true, true, true, true, true, true, true, true, true, true, true, true, true, true, true, true, true, true, true, true, true, true, true, true, true, true, true, true, true, true, false, false, false, false, false, false, false, false, false, false, false, false, false, false] rfl rfl (any_of HT_.out (by kernel_rfl)) (fun _ _ _ h => h) (Or.inr ⟨by rfl, rfl⟩) ?_ ?_
                rotate_left
                · simp only [Act.put, List.setIfInBounds_toArray, List.set_cons_zero, List.set_cons_succ, i64_w, i32_w]
                  rfl
                refine pure_ (i := 43) (N := some 62) (v := undef) (a' := ?_) #[true, true, true, true, true, true, true, true, true, true, true, true, true, true, true, true, true, true, true, true, true, true, true, true, true, true, true, true, true, true, true, true, true, true, true, true, true, true, true, true, true, true, true, true, false, false, false, false, false, false, false, false, false, false, false, false, false] rfl rfl (any_of HT_.out (by kernel_rfl)) (fun _ _ _ h => h) (Or.inr ⟨by rfl, rfl⟩) ?_ ?_
                rotate_left
                · simp only [Act.put, List.setIfInBounds_toArray, List.set_cons_zero, List.set_cons_succ, i64_w, i32_w]
                  rfl
                refine pure_ (i := 44) (N := some 63) (v := undef) (a' := ?_) #[true, true, true, true, true, true, true, true, true, true, true, true, true, true, true, true, true, true, true, true, true, true, true, true, true, true, true, true, true, true, true, true, true, true, true, true, true, true, true, true, true, true, true, true, true, false, false, false, false, false, false, false, false, false, false, false, false] rfl rfl (any_of HT_.out (by kernel_rfl)) (fun _ _ _ h => h) (Or.inr ⟨by rfl, rfl⟩) ?_ ?_
                rotate_left
                · simp only [Act.put, List.setIfInBounds_toArray, List.set_cons_zero, List.set_cons_succ, i64_w, i32_w]
                  rfl
                refine pure_ (i := 45) (N := some 64) (v := undef) (a' := ?_) #[true, true, true, true, true, true, true, true, true, true, true, true, true, true, true, true, true, true, true, true, true, true, true, true, true, true, true, true, true, true, true, true, true, true, true, true, true, true, true, true, true, true, true, true, true, true, false, false, false, false, false, false, false, false, false, false, false] rfl rfl (any_of HT_.out (by kernel_rfl)) (fun _ _ _ h => h) (Or.inr ⟨by rfl, rfl⟩) ?_ ?_
                rotate_left
                · simp only [Act.put, List.setIfInBounds_toArray, List.set_cons_zero, List.set_cons_succ, i64_w, i32_w]
                  rfl
                refine pure_ (i := 46) (N := some 65) (v := undef) (a' := ?_) #[true, true, true, true, true, true, true, true, true, true, true, true, true, true, true, true, true, true, true, true, true, true, true, true, true, true, true, true, true, true, true, true, true, true, true, true, true, true, true, true, true, true, true, true, true, true, true, false, false, false, false, false, false, false, false, false, false] rfl rfl (any_of HT_.out (by kernel_rfl)) (fun _ _ _ h => h) (Or.inr ⟨by rfl, rfl⟩) ?_ ?_
                rotate_left
                · simp only [Act.put, List.setIfInBounds_toArray, List.set_cons_zero, List.set_cons_succ, i64_w, i32_w]
                  rfl
                refine pureP_ 47 (some 66) (bits_ 57 281474976710655) HT_ ?_
                refine pureP_ 48 (some 67) (bits_ 57 562949953421311) HT_ ?_
                refine pure_ (i := 49) (N := some 68) (v := undef) (a' := ?_) #[true, true, true, true, true, true, true, true, true, true, true, true, true, true, true, true, true, true, true, true, true, true, true, true, true, true, true, true, true, true, true, true, true, true, true, true, true, true, true, true, true, true, true, true, true, true, true, true, true, true, false, false, false, false, false, false, false] rfl rfl (any_of HT_.out (by kernel_rfl)) (fun _ _ _ h => h) (Or.inr ⟨by rfl, rfl⟩) ?_ ?_
                rotate_left
                · simp only [Act.put, List.setIfInBounds_toArray, List.set_cons_zero, List.set_cons_succ, i64_w, i32_w]
                  rfl
                refine pure_ (i := 50) (N := some 69) (v := undef) (a' := ?_) #[true, true, true, true, true, true, true, true, true, true, true, true, true, true, true, true, true, true, true, true, true, true, true, true, true, true, true, true, true, true, true, true, true, true, true, true, true, true, true, true, true, true, true, true, true, true, true, true, true, true, true, false, false, false, false, false, false] rfl rfl (any_of HT_.out (by kernel_rfl)) (fun _ _ _ h => h) (Or.inr ⟨by rfl, rfl⟩) ?_ ?_
                rotate_left
                · simp only [Act.put, List.setIfInBounds_toArray, List.set_cons_zero, List.set_cons_succ, i64_w, i32_w]
                  rfl
                refine pure_ (i := 51) (N := some 70) (v := undef) (a' := ?_) #[true, true, true, true, true, true, true, true, true, true, true, true, true, true, true, true, true, true, true, true, true, true, true, true, true, true, true, true, true, true, true, true, true, true, true, true, true, true, true, true, true, true, true, true, true, true, true, true, true, true, true, true, false, false, false, false, false] rfl rfl (any_of HT_.out (by kernel_rfl)) (fun _ _ _ h => h) (Or.inr ⟨by rfl, rfl⟩) ?_ ?_
                rotate_left
                · simp only [Act.put, List.setIfInBounds_toArray, List.set_cons_zero, List.set_cons_succ, i64_w, i32_w]
                  rfl
                refine pure_ (i := 52) (N := some 71) (v := undef) (a' := ?_) #[true, true, true, true, true, true, true, true, true, true, true, true, true, true, true, true, true, true, true, true, true, true, true, true, true, true, true, true, true, true, true, true, true, true, true, true, true, true, true, true, true, true, true, true, true, true, true, true, true, true, true, true, true, false, false, false, false] rfl rfl (any_of HT_.out (by kernel_rfl)) (fun _ _ _ h => h) (Or.inr ⟨by rfl, rfl⟩) ?_ ?_
                rotate_left
                · simp only [Act.put, List.setIfInBounds_toArray, List.set_cons_zero, List.set_cons_succ, i64_w, i32_w]
                  rfl
                refine pure_ (i := 53) (N := some 72) (v := undef) (a' := ?_) #[true, true, true, true, true, true, true, true, true, true, true, true, true, true, true, true, true, true, true, true, true, true, true, true, true, true, true, true, true, true, true, true, true, true, true, true, true, true, true, true, true, true, true, true, true, true, true, true, true, true, true, true, true, true, false, false, false] rfl rfl (any_of HT_.out (by kernel_rfl)) (fun _ _ _ h => h) (Or.inr ⟨by rfl, rfl⟩) ?_ ?_
                rotate_left
                · simp only [Act.put, List.setIfInBounds_toArray, List.set_cons_zero, List.set_cons_succ, i64_w, i32_w]
                  rfl
                refine pure_ (i := 54) (N := some 73) (v := undef) (a' := ?_) #[true, true, true, true, true, true, true, true, true, true, true, true, true, true, true, true, true, true, true, true, true, true, true, true, true, true, true, true, true, true, true, true, true, true, true, true, true, true, true, true, true, true, true, true, true, true, true, true, true, true, true, true, true, true, true, false, false] rfl rfl (any_of HT_.out (by kernel_rfl)) (fun _ _ _ h => h) (Or.inr ⟨by rfl, rfl⟩) ?_ ?_
                rotate_left
                · simp only [Act.put, List.setIfInBounds_toArray, List.set_cons_zero, List.set_cons_succ, i64_w, i32_w]
                  rfl
                refine pureP_ 55 (some 74) (bits_ 57 72057594037927935) HT_ ?_
                refine pureP_ 56 (some 2) (bits_ 57 144115188075855871) HT_ ?_
                refine done_ (done_of HT_.out (by kernel_rfl)) ?_
                try go_wp2
                go_ret
                exact ⟨rfl_, bel_⟩
            · replace c15 := Bool.eq_false_iff.mpr c15
              subst c15
              rw [if_neg (show ¬ (false = true) by decide)] at H
              obtain rfl := Option.some.inj H
              try go_wp2
              replace BK228 := Aside0.mk (blk_drew BK228.out)
              replace HB := Aside0.mk (below_drew1 HB.out)
              refine start_ (n := 57) (S := fun w' => w'.cell? ⟨gb228, 0, none⟩ = some (.int .i64 a0_0) ∧ w'.cell? ⟨gb228, 1, none⟩ = some (.int .i64 a0_1) ∧ w'.cell? ⟨gb228, 2, none⟩ = some (.int .i64 a0_2) ∧ w'.cell? ⟨gb228, 3, none⟩ = some (.int .i64 a0_3) ∧ w'.cell? ⟨gb228, 4, none⟩ = some (.int .u64 a0_4) ∧ w'.cell? ⟨gb228, 5, none⟩ = some (.int .u64 a0_5) ∧ w'.cell? ⟨gb228, 6, none⟩ = some (.int .u64 a0_6) ∧ w'.cell? ⟨gb228, 7, none⟩ = some (.int .u64 a0_7) ∧ w'.cell? ⟨gb228, 8, none⟩ = some (.int .i64 a0_8) ∧ w'.cell? ⟨gb228, 9, none⟩ = some (.slice A0_9 l0_9.length c0_9) ∧ w'.cell? ⟨gb228, 10, none⟩ = some (.slice A0_10 l0_10.length c0_10)) (ds := []) #[false, false, false, false, false, false, false, false, false, false, false, false, false, false, false, false, false, false, false, false, false, false, false, false, false, false, false, false, false, false, false, false, false, false, false, false, false, false, false, false, false, false, false, false, false, false, false, false, false, false, false, false, false, false, false, false, false] (by kernel_rfl) rfl rfl (hc11_ BK228.out) (fun hHeld => ?_); refine with_tabW impl_WireOk.tab8 impl_WireOk.bits8 (fun HT_ HW_ => ?_)
              generalize wr.drew = w89 at BK228 HB hHeld ⊢
              refine pureP_ 0 (some 19) (bits_ 57 1) HT_ ?_
              refine oneP_ 1 (some 20) (bits_ 57 3) HT_ (fun K hK => ?_)
              refine goN_ Try.func28 #[.int .i64 a0_0, .int .i64 1, .int .i64 8] ?_
              with_reducible refine (impl_in.calls a0_0 1 8 true _ A8.out).mono ?_
              rintro e w' ⟨rfl, ⟨nd, rfl⟩⟩
              refine ⟨_, rfl, ?_⟩
              refine hK.out _ _ (hc11_ BK228.out) (fun hHeld => ?_)
              clear hK K
              refine normP_ (some 20) ?_
              refine pureP_ 2 (some 21) (bits_ 57 7) HT_ ?_
              refine pureP_ 3 (some 22) (bits_ 57 15) HT_ ?_
              refine pureP_ 5 (some 24) (bits_ 57 47) HT_ ?_
              refine takeP_ 6 (some 25) (bits_ 57 111) HT_ HW_ hHeld ?_
              refine oneP_ 4 (some 23) (bits_ 57 127) HT_ (fun K hK => ?_)
              refine goN_ Try.func30 #[.int .i64 a0_0, .int .u8 115] ?_
              with_reducible refine (impl_has.calls k1 a0_0 115 t231 _ A10.out).mono ?_
              rintro e w90 ⟨rfl, hb⟩
              refine ⟨_, rfl, ?_⟩
              replace BK228 := blkBel_ BK228.out hb
              replace HB := stepB_ hb
              (try clear hb)
              refine hK.out _ _ (hc11_ BK228.out) (fun hHeld => ?_)
              clear hK K
              refine normP_ (some 23) ?_
              refine oneP_ 7 (some 26) (bits_ 57 255) HT_ (fun K hK => ?_)
              refine goN_ Try.func29 #[.bool t231, .int .i64 a0_1, .int .i64 1, .int .i64 1000000] ?_
              with_reducible refine (impl_partOk.calls t231 a0_1 1 1000000 true _ A11.out).mono ?_
              rintro e w' ⟨rfl, ⟨nd, rfl⟩⟩
              refine ⟨_, rfl, ?_⟩
              refine hK.out _ _ (hc11_ BK228.out) (fun hHeld => ?_)
              clear hK K
              refine normP_ (some 26) ?_
              refine pureP_ 8 (some 27) (bits_ 57 511) HT_ ?_
              refine pureP_ 9 (some 28) (bits_ 57 1023) HT_ ?_
              refine pureP_ 10 (some 29) (bits_ 57 2047) HT_ ?_
              refine pureP_ 12 (some 31) (bits_ 57 6143) HT_ ?_
              refine takeP_ 13 (some 32) (bits_ 57 14335) HT_ HW_ hHeld ?_
              refine oneP_ 11 (some 30) (bits_ 57 16383) HT_ (fun K hK => ?_)
              refine goN_ Try.func30 #[.int .i64 a0_0, .int .u8 102] ?_
              with_reducible refine (impl_has.calls k1 a0_0 102 t233 _ A13.out).mono ?_
              rintro e w91 ⟨rfl, hb⟩
              refine ⟨_, rfl, ?_⟩
              replace BK228 := blkBel_ BK228.out hb
              replace HB := stepB_ hb
              (try clear hb)
              refine hK.out _ _ (hc11_ BK228.out) (fun hHeld => ?_)
              clear hK K
              refine normP_ (some 30) ?_
              refine oneP_ 14 (some 33) (bits_ 57 32767) HT_ (fun K hK => ?_)
              refine goN_ Try.func29 #[.bool t233, .int .i64 a0_2, .int .i64 0, .int .i64 256] ?_
              with_reducible refine (impl_partOk.calls t233 a0_2 0 256 false _ A14.out).mono ?_
              rintro e w' ⟨rfl, ⟨nd, rfl⟩⟩
              refine ⟨_, rfl, ?_⟩
              refine hK.out _ _ (hc11_ BK228.out) (fun hHeld => ?_)
              clear hK K
              refine normP_ (some 33) ?_
              refine pureP_ 15 (some 34) (bits_ 57 65535) HT_ ?_
              refine pureP_ 16 (some 35) (bits_ 57 131071) HT_ ?_
              refine pure_ (i := 17) (N := some 36) (v := undef) (a' := ?_) #[true, true, true, true, true, true, true, true, true, true, true, true, true, true, true, true, true, true, false, false, false, false, false, false, false, false, false, false, false, false, false, false, false, false, false, false, false, false, false, false, false, false, false, false, false, false, false, false, false, false, false, false, false, false, false, false, false] rfl rfl (any_of HT_.out (by kernel_rfl)) (fun _ _ _ h => h) (Or.inr ⟨by rfl, rfl⟩) ?_ ?_
              rotate_left
              · simp only [Act.put, List.setIfInBounds_toArray, List.set_cons_zero, List.set_cons_succ, i64_w, i32_w]
                rfl
              refine pure_ (i := 18) (N := some 37) (v := undef) (a' := ?_) #[true, true, true, true, true, true, true, true, true, true, true, true, true, true, true, true, true, true, true, false, false, false, false, false, false, false, false, false, false, false, false, false, false, false, false, false, false, false, false, false, false, false, false, false, false, false, false, false, false, false, false, false, false, false, false, false, false] rfl rfl (any_of HT_.out (by kernel_rfl)) (fun _ _ _ h => h) (Or.inr ⟨by rfl, rfl⟩) ?_ ?_
              rotate_left
              · simp only [Act.put, List.setIfInBounds_toArray, List.set_cons_zero, List.set_cons_succ, i64_w, i32_w]
                rfl
              refine pure_ (i := 19) (N := some 38) (v := undef) (a' := ?_) #[true, true, true, true, true, true, true, true, true, true, true, true, true, true, true, true, true, true, true, true, false, false, false, false, false, false, false, false, false, false, false, false, false, false, false, false, false, false, false, false, false, false, false, false, false, false, false, false, false, false, false, false, false, false, false, false, false] rfl rfl (any_of HT_.out (by kernel_rfl)) (fun _ _ _ h => h) (Or.inr ⟨by rfl, rfl⟩) ?_ ?_
              rotate_left
              · simp only [Act.put, List.setIfInBounds_toArray, List.set_cons_zero, List.set_cons_succ, i64_w, i32_w]
                rfl
              refine pure_ (i := 20) (N := some 39) (v := undef) (a' := ?_) #[true, true, true, true, true, true, true, true, true, true, true, true, true, true, true, true, true, true, true, true, true, false, false, false, false, false, false, false, false, false, false, false, false, false, false, false, false, false, false, false, false, false, false, false, false, false, false, false, false, false, false, false, false, false, false, false, false] rfl rfl (any_of HT_.out (by kernel_rfl)) (fun _ _ _ h => h) (Or.inr ⟨by rfl, rfl⟩) ?_ ?_
              rotate_left
              · simp only [Act.put, List.setIfInBounds_toArray, List.set_cons_zero, List.set_cons_succ, i64_w, i32_w]
                rfl
              refine pure_ (i := 21) (N := some 40) (v := undef) (a' := ?_) #[true, true, true, true, true, true, true, true, true, true, true, true, true, true, true, true, true, true, true, true, true, true, false, false, false, false, false, false, false, false, false, false, false, false, false, false, false, false, false, false, false, false, false, false, false, false, false, false, false, false, false, false, false, false, false, false, false] rfl rfl (any_of HT_.out (by kernel_rfl)) (fun _ _ _ h => h) (Or.inr ⟨by rfl, rfl⟩) ?_ ?_
              rotate_left
              · simp only [Act.put, List.setIfInBounds_toArray, List.set_cons_zero, List.set_cons_succ, i64_w, i32_w]
                rfl
              refine pureP_ 22 (some 41) (bits_ 57 8388607) HT_ ?_
              refine pureP_ 23 (some 42) (bits_ 57 16777215) HT_ ?_
              refine pure_ (i := 24) (N := some 43) (v := undef) (a' := ?_) #[true, true, true, true, true, true, true, true, true, true, true, true, true, true, true, true, true, true, true, true, true, true, true, true, true, false, false, false, false, false, false, false, false, false, false, false, false, false, false, false, false, false, false, false, false, false, false, false, false, false, false, false, false, false, false, false, false] rfl rfl (any_of HT_.out (by kernel_rfl)) (fun _ _ _ h => h) (Or.inr ⟨by rfl, rfl⟩) ?_ ?_
              rotate_left
              · simp only [Act.put, List.setIfInBounds_toArray, List.set_cons_zero, List.set_cons_succ, i64_w, i32_w]
                rfl
              refine pure_ (i := 25) (N := some 44) (v := undef) (a' := ?_) #[true, true, true, true, true, true, true, true, true, true, true, true, true, true, true, true, true, true, true, true, true, true, true, true, true, true, false, false, false, false, false, false, false, false, false, false, false, false, false, false, false, false, false, false, false, false, false, false, false, false, false, false, false, false, false, false, false] rfl rfl (any_of HT_.out (by kernel_rfl)) (fun _ _ _ h => h) (Or.inr ⟨by rfl, rfl⟩) ?_ ?_
              rotate_left
              · simp only [Act.put, List.setIfInBounds_toArray, List.set_cons_zero, List.set_cons_succ, i64_w, i32_w]
                rfl
              refine pure_ (i := 26) (N := some 45) (v := undef) (a' := ?_) #[true, true, true, true, true, true, true, true, true, true, true, true, true, true, true, true, true, true, true, true, true, true, true, true, true, true, true, false, false, false, false, false, false, false, false, false, false, false, false, false, false, false, false, false, false, false, false, false, false, false, false, false, false, false, false, false, false] rfl rfl (any_of HT_.out (by kernel_rfl)) (fun _ _ _ h => h) (Or.inr ⟨by rfl, rfl⟩) ?_ ?_
              rotate_left
              · simp only [Act.put, List.setIfInBounds_toArray, List.set_cons_zero, List.set_cons_succ, i64_w, i32_w]
                rfl
              refine pure_ (i := 27) (N := some 46) (v := undef) (a' := ?_) #[true, true, true, true, true, true, true, true, true, true, true, true, true, true, true, true, true, true, true, true, true, true, true, true, true, true, true, true, false, false, false, false, false, false, false, false, false, false, false, false, false, false, false, false, false, false, false, false, false, false, false, false, false, false, false, false, false] rfl rfl (any_of HT_.out (by kernel_rfl)) (fun _ _ _ h => h) (Or.inr ⟨by rfl, rfl⟩) ?_ ?_
              rotate_left
              · simp only [Act.put, List.setIfInBounds_toArray, List.set_cons_zero, List.set_cons_succ, i64_w, i32_w]
                rfl
              refine pure_ (i := 28) (N := some 47) (v := undef) (a' := ?_) #[true, true, true, true, true, true, true, true, true, true, true, true, true, true, true, true, true, true, true, true, true, true, true, true, true, true, true, true, true, false, false, false, false, false, false, false, false, false, false, false, false, false, false, false, false, false, false, false, false, false, false, false, false, false, false, false, false] rfl rfl (any_of HT_.out (by kernel_rfl)) (fun _ _ _ h => h) (Or.inr ⟨by rfl, rfl⟩) ?_ ?_
              rotate_left
              · simp only [Act.put, List.setIfInBounds_toArray, List.set_cons_zero, List.set_cons_succ, i64_w, i32_w]
                rfl
              refine pure_ (i := 29) (N := some 48) (v := undef) (a' := ?_) #[true, true, true, true, true, true, true, true, true, true, true, true, true, true, true, true, true, true, true, true, true, true, true, true, true, true, true, true, true, true, false, false, false, false, false, false, false, false, false, false, false, false, false, false, false, false, false, false, false, false, false, false, false, false, false, false, false] rfl rfl (any_of HT_.out (by kernel_rfl)) (fun _ _ _ h => h) (Or.inr ⟨by rfl, rfl⟩) ?_ ?_
              rotate_left
              · simp only [Act.put, List.setIfInBounds_toArray, List.set_cons_zero, List.set_cons_succ, i64_w, i32_w]
                rfl
              refine pure_ (i := 30) (N := some 49) (v := undef) (a' := ?_) #[true, true, true, true, true, true, true, true, true, true, true, true, true, true, true, true, true, true, true, true, true, true, true, true, true, true, true, true, true, true, true, false, false, false, false, false, false, false, false, false, false, false, false, false, false, false, false, false, false, false, false, false, false, false, false, false, false] rfl rfl (any_of HT_.out (by kernel_rfl)) (fun _ _ _ h => h) (Or.inr ⟨by rfl, rfl⟩) ?_ ?_
              rotate_left
              · simp only [Act.put, List.setIfInBounds_toArray, List.set_cons_zero, List.set_cons_succ, i64_w, i32_w]
                rfl
              refine pure_ (i := 31) (N := some 50) (v := undef) (a' := ?_) #[true, true, true, true, true, true, true, true, true, true, true, true, true, true, true, true, true, true, true, true, true, true, true, true, true, true, true, true, true, true, true, true, false, false, false, false, false, false, false, false, false, false, false, false, false, false, false, false, false, false, false, false, false, false, false, false, false] rfl rfl (any_of HT_.out (by kernel_rfl)) (fun _ _ _ h => h) (Or.inr ⟨by rfl, rfl⟩) ?_ ?_
              rotate_left
              · simp only [Act.put, List.setIfInBounds_toArray, List.set_cons_zero, List.set_cons_succ, i64_w, i32_w]
                rfl
              refine pureP_ 32 (some 51) (bits_ 57 8589934591) HT_ ?_
              refine pureP_ 33 (some 52) (bits_ 57 17179869183) HT_ ?_
              refine pure_ (i := 34) (N := some 53) (v := undef) (a' := ?_) #[true, true, true, true, true, true, true, true, true, true, true, true, true, true, true, true, true, true, true, true, true, true, true, true, true, true, true, true, true, true, true, true, true, true, true, false, false, false, false, false, false, false, false, false, false, false, false, false, false, false, false, false, false, false, false, false, false] rfl rfl (any_of HT_.out (by kernel_rfl)) (fun _ _ _ h => h) (Or.inr ⟨by rfl, rfl⟩) ?_ ?_
              rotate_left
              · simp only [Act.put, List.setIfInBounds_toArray, List.set_cons_zero, List.set_cons_succ, i64_w, i32_w]
                rfl
              refine pure_ (i := 35) (N := some 54) (v := undef) (a' := ?_) #[true, true, true, true, true, true, true, true, true, true, true, true, true, true, true, true, true, true, true, true, true, true, true, true, true, true, true, true, true, true, true, true, true, true, true, true, false, false, false, false, false, false, false, false, false, false, false, false, false, false, false, false, false, false, false, false, false] rfl rfl (any_of HT_.out (by kernel_rfl)) (fun _ _ _ h => h) (Or.inr ⟨by rfl, rfl⟩) ?_ ?_
              rotate_left
              · simp only [Act.put, List.setIfInBounds_toArray, List.set_cons_zero, List.set_cons_succ, i64_w, i32_w]
                rfl
              refine pure_ (i := 36) (N := some 55) (v := undef) (a' := ?_) #[true, true, true, true, true, true, true, true, true, true, true, true, true, true, true, true, true, true, true, true, true, true, true, true, true, true, true, true, true, true, true, true, true, true, true, true, true, false, false, false, false, false, false, false, false, false, false, false, false, false, false, false, false, false, false, false, false] rfl rfl (any_of HT_.out (by kernel_rfl)) (fun _ _ _ h => h) (Or.inr ⟨by rfl, rfl⟩) ?_ ?_
              rotate_left
              · simp only [Act.put, List.setIfInBounds_toArray, List.set_cons_zero, List.set_cons_succ, i64_w, i32_w]
                rfl
              refine pure_ (i := 37) (N := some 56) (v := undef) (a' := ?_) #[true, true, true, true, true, true, true, true, true, true, true, true, true, true, true, true, true, true, true, true, true, true, true, true, true, true, true, true, true, true, true, true, true, true, true, true, true, true, false, false, false, false, false, false, false, false, false, false, false, false, false, false, false, false, false, false, false] rfl rfl (any_of HT_.out (by kernel_rfl)) (fun _ _ _ h => h) (Or.inr ⟨by rfl, rfl⟩) ?_ ?_
              rotate_left
              · simp only [Act.put, List.setIfInBounds_toArray, List.set_cons_zero, List.set_cons_succ, i64_w, i32_w]
                rfl
              refine pure_ (i := 38) (N := some 57) (v := undef) (a' := ?_) #[true, true, true, true, true, true, true, true, true, true, true, true, true, true, true, true, true, true, true, true, true, true, true, true, true, true, true, true, true, true, true, true, true, true, true, true, true, true, true, false, false, false, false, false, false, false, false, false, false, false, false, false, false, false, false, false, false] rfl rfl (any_of HT_.out (by kernel_rfl)) (fun _ _ _ h => h) (Or.inr ⟨by rfl, rfl⟩) ?_ ?_
              rotate_left
              · simp only [Act.put, List.setIfInBounds_toArray, List.set_cons_zero, List.set_cons_succ, i64_w, i32_w]
                rfl
              refine pureP_ 39 (some 58) (bits_ 57 1099511627775) HT_ ?_
              refine pureP_ 40 (some 59) (bits_ 57 2199023255551) HT_ ?_
              refine pure_ (i := 41) (N := some 60) (v := undef) (a' := ?_) #[true, true, true, true, true, true, true, true, true, true, true, true, true, true, true, true, true, true, true, true, true, true, true, true, true, true, true, true, true, true, true, true, true, true, true, true, true, true, true, true, true, true, false, false, false, false, false, false, false, false, false, false, false, false, false, false, false] rfl rfl (any_of HT_.out (by kernel_rfl)) (fun _ _ _ h => h) (Or.inr ⟨by rfl, rfl⟩) ?_ ?_
              rotate_left
              · simp only [Act.put, List.setIfInBounds_toArray, List.set_cons_zero, List.set_cons_succ, i64_w, i32_w]
                rfl
              refine pure_ (i := 42) (N := some 61) (v := undef) (a' := ?_) #[true, true, true, true, true, true, true, true, true, true, true, true, true, true, true, true, true, true, true, true, true, true, true, true, true, true, true, true, true, true, true, true, true, true, true, true, true, true, true, true, true, true, true, false, false, false, false, false, false, false, false, false, false, false, false, false, false] rfl rfl (any_of HT_.out (by kernel_rfl)) (fun _ _ _ h => h) (Or.inr ⟨by rfl, rfl⟩) ?_ ?_
              rotate_left
              · simp only [Act.put, List.setIfInBounds_toArray, List.set_cons_zero, List.set_cons_succ, i64_w, i32_w]
                rfl
              refine pure_ (i := 43) (N := some 62) (v := undef) (a' := ?_) #[true, true, true, true, true, true, true, true, true, true, true, true, true, true, true, true, true, true, true, true, true, true, true, true, true, true, true, true, true, true, true, true, true, true, true, true, true, true, true, true, true, true, true, true, false, false, false, false, false, false, false, false, false, false, false, false, false] rfl rfl (any_of HT_.out (by kernel_rfl)) (fun _ _ _ h => h) (Or.inr ⟨by rfl, rfl⟩) ?_ ?_
              rotate_left
              · simp only [Act.put, List.setIfInBounds_toArray, List.set_cons_zero, List.set_cons_succ, i64_w, i32_w]
                rfl
              refine pure_ (i := 44) (N := some 63) (v := undef) (a' := ?_) #[true, true, true, true, true, true, true, true, true, true, true, true, true, true, true, true, true, true, true, true, true, true, true, true, true, true, true, true, true, true, true, true, true, true, true, true, true, true, true, true, true, true, true, true, true, false, false, false, false, false, false, false, false, false, false, false, false] rfl rfl (any_of HT_.out (by kernel_rfl)) (fun _ _ _ h => h) (Or.inr ⟨by rfl, rfl⟩) ?_ ?_
              rotate_left
              · simp only [Act.put, List.setIfInBounds_toArray, List.set_cons_zero, List.set_cons_succ, i64_w, i32_w]
                rfl
              refine pure_ (i := 45) (N := some 64) (v := undef) (a' := ?_) #[true, true, true, true, true, true, true, true, true, true, true, true, true, true, true, true, true, true, true, true, true, true, true, true, true, true, true, true, true, true, true, true, true, true, true, true, true, true, true, true, true, true, true, true, true, true, false, false, false, false, false, false, false, false, false, false, false] rfl rfl (any_of HT_.out (by kernel_rfl)) (fun _ _ _ h => h) (Or.inr ⟨by rfl, rfl⟩) ?_ ?_
              rotate_left
              · simp only [Act.put, List.setIfInBounds_toArray, List.set_cons_zero, List.set_cons_succ, i64_w, i32_w]
                rfl
              refine pure_ (i := 46) (N := some 65) (v := undef) (a' := ?_) #[true, true, true, true, true, true, true, true, true, true, true, true, true, true, true, true, true, true, true, true, true, true, true, true, true, true, true, true, true, true, true, true, true, true, true, true, true, true, true, true, true, true, true, true, true, true, true, false, false, false, false, false, false, false, false, false, false] rfl rfl (any_of HT_.out (by kernel_rfl)) (fun _ _ _ h => h) (Or.inr ⟨by rfl, rfl⟩) ?_ ?_
              rotate_left
              · simp only [Act.put, List.setIfInBounds_toArray, List.set_cons_zero, List.set_cons_succ, i64_w, i32_w]
                rfl
              refine pureP_ 47 (some 66) (bits_ 57 281474976710655) HT_ ?_
              refine pureP_ 48 (some 67) (bits_ 57 562949953421311) HT_ ?_
              refine pure_ (i := 49) (N := some 68) (v := undef) (a' := ?_) #[true, true, true, true, true, true, true, true, true, true, true, true, true, true, true, true, true, true, true, true, true, true, true, true, true, true, true, true, true, true, true, true, true, true, true, true, true, true, true, true, true, true, true, true, true, true, true, true, true, true, false, false, false, false, false, false, false] rfl rfl (any_of HT_.out (by kernel_rfl)) (fun _ _ _ h => h) (Or.inr ⟨by rfl, rfl⟩) ?_ ?_
              rotate_left
              · simp only [Act.put, List.setIfInBounds_toArray, List.set_cons_zero, List.set_cons_succ, i64_w, i32_w]
                rfl
              refine pure_ (i := 50) (N := some 69) (v := undef) (a' := ?_) #[true, true, true, true, true, true, true, true, true, true, true, true, true, true, true, true, true, true, true, true, true, true, true, true, true, true, true, true, true, true, true, true, true, true, true, true, true, true, true, true, true, true, true, true, true, true, true, true, true, true, true, false, false, false, false, false, false] rfl rfl (any_of HT_.out (by kernel_rfl)) (fun _ _ _ h => h) (Or.inr ⟨by rfl, rfl⟩) ?_ ?_
              rotate_left
              · simp only [Act.put, List.setIfInBounds_toArray, List.set_cons_zero, List.set_cons_succ, i64_w, i32_w]
                rfl
              refine pure_ (i := 51) (N := some 70) (v := undef) (a' := ?_) #[true, true, true, true, true, true, true, true, true, true, true, true, true, true, true, true, true, true, true, true, true, true, true, true, true, true, true, true, true, true, true, true, true, true, true, true, true, true, true, true, true, true, true, true, true, true, true, true, true, true, true, true, false, false, false, false, false] rfl rfl (any_of HT_.out (by kernel_rfl)) (fun _ _ _ h => h) (Or.inr ⟨by rfl, rfl⟩) ?_ ?_
              rotate_left
              · simp only [Act.put, List.setIfInBounds_toArray, List.set_cons_zero, List.set_cons_succ, i64_w, i32_w]
                rfl
              refine pure_ (i := 52) (N := some 71) (v := undef) (a' := ?_) #[true, true, true, true, true, true, true, true, true, true, true, true, true, true, true, true, true, true, true, true, true, true, true, true, true, true, true, true, true, true, true, true, true, true, true, true, true, true, true, true, true, true, true, true, true, true, true, true, true, true, true, true, true, false, false, false, false] rfl rfl (any_of HT_.out (by kernel_rfl)) (fun _ _ _ h => h) (Or.inr ⟨by rfl, rfl⟩) ?_ ?_
              rotate_left
              · simp only [Act.put, List.setIfInBounds_toArray, List.set_cons_zero, List.set_cons_succ, i64_w, i32_w]
                rfl
              refine pure_ (i := 53) (N := some 72) (v := undef) (a' := ?_) #[true, true, true, true, true, true, true, true, true, true, true, true, true, true, true, true, true, true, true, true, true, true, true, true, true, true, true, true, true, true, true, true, true, true, true, true, true, true, true, true, true, true, true, true, true, true, true, true, true, true, true, true, true, true, false, false, false] rfl rfl (any_of HT_.out (by kernel_rfl)) (fun _ _ _ h => h) (Or.inr ⟨by rfl, rfl⟩) ?_ ?_
              rotate_left
              · simp only [Act.put, List.setIfInBounds_toArray, List.set_cons_zero, List.set_cons_succ, i64_w, i32_w]
                rfl
              refine pure_ (i := 54) (N := some 73) (v := undef) (a' := ?_) #[true, true, true, true, true, true, true, true, true, true, true, true, true, true, true, true, true, true, true, true, true, true, true, true, true, true, true, true, true, true, true, true, true, true, true, true, true, true, true, true, true, true, true, true, true, true, true, true, true, true, true, true, true, true, true, false, false] rfl rfl (any_of HT_.out (by kernel_rfl)) (fun _ _ _ h => h) (Or.inr ⟨by rfl, rfl⟩) ?_ ?_
              rotate_left
              · simp only [Act.put, List.setIfInBounds_toArray, List.set_cons_zero, List.set_cons_succ, i64_w, i32_w]
                rfl
              refine pureP_ 55 (some 74) (bits_ 57 72057594037927935) HT_ ?_
              refine pureP_ 56 (some 2) (bits_ 57 144115188075855871) HT_ ?_
              refine done_ (done_of HT_.out (by kernel_rfl)) ?_
              try go_wp2
              go_ret
              exact ⟨rfl_, bel_⟩
          · replace c12 := Bool.eq_false_iff.mpr c12
            subst c12
            rw [if_neg (show ¬ (false = true) by decide)] at H
            obtain rfl := Option.some.inj H
            try go_wp2
            replace BK228 := Aside0.mk (blk_drew BK228.out)
            replace HB := Aside0.mk (below_drew1 HB.out)
            refine start_ (n := 57) (S := fun w' => w'.cell? ⟨gb228, 0, none⟩ = some (.int .i64 a0_0) ∧ w'.cell? ⟨gb228, 1, none⟩ = some (.int .i64 a0_1) ∧ w'.cell? ⟨gb228, 2, none⟩ = some (.int .i64 a0_2) ∧ w'.cell? ⟨gb228, 3, none⟩ = some (.int .i64 a0_3) ∧ w'.cell? ⟨gb228, 4, none⟩ = some (.int .u64 a0_4) ∧ w'.cell? ⟨gb228, 5, none⟩ = some (.int .u64 a0_5) ∧ w'.cell? ⟨gb228, 6, none⟩ = some (.int .u64 a0_6) ∧ w'.cell? ⟨gb228, 7, none⟩ = some (.int .u64 a0_7) ∧ w'.cell? ⟨gb228, 8, none⟩ = some (.int .i64 a0_8) ∧ w'.cell? ⟨gb228, 9, none⟩ = some (.slice A0_9 l0_9.length c0_9) ∧ w'.cell? ⟨gb228, 10, none⟩ = some (.slice A0_10 l0_10.length c0_10)) (ds := []) #[false, false, false, false, false, false, false, false, false, false, false, false, false, false, false, false, false, false, false, false, false, false, false, false, false, false, false, false, false, false, false, false, false, false, false, false, false, false, false, false, false, false, false, false, false, false, false, false, false, false, false, false, false, false, false, false, false] (by kernel_rfl) rfl rfl (hc11_ BK228.out) (fun hHeld => ?_); refine with_tabW impl_WireOk.tab8 impl_WireOk.bits8 (fun HT_ HW_ => ?_)
            generalize wr.drew = w92 at BK228 HB hHeld ⊢
            refine pureP_ 0 (some 19) (bits_ 57 1) HT_ ?_
            refine oneP_ 1 (some 20) (bits_ 57 3) HT_ (fun K hK => ?_)
            refine goN_ Try.func28 #[.int .i64 a0_0, .int .i64 1, .int .i64 8] ?_
            with_reducible refine (impl_in.calls a0_0 1 8 true _ A8.out).mono ?_
            rintro e w' ⟨rfl, ⟨nd, rfl⟩⟩
            refine ⟨_, rfl, ?_⟩
            refine hK.out _ _ (hc11_ BK228.out) (fun hHeld => ?_)
            clear hK K
            refine normP_ (some 20) ?_
            refine pureP_ 2 (some 21) (bits_ 57 7) HT_ ?_
            refine pureP_ 3 (some 22) (bits_ 57 15) HT_ ?_
            refine pureP_ 5 (some 24) (bits_ 57 47) HT_ ?_
            refine takeP_ 6 (some 25) (bits_ 57 111) HT_ HW_ hHeld ?_
            refine oneP_ 4 (some 23) (bits_ 57 127) HT_ (fun K hK => ?_)
            refine goN_ Try.func30 #[.int .i64 a0_0, .int .u8 115] ?_
            with_reducible refine (impl_has.calls k1 a0_0 115 t231 _ A10.out).mono ?_
            rintro e w93 ⟨rfl, hb⟩
            refine ⟨_, rfl, ?_⟩
            replace BK228 := blkBel_ BK228.out hb
            replace HB := stepB_ hb
            (try clear hb)
            refine hK.out _ _ (hc11_ BK228.out) (fun hHeld => ?_)
            clear hK K
            refine normP_ (some 23) ?_
            refine oneP_ 7 (some 26) (bits_ 57 255) HT_ (fun K hK => ?_)
            refine goN_ Try.func29 #[.bool t231, .int .i64 a0_1, .int .i64 1, .int .i64 1000000] ?_
            with_reducible refine (impl_partOk.calls t231 a0_1 1 1000000 false _ A11.out).mono ?_
            rintro e w' ⟨rfl, ⟨nd, rfl⟩⟩
            refine ⟨_, rfl, ?_⟩
            refine hK.out _ _ (hc11_ BK228.out) (fun hHeld => ?_)
            clear hK K
            refine normP_ (some 26) ?_
            refine pureP_ 8 (some 27) (bits_ 57 511) HT_ ?_
            refine pureP_ 9 (some 28) (bits_ 57 1023) HT_ ?_
            refine pure_ (i := 10) (N := some 29) (v := undef) (a' := ?_) #[true, true, true, true, true, true, true, true, true, true, true, false, false, false, false, false, false, false, false, false, false, false, false, false, false, false, false, false, false, false, false, false, false, false, false, false, false, false, false, false, false, false, false, false, false, false, false, false, false, false, false, false, false, false, false, false, false] rfl rfl (any_of HT_.out (by kernel_rfl)) (fun _ _ _ h => h) (Or.inr ⟨by rfl, rfl⟩) ?_ ?_
            rotate_left
            · simp only [Act.put, List.setIfInBounds_toArray, List.set_cons_zero, List.set_cons_succ, i64_w, i32_w]
              rfl
            refine pure_ (i := 11) (N := some 30) (v := undef) (a' := ?_) #[true, true, true, true, true, true, true, true, true, true, true, true, false, false, false, false, false, false, false, false, false, false, false, false, false, false, false, false, false, false, false, false, false, false, false, false, false, false, false, false, false, false, false, false, false, false, false, false, false, false, false, false, false, false, false, false, false] rfl rfl (any_of HT_.out (by kernel_rfl)) (fun _ _ _ h => h) (Or.inr ⟨by rfl, rfl⟩) ?_ ?_
            rotate_left
            · simp only [Act.put, List.setIfInBounds_toArray, List.set_cons_zero, List.set_cons_succ, i64_w, i32_w]
              rfl
            refine pure_ (i := 12) (N := some 31) (v := undef) (a' := ?_) #[true, true, true, true, true, true, true, true, true, true, true, true, true, false, false, false, false, false, false, false, false, false, false, false, false, false, false, false, false, false, false, false, false, false, false, false, false, false, false, false, false, false, false, false, false, false, false, false, false, false, false, false, false, false, false, false, false] rfl rfl (any_of HT_.out (by kernel_rfl)) (fun _ _ _ h => h) (Or.inr ⟨by rfl, rfl⟩) ?_ ?_
            rotate_left
            · simp only [Act.put, List.setIfInBounds_toArray, List.set_cons_zero, List.set_cons_succ, i64_w, i32_w]
              rfl
            refine pure_ (i := 13) (N := some 32) (v := undef) (a' := ?_) #[true, true, true, true, true, true, true, true, true, true, true, true, true, true, false, false, false, false, false, false, false, false, false, false, false, false, false, false, false, false, false, false, false, false, false, false, false, false, false, false, false, false, false, false, false, false, false, false, false, false, false, false, false, false, false, false, false] rfl rfl (any_of HT_.out (by kernel_rfl)) (fun _ _ _ h => h) (Or.inr ⟨by rfl, rfl⟩) ?_ ?_
            rotate_left
            · simp only [Act.put, List.setIfInBounds_toArray, List.set_cons_zero, List.set_cons_succ, i64_w, i32_w]
              rfl
            refine pure_ (i := 14) (N := some 33) (v := undef) (a' := ?_) #[true, true, true, true, true, true, true, true, true, true, true, true, true, true, true, false, false, false, false, false, false, false, false, false, false, false, false, false, false, false, false, false, false, false, false, false, false, false, false, false, false, false, false, false, false, false, false, false, false, false, false, false, false, false, false, false, false] rfl rfl (any_of HT_.out (by kernel_rfl)) (fun _ _ _ h => h) (Or.inr ⟨by rfl, rfl⟩) ?_ ?_
            rotate_left
            · simp only [Act.put, List.setIfInBounds_toArray, List.set_cons_zero, List.set_cons_succ, i64_w, i32_w]
              rfl
            refine pureP_ 15 (some 34) (bits_ 57 65535) HT_ ?_
            refine pureP_ 16 (some 35) (bits_ 57 131071) HT_ ?_
            refine pure_ (i := 17) (N := some 36) (v := undef) (a' := ?_) #[true, true, true, true, true, true, true, true, true, true, true, true, true, true, true, true, true, true, false, false, false, false, false, false, false, false, false, false, false, false, false, false, false, false, false, false, false, false, false, false, false, false, false, false, false, false, false, false, false, false, false, false, false, false, false, false, false] rfl rfl (any_of HT_.out (by kernel_rfl)) (fun _ _ _ h => h) (Or.inr ⟨by rfl, rfl⟩) ?_ ?_
            rotate_left
            · simp only [Act.put, List.setIfInBounds_toArray, List.set_cons_zero, List.set_cons_succ, i64_w, i32_w]
              rfl
            refine pure_ (i := 18) (N := some 37) (v := undef) (a' := ?_) #[true, true, true, true, true, true, true, true, true, true, true, true, true, true, true, true, true, true, true, false, false, false, false, false, false, false, false, false, false, false, false, false, false, false, false, false, false, false, false, false, false, false, false, false, false, false, false, false, false, false, false, false, false, false, false, false, false] rfl rfl (any_of HT_.out (by kernel_rfl)) (fun _ _ _ h => h) (Or.inr ⟨by rfl, rfl⟩) ?_ ?_
            rotate_left
            · simp only [Act.put, List.setIfInBounds_toArray, List.set_cons_zero, List.set_cons_succ, i64_w, i32_w]
              rfl
            refine pure_ (i := 19) (N := some 38) (v := undef) (a' := ?_) #[true, true, true, true, true, true, true, true, true, true, true, true, true, true, true, true, true, true, true, true, false, false, false, false, false, false, false, false, false, false, false, false, false, false, false, false, false, false, false, false, false, false, false, false, false, false, false, false, false, false, false, false, false, false, false, false, false] rfl rfl (any_of HT_.out (by kernel_rfl)) (fun _ _ _ h => h) (Or.inr ⟨by rfl, rfl⟩) ?_ ?_
            rotate_left
            · simp only [Act.put, List.setIfInBounds_toArray, List.set_cons_zero, List.set_cons_succ, i64_w, i32_w]
              rfl
            refine pure_ (i := 20) (N := some 39) (v := undef) (a' := ?_) #[true, true, true, true, true, true, true, true, true, true, true, true, true, true, true, true, true, true, true, true, true, false, false, false, false, false, false, false, false, false, false, false, false, false, false, false, false, false, false, false, false, false, false, false, false, false, false, false, false, false, false, false, false, false, false, false, false] rfl rfl (any_of HT_.out (by kernel_rfl)) (fun _ _ _ h => h) (Or.inr ⟨by rfl, rfl⟩) ?_ ?_
            rotate_left
            · simp only [Act.put, List.setIfInBounds_toArray, List.set_cons_zero, List.set_cons_succ, i64_w, i32_w]
              rfl
            refine pure_ (i := 21) (N := some 40) (v := undef) (a' := ?_) #[true, true, true, true, true, true, true, true, true, true, true, true, true, true, true, true, true, true, true, true, true, true, false, false, false, false, false, false, false, false, false, false, false, false, false, false, false, false, false, false, false, false, false, false, false, false, false, false, false, false, false, false, false, false, false, false, false] rfl rfl (any_of HT_.out (by kernel_rfl)) (fun _ _ _ h => h) (Or.inr ⟨by rfl, rfl⟩) ?_ ?_
            rotate_left
            · simp only [Act.put, List.setIfInBounds_toArray, List.set_cons_zero, List.set_cons_succ, i64_w, i32_w]
              rfl
            refine pureP_ 22 (some 41) (bits_ 57 8388607) HT_ ?_
            refine pureP_ 23 (some 42) (bits_ 57 16777215) HT_ ?_
            refine pure_ (i := 24) (N := some 43) (v := undef) (a' := ?_) #[true, true, true, true, true, true, true, true, true, true, true, true, true, true, true, true, true, true, true, true, true, true, true, true, true, false, false, false, false, false, false, false, false, false, false, false, false, false, false, false, false, false, false, false, false, false, false, false, false, false, false, false, false, false, false, false, false] rfl rfl (any_of HT_.out (by kernel_rfl)) (fun _ _ _ h => h) (Or.inr ⟨by rfl, rfl⟩) ?_ ?_
            rotate_left
            · simp only [Act.put, List.setIfInBounds_toArray, List.set_cons_zero, List.set_cons_succ, i64_w, i32_w]
              rfl
            refine pure_ (i := 25) (N := some 44) (v := undef) (a' := ?_) #[true, true, true, true, true, true, true, true, true, true, true, true, true, true, true, true, true, true, true, true, true, true, true, true, true, true, false, false, false, false, false, false, false, false, false, false, false, false, false, false, false, false, false, false, false, false, false, false, false, false, false, false, false, false, false, false, false] rfl rfl (any_of HT_.out (by kernel_rfl)) (fun _ _ _ h => h) (Or.inr ⟨by rfl, rfl⟩) ?_ ?_
            rotate_left
            · simp only [Act.put, List.setIfInBounds_toArray, List.set_cons_zero, List.set_cons_succ, i64_w, i32_w]
              rfl
            refine pure_ (i := 26) (N := some 45) (v := undef) (a' := ?_) #[true, true, true, true, true, true, true, true, true, true, true, true, true, true, true, true, true, true, true, true, true, true, true, true, true, true, true, false, false, false, false, false, false, false, false, false, false, false, false, false, false, false, false, false, false, false, false, false, false, false, false, false, false, false, false, false, false] rfl rfl (any_of HT_.out (by kernel_rfl)) (fun _ _ _ h => h) (Or.inr ⟨by rfl, rfl⟩) ?_ ?_
            rotate_left
            · simp only [Act.put, List.setIfInBounds_toArray, List.set_cons_zero, List.set_cons_succ, i64_w, i32_w]
              rfl
            refine pure_ (i := 27) (N := some 46) (v := undef) (a' := ?_) #[true, true, true, true, true, true, true, true, true, true, true, true, true, true, true, true, true, true, true, true, true, true, true, true, true, true, true, true, false, false, false, false, false, false, false, false, false, false, false, false, false, false, false, false, false, false, false, false, false, false, false, false, false, false, false, false, false] rfl rfl (any_of HT_.out (by kernel_rfl)) (fun _ _ _ h => h) (Or.inr ⟨by rfl, rfl⟩) ?_ ?_
            rotate_left
            · simp only [Act.put, List.setIfInBounds_toArray, List.set_cons_zero, List.set_cons_succ, i64_w, i32_w]
              rfl
            refine pure_ (i := 28) (N := some 47) (v := undef) (a' := ?_) #[true, true, true, true, true, true, true, true, true, true, true, true, true, true, true, true, true, true, true, true, true, true, true, true, true, true, true, true, true, false, false, false, false, false, false, false, false, false, false, false, false, false, false, false, false, false, false, false, false, false, false, false, false, false, false, false, false] rfl rfl (any_of HT_.out (by kernel_rfl)) (fun _ _ _ h => h) (Or.inr ⟨by rfl, rfl⟩) ?_ ?_
            rotate_left
            · simp only [Act.put, List.setIfInBounds_toArray, List.set_cons_zero, List.set_cons_succ, i64_w, i32_w]
              rfl
            refine pure_ (i := 29) (N := some 48) (v := undef) (a' := ?_) #[true, true, true, true, true, true, true, true, true, true, true, true, true, true, true, true, true, true, true, true, true, true, true, true, true, true, true, true, true, true, false, false, false, false, false, false, false, false, false, false, false, false, false, false, false, false, false, false, false, false, false, false, false, false, false, false, false] rfl rfl (any_of HT_.out (by kernel_rfl)) (fun _ _ _ h => h) (Or.inr ⟨by rfl, rfl⟩) ?_ ?_
            rotate_left
            · simp only [Act.put, List.setIfInBounds_toArray, List.set_cons_zero, List.set_cons_succ, i64_w, i32_w]
              rfl
            refine pure_ (i := 30) (N := some 49) (v := undef) (a' := ?_) #[true, true, true, true, true, true, true, true, true, true, true, true, true, true, true, true, true, true, true, true, true, true, true, true, true, true, true, true, true, true, true, false, false, false, false, false, false, false, false, false, false, false, false, false, false, false, false, false, false, false, false, false, false, false, false, false, false] rfl rfl (any_of HT_.out (by kernel_rfl)) (fun _ _ _ h => h) (Or.inr ⟨by rfl, rfl⟩) ?_ ?_
            rotate_left
            · simp only [Act.put, List.setIfInBounds_toArray, List.set_cons_zero, List.set_cons_succ, i64_w, i32_w]
              rfl
            refine pure_ (i := 31) (N := some 50) (v := undef) (a' := ?_) #[true, true, true, true, true, true, true, true, true, true, true, true, true, true, true, true, true, true, true, true, true, true, true, true, true, true, true, true, true, true, true, true, false, false, false, false, false, false, false, false, false, false, false, false, false, false, false, false, false, false, false, false, false, false, false, false, false] rfl rfl (any_of HT_.out (by kernel_rfl)) (fun _ _ _ h => h) (Or.inr ⟨by rfl, rfl⟩) ?_ ?_
            rotate_left
            · simp only [Act.put, List.setIfInBounds_toArray, List.set_cons_zero, List.set_cons_succ, i64_w, i32_w]
              rfl
            refine pureP_ 32 (some 51) (bits_ 57 8589934591) HT_ ?_
            refine pureP_ 33 (some 52) (bits_ 57 17179869183) HT_ ?_
            refine pure_ (i := 34) (N := some 53) (v := undef) (a' := ?_) #[true, true, true, true, true, true, true, true, true, true, true, true, true, true, true, true, true, true, true, true, true, true, true, true, true, true, true, true, true, true, true, true, true, true, true, false, false, false, false, false, false, false, false, false, false, false, false, false, false, false, false, false, false, false, false, false, false] rfl rfl (any_of HT_.out (by kernel_rfl)) (fun _ _ _ h => h) (Or.inr ⟨by rfl, rfl⟩) ?_ ?_
            rotate_left
            · simp only [Act.put, List.setIfInBounds_toArray, List.set_cons_zero, List.set_cons_succ, i64_w, i32_w]
              rfl
            refine pure_ (i := 35) (N := some 54) (v := undef) (a' := ?_) #[true, true, true, true, true, true, true, true, true, true, true, true, true, true, true, true, true, true, true, true, true, true, true, true, true, true, true, true, true, true, true, true, true, true, true, true, false, false, false, false, false, false, false, false, false, false, false, false, false, false, false, false, false, false, false, false, false] rfl rfl (any_of HT_.out (by kernel_rfl)) (fun _ _ _ h => h) (Or.inr ⟨by rfl, rfl⟩) ?_ ?_
            rotate_left
            · simp only [Act.put, List.setIfInBounds_toArray, List.set_cons_zero, List.set_cons_succ, i64_w, i32_w]
              rfl
            refine pure_ (i := 36) (N := some 55) (v := undef) (a' := ?_) #[true, true, true, true, true, true, true, true, true, true, true, true, true, true, true, true, true, true, true, true, true, true, true, true, true, true, true, true, true, true, true, true, true, true, true, true, true, false, false, false, false, false, false, false, false, false, false, false, false, false, false, false, false, false, false, false, false] rfl rfl (any_of HT_.out (by kernel_rfl)) (fun _ _ _ h => h) (Or.inr ⟨by rfl, rfl⟩) ?_ ?_
            rotate_left
            · simp only [Act.put, List.setIfInBounds_toArray, List.set_cons_zero, List.set_cons_succ, i64_w, i32_w]
              rfl
            refine pure_ (i := 37) (N := some 56) (v := undef) (a' := ?_) #[true, true, true, true, true, true, true, true, true, true, true, true, true, true, true, true, true, true, true, true, true, true, true, true, true, true, true, true, true, true, true, true, true, true, true, true, true, true, false, false, false, false, false, false, false, false, false, false, false, false, false, false, false, false, false, false, false] rfl rfl (any_of HT_.out (by kernel_rfl)) (fun _ _ _ h => h) (Or.inr ⟨by rfl, rfl⟩) ?_ ?_
            rotate_left
            · simp only [Act.put, List.setIfInBounds_toArray, List.set_cons_zero, List.set_cons_succ, i64_w, i32_w]
              rfl
            refine pure_ (i := 38) (N := some 57) (v := undef) (a' := ?_) #[true, true, true, true, true, true, true, true, true, true, true, true, true, true, true, true, true, true, true, true, true, true, true, true, true, true, true, true, true, true, true, true, true, true, true, true, true, true, true, false, false, false, false, false, false, false, false, false, false, false, false, false, false, false, false, false, false] rfl rfl (any_of HT_.out (by kernel_rfl)) (fun _ _ _ h => h) (Or.inr ⟨by rfl, rfl⟩) ?_ ?_
            rotate_left
            · simp only [Act.put, List.setIfInBounds_toArray, List.set_cons_zero, List.set_cons_succ, i64_w, i32_w]
              rfl
            refine pureP_ 39 (some 58) (bits_ 57 1099511627775) HT_ ?_
            refine pureP_ 40 (some 59) (bits_ 57 2199023255551) HT_ ?_
            refine pure_ (i := 41) (N := some 60) (v := undef) (a' := ?_) #[true, true, true, true, true, true, true, true, true, true, true, true, true, true, true, true, true, true, true, true, true, true, true, true, true, true, true, true, true, true, true, true, true, true, true, true, true, true, true, true, true, true, false, false, false, false, false, false, false, false, false, false, false, false, false, false, false] rfl rfl (any_of HT_.out (by kernel_rfl)) (fun _ _ _ h => h) (Or.inr ⟨by rfl, rfl⟩) ?_ ?_
            rotate_left
            · simp only [Act.put, List.setIfInBounds_toArray, List.set_cons_zero, List.set_cons_succ, i64_w, i32_w]
              rfl
            refine pure_ (i := 42) (N := some 61) (v := undef) (a' := ?_) #[true, true, true, true, true, true, true, true, true, true, true, true, true, true, true, true, true, true, true, true, true, true, true, true, true, true, true, true, true, true, true, true, true, true, true, true, true, true, true, true, true, true, true, false, false, false, false, false, false, false, false, false, false, false, false, false, false] rfl rfl (any_of HT_.out (by kernel_rfl)) (fun _ _ _ h => h) (Or.inr ⟨by rfl, rfl⟩) ?_ ?_
            rotate_left
            · simp only [Act.put, List.setIfInBounds_toArray, List.set_cons_zero, List.set_cons_succ, i64_w, i32_w]
              rfl
            refine pure_ (i := 43) (N := some 62) (v := undef) (a' := ?_) #[true, true, true, true, true, true, true, true, true, true, true, true, true, true, true, true, true, true, true, true, true, true, true, true, true, true, true, true, true, true, true, true, true, true, true, true, true, true, true, true, true, true, true, true, false, false, false, false, false, false, false, false, false, false, false, false, false] rfl rfl (any_of HT_.out (by kernel_rfl)) (fun _ _ _ h => h) (Or.inr ⟨by rfl, rfl⟩) ?_ ?_
            rotate_left
            · simp only [Act.put, List.setIfInBounds_toArray, List.set_cons_zero, List.set_cons_succ, i64_w, i32_w]
              rfl
            refine pure_ (i := 44) (N := some 63) (v := undef) (a' := ?_) #[true, true, true, true, true, true, true, true, true, true, true, true, true, true, true, true, true, true, true, true, true, true, true, true, true, true, true, true, true, true, true, true, true, true, true, true, true, true, true, true, true, true, true, true, true, false, false, false, false, false, false, false, false, false, false, false, false] rfl rfl (any_of HT_.out (by kernel_rfl)) (fun _ _ _ h => h) (Or.inr ⟨by rfl, rfl⟩) ?_ ?_
            rotate_left
            · simp only [Act.put, List.setIfInBounds_toArray, List.set_cons_zero, List.set_cons_succ, i64_w, i32_w]
              rfl
            refine pure_ (i := 45) (N := some 64) (v := undef) (a' := ?_) #[true, true, true, true, true, true, true, true, true, true, true, true, true, true, true, true, true, true, true, true, true, true, true, true, true, true, true, true, true, true, true, true, true, true, true, true, true, true, true, true, true, true, true, true, true, true, false, false, false, false, false, false, false, false, false, false, false] rfl rfl (any_of HT_.out (by kernel_rfl)) (fun _ _ _ h => h) (Or.inr ⟨by rfl, rfl⟩) ?_ ?_
            rotate_left
            · simp only [Act.put, List.setIfInBounds_toArray, List.set_cons_zero, List.set_cons_succ, i64_w, i32_w]
              rfl
            refine pure_ (i := 46) (N := some 65) (v := undef) (a' := ?_) #[true, true, true, true, true, true, true, true, true, true, true, true, true, true, true, true, true, true, true, true, true, true, true, true, true, true, true, true, true, true, true, true, true, true, true, true, true, true, true, true, true, true, true, true, true, true, true, false, false, false, false, false, false, false, false, false, false] rfl rfl (any_of HT_.out (by kernel_rfl)) (fun _ _ _ h => h) (Or.inr ⟨by rfl, rfl⟩) ?_ ?_
            rotate_left
            · simp only [Act.put, List.setIfInBounds_toArray, List.set_cons_zero, List.set_cons_succ, i64_w, i32_w]
              rfl
            refine pureP_ 47 (some 66) (bits_ 57 281474976710655) HT_ ?_
            refine pureP_ 48 (some 67) (bits_ 57 562949953421311) HT_ ?_
            refine pure_ (i := 49) (N := some 68) (v := undef) (a' := ?_) #[true, true, true, true, true, true, true, true, true, true, true, true, true, true, true, true, true, true, true, true, true, true, true, true, true, true, true, true, true, true, true, true, true, true, true, true, true, true, true, true, true, true, true, true, true, true, true, true, true, true, false, false, false, false, false, false, false] rfl rfl (any_of HT_.out (by kernel_rfl)) (fun _ _ _ h => h) (Or.inr ⟨by rfl, rfl⟩) ?_ ?_
            rotate_left
            · simp only [Act.put, List.setIfInBounds_toArray, List.set_cons_zero, List.set_cons_succ, i64_w, i32_w]
              rfl
            refine pure_ (i := 50) (N := some 69) (v := undef) (a' := ?_) #[true, true, true, true, true, true, true, true, true, true, true, true, true, true, true, true, true, true, true, true, true, true, true, true, true, true, true, true, true, true, true, true, true, true, true, true, true, true, true, true, true, true, true, true, true, true, true, true, true, true, true, false, false, false, false, false, false] rfl rfl (any_of HT_.out (by kernel_rfl)) (fun _ _ _ h => h) (Or.inr ⟨by rfl, rfl⟩) ?_ ?_
            rotate_left
            · simp only [Act.put, List.setIfInBounds_toArray, List.set_cons_zero, List.set_cons_succ, i64_w, i32_w]
              rfl
            refine pure_ (i := 51) (N := some 70) (v := undef) (a' := ?_) #[true, true, true, true, true, true, true, true, true, true, true, true, true, true, true, true, true, true, true, true, true, true, true, true, true, true, true, true, true, true, true, true, true, true, true, true, true, true, true, true, true, true, true, true, true, true, true, true, true, true, true, true, false, false, false, false, false] rfl rfl (any_of HT_.out (by kernel_rfl)) (fun _ _ _ h => h) (Or.inr ⟨by rfl, rfl⟩) ?_ ?_
            rotate_left
            · simp only [Act.put, List.setIfInBounds_toArray, List.set_cons_zero, List.set_cons_succ, i64_w, i32_w]
              rfl
            refine pure_ (i := 52) (N := some 71) (v := undef) (a' := ?_) #[true, true, true, true, true, true, true, true, true, true, true, true, true, true, true, true, true, true, true, true, true, true, true, true, true, true, true, true, true, true, true, true, true, true, true, true, true, true, true, true, true, true, true, true, true, true, true, true, true, true, true, true, true, false, false, false, false] rfl rfl (any_of HT_.out (by kernel_rfl)) (fun _ _ _ h => h) (Or.inr ⟨by rfl, rfl⟩) ?_ ?_
            rotate_left
            · simp only [Act.put, List.setIfInBounds_toArray, List.set_cons_zero, List.set_cons_succ, i64_w, i32_w]
              rfl
            refine pure_ (i := 53) (N := some 72) (v := undef) (a' := ?_) #[true, true, true, true, true, true, true, true, true, true, true, true, true, true, true, true, true, true, true, true, true, true, true, true, true, true, true, true, true, true, true, true, true, true, true, true, true, true, true, true, true, true, true, true, true, true, true, true, true, true, true, true, true, true, false, false, false] rfl rfl (any_of HT_.out (by kernel_rfl)) (fun _ _ _ h => h) (Or.inr ⟨by rfl, rfl⟩) ?_ ?_
            rotate_left
            · simp only [Act.put, List.setIfInBounds_toArray, List.set_cons_zero, List.set_cons_succ, i64_w, i32_w]
              rfl
            refine pure_ (i := 54) (N := some 73) (v := undef) (a' := ?_) #[true, true, true, true, true, true, true, true, true, true, true, true, true, true, true, true, true, true, true, true, true, true, true, true, true, true, true, true, true, true, true, true, true, true, true, true, true, true, true, true, true, true, true, true, true, true, true, true, true, true, true, true, true, true, true, false, false] rfl rfl (any_of HT_.out (by kernel_rfl)) (fun _ _ _ h => h) (Or.inr ⟨by rfl, rfl⟩) ?_ ?_
            rotate_left
            · simp only [Act.put, List.setIfInBounds_toArray, List.set_cons_zero, List.set_cons_succ, i64_w, i32_w]
              rfl
            refine pureP_ 55 (some 74) (bits_ 57 72057594037927935) HT_ ?_
            refine pureP_ 56 (some 2) (bits_ 57 144115188075855871) HT_ ?_
            refine done_ (done_of HT_.out (by kernel_rfl)) ?_
            try go_wp2
            go_ret
            exact ⟨rfl_, bel_⟩
        · replace c9 := Bool.eq_false_iff.mpr c9
          subst c9
          rw [if_neg (show ¬ (false = true) by decide)] at H
          obtain rfl := Option.some.inj H
          try go_wp2
          replace BK228 := Aside0.mk (blk_drew BK228.out)
          replace HB := Aside0.mk (below_drew1 HB.out)
          refine start_ (n := 57) (S := fun w' => True) (ds := []) #[false, false, false, false, false, false, false, false, false, false, false, false, false, false, false, false, false, false, false, false, false, false, false, false, false, false, false, false, false, false, false, false, false, false, false, false, false, false, false, false, false, false, false, false, false, false, false, false, false, false, false, false, false, false, false, false, false] (by kernel_rfl) rfl rfl trivial (fun hHeld => ?_); refine with_tabW impl_WireOk.tab8 impl_WireOk.bits8 (fun HT_ HW_ => ?_)
          generalize wr.drew = w94 at BK228 HB hHeld ⊢
          refine pureP_ 0 (some 19) (bits_ 57 1) HT_ ?_
          refine oneP_ 1 (some 20) (bits_ 57 3) HT_ (fun K hK => ?_)
          refine goN_ Try.func28 #[.int .i64 a0_0, .int .i64 1, .int .i64 8] ?_
          with_reducible refine (impl_in.calls a0_0 1 8 false _ A8.out).mono ?_
          rintro e w' ⟨rfl, ⟨nd, rfl⟩⟩
          refine ⟨_, rfl, ?_⟩
          refine hK.out _ _ trivial (fun hHeld => ?_)
          clear hK K
          refine normP_ (some 20) ?_
          refine pureP_ 2 (some 21) (bits_ 57 7) HT_ ?_
          refine pure_ (i := 3) (N := some 22) (v := undef) (a' := ?_) #[true, true, true, true, false, false, false, false, false, false, false, false, false, false, false, false, false, false, false, false, false, false, false, false, false, false, false, false, false, false, false, false, false, false, false, false, false, false, false, false, false, false, false, false, false, false, false, false, false, false, false, false, false, false, false, false, false] rfl rfl (any_of HT_.out (by kernel_rfl)) (fun _ _ _ h => h) (Or.inr ⟨by rfl, rfl⟩) ?_ ?_
          rotate_left
          · simp only [Act.put, List.setIfInBounds_toArray, List.set_cons_zero, List.set_cons_succ, i64_w, i32_w]
            rfl
          refine pure_ (i := 4) (N := some 23) (v := undef) (a' := ?_) #[true, true, true, true, true, false, false, false, false, false, false, false, false, false, false, false, false, false, false, false, false, false, false, false, false, false, false, false, false, false, false, false, false, false, false, false, false, false, false, false, false, false, false, false, false, false, false, false, false, false, false, false, false, false, false, false, false] rfl rfl (any_of HT_.out (by kernel_rfl)) (fun _ _ _ h => h) (Or.inr ⟨by rfl, rfl⟩) ?_ ?_
          rotate_left
          · simp only [Act.put, List.setIfInBounds_toArray, List.set_cons_zero, List.set_cons_succ, i64_w, i32_w]
            rfl
          refine pure_ (i := 5) (N := some 24) (v := undef) (a' := ?_) #[true, true, true, true, true, true, false, false, false, false, false, false, false, false, false, false, false, false, false, false, false, false, false, false, false, false, false, false, false, false, false, false, false, false, false, false, false, false, false, false, false, false, false, false, false, false, false, false, false, false, false, false, false, false, false, false, false] rfl rfl (any_of HT_.out (by kernel_rfl)) (fun _ _ _ h => h) (Or.inr ⟨by rfl, rfl⟩) ?_ ?_
          rotate_left
          · simp only [Act.put, List.setIfInBounds_toArray, List.set_cons_zero, List.set_cons_succ, i64_w, i32_w]
            rfl
          refine pure_ (i := 6) (N := some 25) (v := undef) (a' := ?_) #[true, true, true, true, true, true, true, false, false, false, false, false, false, false, false, false, false, false, false, false, false, false, false, false, false, false, false, false, false, false, false, false, false, false, false, false, false, false, false, false, false, false, false, false, false, false, false, false, false, false, false, false, false, false, false, false, false] rfl rfl (any_of HT_.out (by kernel_rfl)) (fun _ _ _ h => h) (Or.inr ⟨by rfl, rfl⟩) ?_ ?_
          rotate_left
          · simp only [Act.put, List.setIfInBounds_toArray, List.set_cons_zero, List.set_cons_succ, i64_w, i32_w]
            rfl
          refine pure_ (i := 7) (N := some 26) (v := undef) (a' := ?_) #[true, true, true, true, true, true, true, true, false, false, false, false, false, false, false, false, false, false, false, false, false, false, false, false, false, false, false, false, false, false, false, false, false, false, false, false, false, false, false, false, false, false, false, false, false, false, false, false, false, false, false, false, false, false, false, false, false] rfl rfl (any_of HT_.out (by kernel_rfl)) (fun _ _ _ h => h) (Or.inr ⟨by rfl, rfl⟩) ?_ ?_
          rotate_left
          · simp only [Act.put, List.setIfInBounds_toArray, List.set_cons_zero, List.set_cons_succ, i64_w, i32_w]
            rfl
          refine pureP_ 8 (some 27) (bits_ 57 511) HT_ ?_
          refine pureP_ 9 (some 28) (bits_ 57 1023) HT_ ?_
          refine pure_ (i := 10) (N := some 29) (v := undef) (a' := ?_) #[true, true, true, true, true, true, true, true, true, true, true, false, false, false, false, false, false, false, false, false, false, false, false, false, false, false, false, false, false, false, false, false, false, false, false, false, false, false, false, false, false, false, false, false, false, false, false, false, false, false, false, false, false, false, false, false, false] rfl rfl (any_of HT_.out (by kernel_rfl)) (fun _ _ _ h => h) (Or.inr ⟨by rfl, rfl⟩) ?_ ?_
          rotate_left
          · simp only [Act.put, List.setIfInBounds_toArray, List.set_cons_zero, List.set_cons_succ, i64_w, i32_w]
            rfl
          refine pure_ (i := 11) (N := some 30) (v := undef) (a' := ?_) #[true, true, true, true, true, true, true, true, true, true, true, true, false, false, false, false, false, false, false, false, false, false, false, false, false, false, false, false, false, false, false, false, false, false, false, false, false, false, false, false, false, false, false, false, false, false, false, false, false, false, false, false, false, false, false, false, false] rfl rfl (any_of HT_.out (by kernel_rfl)) (fun _ _ _ h => h) (Or.inr ⟨by rfl, rfl⟩) ?_ ?_
          rotate_left
          · simp only [Act.put, List.setIfInBounds_toArray, List.set_cons_zero, List.set_cons_succ, i64_w, i32_w]
            rfl
          refine pure_ (i := 12) (N := some 31) (v := undef) (a' := ?_) #[true, true, true, true, true, true, true, true, true, true, true, true, true, false, false, false, false, false, false, false, false, false, false, false, false, false, false, false, false, false, false, false, false, false, false, false, false, false, false, false, false, false, false, false, false, false, false, false, false, false, false, false, false, false, false, false, false] rfl rfl (any_of HT_.out (by kernel_rfl)) (fun _ _ _ h => h) (Or.inr ⟨by rfl, rfl⟩) ?_ ?_
          rotate_left
          · simp only [Act.put, List.setIfInBounds_toArray, List.set_cons_zero, List.set_cons_succ, i64_w, i32_w]
            rfl
          refine pure_ (i := 13) (N := some 32) (v := undef) (a' := ?_) #[true, true, true, true, true, true, true, true, true, true, true, true, true, true, false, false, false, false, false, false, false, false, false, false, false, false, false, false, false, false, false, false, false, false, false, false, false, false, false, false, false, false, false, false, false, false, false, false, false, false, false, false, false, false, false, false, false] rfl rfl (any_of HT_.out (by kernel_rfl)) (fun _ _ _ h => h) (Or.inr ⟨by rfl, rfl⟩) ?_ ?_
          rotate_left
          · simp only [Act.put, List.setIfInBounds_toArray, List.set_cons_zero, List.set_cons_succ, i64_w, i32_w]
            rfl
          refine pure_ (i := 14) (N := some 33) (v := undef) (a' := ?_) #[true, true, true, true, true, true, true, true, true, true, true, true, true, true, true, false, false, false, false, false, false, false, false, false, false, false, false, false, false, false, false, false, false, false, false, false, false, false, false, false, false, false, false, false, false, false, false, false, false, false, false, false, false, false, false, false, false] rfl rfl (any_of HT_.out (by kernel_rfl)) (fun _ _ _ h => h) (Or.inr ⟨by rfl, rfl⟩) ?_ ?_
          rotate_left
          · simp only [Act.put, List.setIfInBounds_toArray, List.set_cons_zero, List.set_cons_succ, i64_w, i32_w]
            rfl
          refine pureP_ 15 (some 34) (bits_ 57 65535) HT_ ?_
          refine pureP_ 16 (some 35) (bits_ 57 131071) HT_ ?_
          refine pure_ (i := 17) (N := some 36) (v := undef) (a' := ?_) #[true, true, true, true, true, true, true, true, true, true, true, true, true, true, true, true, true, true, false, false, false, false, false, false, false, false, false, false, false, false, false, false, false, false, false, false, false, false, false, false, false, false, false, false, false, false, false, false, false, false, false, false, false, false, false, false, false] rfl rfl (any_of HT_.out (by kernel_rfl)) (fun _ _ _ h => h) (Or.inr ⟨by rfl, rfl⟩) ?_ ?_
          rotate_left
          · simp only [Act.put, List.setIfInBounds_toArray, List.set_cons_zero, List.set_cons_succ, i64_w, i32_w]
            rfl
          refine pure_ (i := 18) (N := some 37) (v := undef) (a' := ?_) #[true, true, true, true, true, true, true, true, true, true, true, true, true, true, true, true, true, true, true, false, false, false, false, false, false, false, false, false, false, false, false, false, false, false, false, false, false, false, false, false, false, false, false, false, false, false, false, false, false, false, false, false, false, false, false, false, false] rfl rfl (any_of HT_.out (by kernel_rfl)) (fun _ _ _ h => h) (Or.inr ⟨by rfl, rfl⟩) ?_ ?_
          rotate_left
          · simp only [Act.put, List.setIfInBounds_toArray, List.set_cons_zero, List.set_cons_succ, i64_w, i32_w]
            rfl
          refine pure_ (i := 19) (N := some 38) (v := undef) (a' := ?_) #[true, true, true, true, true, true, true, true, true, true, true, true, true, true, true, true, true, true, true, true, false, false, false, false, false, false, false, false, false, false, false, false, false, false, false, false, false, false, false, false, false, false, false, false, false, false, false, false, false, false, false, false, false, false, false, false, false] rfl rfl (any_of HT_.out (by kernel_rfl)) (fun _ _ _ h => h) (Or.inr ⟨by rfl, rfl⟩) ?_ ?_
          rotate_left
          · simp only [Act.put, List.setIfInBounds_toArray, List.set_cons_zero, List.set_cons_succ, i64_w, i32_w]
            rfl
          refine pure_ (i := 20) (N := some 39) (v := undef) (a' := ?_) #[true, true, true, true, true, true, true, true, true, true, true, true, true, true, true, true, true, true, true, true, true, false, false, false, false, false, false, false, false, false, false, false, false, false, false, false, false, false, false, false, false, false, false, false, false, false, false, false, false, false, false, false, false, false, false, false, false] rfl rfl (any_of HT_.out (by kernel_rfl)) (fun _ _ _ h => h) (Or.inr ⟨by rfl, rfl⟩) ?_ ?_
          rotate_left
          · simp only [Act.put, List.setIfInBounds_toArray, List.set_cons_zero, List.set_cons_succ, i64_w, i32_w]
            rfl
          refine pure_ (i := 21) (N := some 40) (v := undef) (a' := ?_) #[true, true, true, true, true, true, true, true, true, true, true, true, true, true, true, true, true, true, true, true, true, true, false, false, false, false, false, false, false, false, false, false, false, false, false, false, false, false, false, false, false, false, false, false, false, false, false, false, false, false, false, false, false, false, false, false, false] rfl rfl (any_of HT_.out (by kernel_rfl)) (fun _ _ _ h => h) (Or.inr ⟨by rfl, rfl⟩) ?_ ?_
          rotate_left
          · simp only [Act.put, List.setIfInBounds_toArray, List.set_cons_zero, List.set_cons_succ, i64_w, i32_w]
            rfl
          refine pureP_ 22 (some 41) (bits_ 57 8388607) HT_ ?_
          refine pureP_ 23 (some 42) (bits_ 57 16777215) HT_ ?_
          refine pure_ (i := 24) (N := some 43) (v := undef) (a' := ?_) #[true, true, true, true, true, true, true, true, true, true, true, true, true, true, true, true, true, true, true, true, true, true, true, true, true, false, false, false, false, false, false, false, false, false, false, false, false, false, false, false, false, false, false, false, false, false, false, false, false, false, false, false, false, false, false, false, false] rfl rfl (any_of HT_.out (by kernel_rfl)) (fun _ _ _ h => h) (Or.inr ⟨by rfl, rfl⟩) ?_ ?_
          rotate_left
          · simp only [Act.put, List.setIfInBounds_toArray, List.set_cons_zero, List.set_cons_succ, i64_w, i32_w]
            rfl
          refine pure_ (i := 25) (N := some 44) (v := undef) (a' := ?_) #[true, true, true, true, true, true, true, true, true, true, true, true, true, true, true, true, true, true, true, true, true, true, true, true, true, true, false, false, false, false, false, false, false, false, false, false, false, false, false, false, false, false, false, false, false, false, false, false, false, false, false, false, false, false, false, false, false] rfl rfl (any_of HT_.out (by kernel_rfl)) (fun _ _ _ h => h) (Or.inr ⟨by rfl, rfl⟩) ?_ ?_
          rotate_left
          · simp only [Act.put, List.setIfInBounds_toArray, List.set_cons_zero, List.set_cons_succ, i64_w, i32_w]
            rfl
          refine pure_ (i := 26) (N := some 45) (v := undef) (a' := ?_) #[true, true, true, true, true, true, true, true, true, true, true, true, true, true, true, true, true, true, true, true, true, true, true, true, true, true, true, false, false, false, false, false, false, false, false, false, false, false, false, false, false, false, false, false, false, false, false, false, false, false, false, false, false, false, false, false, false] rfl rfl (any_of HT_.out (by kernel_rfl)) (fun _ _ _ h => h) (Or.inr ⟨by rfl, rfl⟩) ?_ ?_
          rotate_left
          · simp only [Act.put, List.setIfInBounds_toArray, List.set_cons_zero, List.set_cons_succ, i64_w, i32_w]
            rfl
          refine pure_ (i := 27) (N := some 46) (v := undef) (a' := ?_) #[true, true, true, true, true, true, true, true, true, true, true, true, true, true, true, true, true, true, true, true, true, true, true, true, true, true, true, true, false, false, false, false, false, false, false, false, false, false, false, false, false, false, false, false, false, false, false, false, false, false, false, false, false, false, false, false, false] rfl rfl (any_of HT_.out (by kernel_rfl)) (fun _ _ _ h => h) (Or.inr ⟨by rfl, rfl⟩) ?_ ?_
          rotate_left
          · simp only [Act.put, List.setIfInBounds_toArray, List.set_cons_zero, List.set_cons_succ, i64_w, i32_w]
            rfl
          refine pure_ (i := 28) (N := some 47) (v := undef) (a' := ?_) #[true, true, true, true, true, true, true, true, true, true, true, true, true, true, true, true, true, true, true, true, true, true, true, true, true, true, true, true, true, false, false, false, false, false, false, false, false, false, false, false, false, false, false, false, false, false, false, false, false, false, false, false, false, false, false, false, false] rfl rfl (any_of HT_.out (by kernel_rfl)) (fun _ _ _ h => h) (Or.inr ⟨by rfl, rfl⟩) ?_ ?_
          rotate_left
          · simp only [Act.put, List.setIfInBounds_toArray, List.set_cons_zero, List.set_cons_succ, i64_w, i32_w]
            rfl
          refine pure_ (i := 29) (N := some 48) (v := undef) (a' := ?_) #[true, true, true, true, true, true, true, true, true, true, true, true, true, true, true, true, true, true, true, true, true, true, true, true, true, true, true, true, true, true, false, false, false, false, false, false, false, false, false, false, false, false, false, false, false, false, false, false, false, false, false, false, false, false, false, false, false] rfl rfl (any_of HT_.out (by kernel_rfl)) (fun _ _ _ h => h) (Or.inr ⟨by rfl, rfl⟩) ?_ ?_
          rotate_left
          · simp only [Act.put, List.setIfInBounds_toArray, List.set_cons_zero, List.set_cons_succ, i64_w, i32_w]
            rfl
          refine pure_ (i := 30) (N := some 49) (v := undef) (a' := ?_) #[true, true, true, true, true, true, true, true, true, true, true, true, true, true, true, true, true, true, true, true, true, true, true, true, true, true, true, true, true, true, true, false, false, false, false, false, false, false, false, false, false, false, false, false, false, false, false, false, false, false, false, false, false, false, false, false, false] rfl rfl (any_of HT_.out (by kernel_rfl)) (fun _ _ _ h => h) (Or.inr ⟨by rfl, rfl⟩) ?_ ?_
          rotate_left
          · simp only [Act.put, List.setIfInBounds_toArray, List.set_cons_zero, List.set_cons_succ, i64_w, i32_w]
            rfl
          refine pure_ (i := 31) (N := some 50) (v := undef) (a' := ?_) #[true, true, true, true, true, true, true, true, true, true, true, true, true, true, true, true, true, true, true, true, true, true, true, true, true, true, true, true, true, true, true, true, false, false, false, false, false, false, false, false, false, false, false, false, false, false, false, false, false, false, false, false, false, false, false, false, false] rfl rfl (any_of HT_.out (by kernel_rfl)) (fun _ _ _ h => h) (Or.inr ⟨by rfl, rfl⟩) ?_ ?_
          rotate_left
          · simp only [Act.put, List.setIfInBounds_toArray, List.set_cons_zero, List.set_cons_succ, i64_w, i32_w]
            rfl
          refine pureP_ 32 (some 51) (bits_ 57 8589934591) HT_ ?_
          refine pureP_ 33 (some 52) (bits_ 57 17179869183) HT_ ?_
          refine pure_ (i := 34) (N := some 53) (v := undef) (a' := ?_) #[true, true, true, true, true, true, true, true, true, true, true, true, true, true, true, true, true, true, true, true, true, true, true, true, true, true, true, true, true, true, true, true, true, true, true, false, false, false, false, false, false, false, false, false, false, false, false, false, false, false, false, false, false, false, false, false, false] rfl rfl (any_of HT_.out (by kernel_rfl)) (fun _ _ _ h => h) (Or.inr ⟨by rfl, rfl⟩) ?_ ?_
          rotate_left
          · simp only [Act.put, List.setIfInBounds_toArray, List.set_cons_zero, List.set_cons_succ, i64_w, i32_w]
            rfl
          refine pure_ (i := 35) (N := some 54) (v := undef) (a' := ?_) #[true, true, true, true, true, true, true, true, true, true, true, true, true, true, true, true, true, true, true, true, true, true, true, true, true, true, true, true, true, true, true, true, true, true, true, true, false, false, false, false, false, false, false, false, false, false, false, false, false, false, false, false, false, false, false, false, false] rfl rfl (any_of HT_.out (by kernel_rfl)) (fun _ _ _ h => h) (Or.inr ⟨by rfl, rfl⟩) ?_ ?_
          rotate_left
          · simp only [Act.put, List.setIfInBounds_toArray, List.set_cons_zero, List.set_cons_succ, i64_w, i32_w]
            rfl
          refine pure_ (i := 36) (N := some 55) (v := undef) (a' := ?_) #[true, true, true, true, true, true, true, true, true, true, true, true, true, true, true, true, true, true, true, true, true, true, true, true, true, true, true, true, true, true, true, true, true, true, true, true, true, false, false, false, false, false, false, false, false, false, false, false, false, false, false, false, false, false, false, false, false] rfl rfl (any_of HT_.out (by kernel_rfl)) (fun _ _ _ h => h) (Or.inr ⟨by rfl, rfl⟩) ?_ ?_
          rotate_left
          · simp only [Act.put, List.setIfInBounds_toArray, List.set_cons_zero, List.set_cons_succ, i64_w, i32_w]
            rfl
          refine pure_ (i := 37) (N := some 56) (v := undef) (a' := ?_) #[true, true, true, true, true, true, true, true, true, true, true, true, true, true, true, true, true, true, true, true, true, true, true, true, true, true, true, true, true, true, true, true, true, true, true, true, true, true, false, false, false, false, false, false, false, false, false, false, false, false, false, false, false, false, false, false, false] rfl rfl (any_of HT_.out (by kernel_rfl)) (fun _ _ _ h => h) (Or.inr ⟨by rfl, rfl⟩) ?_ ?_
          rotate_left
          · simp only [Act.put, List.setIfInBounds_toArray, List.set_cons_zero, List.set_cons_succ, i64_w, i32_w]
            rfl
          refine pure_ (i := 38) (N := some 57) (v := undef) (a' := ?_) #[true, true, true, true, true, true, true, true, true, true, true, true, true, true, true, true, true, true, true, true, true, true, true, true, true, true, true, true, true, true, true, true, true, true, true, true, true, true, true, false, false, false, false, false, false, false, false, false, false, false, false, false, false, false, false, false, false] rfl rfl (any_of HT_.out (by kernel_rfl)) (fun _ _ _ h => h) (Or.inr ⟨by rfl, rfl⟩) ?_ ?_
          rotate_left
          · simp only [Act.put, List.setIfInBounds_toArray, List.set_cons_zero, List.set_cons_succ, i64_w, i32_w]
            rfl
          refine pureP_ 39 (some 58) (bits_ 57 1099511627775) HT_ ?_
          refine pureP_ 40 (some 59) (bits_ 57 2199023255551) HT_ ?_
          refine pure_ (i := 41) (N := some 60) (v := undef) (a' := ?_) #[true, true, true, true, true, true, true, true, true, true, true, true, true, true, true, true, true, true, true, true, true, true, true, true, true, true, true, true, true, true, true, true, true, true, true, true, true, true, true, true, true, true, false, false, false, false, false, false, false, false, false, false, false, false, false, false, false] rfl rfl (any_of HT_.out (by kernel_rfl)) (fun _ _ _ h => h) (Or.inr ⟨by rfl, rfl⟩) ?_ ?_
          rotate_left
          · simp only [Act.put, List.setIfInBounds_toArray, List.set_cons_zero, List.set_cons_succ, i64_w, i32_w]
            rfl
          refine pure_ (i := 42) (N := some 61) (v := undef) (a' := ?_) #[true, true, true, true, true, true, true, true, true, true, true, true, true, true, true, true, true, true, true, true, true, true, true, true, true, true, true, true, true, true, true, true, true, true, true, true, true, true, true, true, true, true, true, false, false, false, false, false, false, false, false, false, false, false, false, false, false] rfl rfl (any_of HT_.out (by kernel_rfl)) (fun _ _ _ h => h) (Or.inr ⟨by rfl, rfl⟩) ?_ ?_
          rotate_left
          · simp only [Act.put, List.setIfInBounds_toArray, List.set_cons_zero, List.set_cons_succ, i64_w, i32_w]
            rfl
          refine pure_ (i := 43) (N := some 62) (v := undef) (a' := ?_) #[true, true, true, true, true, true, true, true, true, true, true, true, true, true, true, true, true, true, true, true, true, true, true, true, true, true, true, true, true, true, true, true, true, true, true, true, true, true, true, true, true, true, true, true, false, false, false, false, false, false, false, false, false, false, false, false, false] rfl rfl (any_of HT_.out (by kernel_rfl)) (fun _ _ _ h => h) (Or.inr ⟨by rfl, rfl⟩) ?_ ?_
          rotate_left
          · simp only [Act.put, List.setIfInBounds_toArray, List.set_cons_zero, List.set_cons_succ, i64_w, i32_w]
            rfl
          refine pure_ (i := 44) (N := some 63) (v := undef) (a' := ?_) #[true, true, true, true, true, true, true, true, true, true, true, true, true, true, true, true, true, true, true, true, true, true, true, true, true, true, true, true, true, true, true, true, true, true, true, true, true, true, true, true, true, true, true, true, true, false, false, false, false, false, false, false, false, false, false, false, false] rfl rfl (any_of HT_.out (by kernel_rfl)) (fun _ _ _ h => h) (Or.inr ⟨by rfl, rfl⟩) ?_ ?_
          rotate_left
          · simp only [Act.put, List.setIfInBounds_toArray, List.set_cons_zero, List.set_cons_succ, i64_w, i32_w]
            rfl
          refine pure_ (i := 45) (N := some 64) (v := undef) (a' := ?_) #[true, true, true, true, true, true, true, true, true, true, true, true, true, true, true, true, true, true, true, true, true, true, true, true, true, true, true, true, true, true, true, true, true, true, true, true, true, true, true, true, true, true, true, true, true, true, false, false, false, false, false, false, false, false, false, false, false] rfl rfl (any_of HT_.out (by kernel_rfl)) (fun _ _ _ h => h) (Or.inr ⟨by rfl, rfl⟩) ?_ ?_
          rotate_left
          · simp only [Act.put, List.setIfInBounds_toArray, List.set_cons_zero, List.set_cons_succ, i64_w, i32_w]
            rfl
          refine pure_ (i := 46) (N := some 65) (v := undef) (a' := ?_) #[true, true, true, true, true, true, true, true, true, true, true, true, true, true, true, true, true, true, true, true, true, true, true, true, true, true, true, true, true, true, true, true, true, true, true, true, true, true, true, true, true, true, true, true, true, true, true, false, false, false, false, false, false, false, false, false, false] rfl rfl (any_of HT_.out (by kernel_rfl)) (fun _ _ _ h => h) (Or.inr ⟨by rfl, rfl⟩) ?_ ?_
          rotate_left
          · simp only [Act.put, List.setIfInBounds_toArray, List.set_cons_zero, List.set_cons_succ, i64_w, i32_w]
            rfl
          refine pureP_ 47 (some 66) (bits_ 57 281474976710655) HT_ ?_
          refine pureP_ 48 (some 67) (bits_ 57 562949953421311) HT_ ?_
          refine pure_ (i := 49) (N := some 68) (v := undef) (a' := ?_) #[true, true, true, true, true, true, true, true, true, true, true, true, true, true, true, true, true, true, true, true, true, true, true, true, true, true, true, true, true, true, true, true, true, true, true, true, true, true, true, true, true, true, true, true, true, true, true, true, true, true, false, false, false, false, false, false, false] rfl rfl (any_of HT_.out (by kernel_rfl)) (fun _ _ _ h => h) (Or.inr ⟨by rfl, rfl⟩) ?_ ?_
          rotate_left
          · simp only [Act.put, List.setIfInBounds_toArray, List.set_cons_zero, List.set_cons_succ, i64_w, i32_w]
            rfl
          refine pure_ (i := 50) (N := some 69) (v := undef) (a' := ?_) #[true, true, true, true, true, true, true, true, true, true, true, true, true, true, true, true, true, true, true, true, true, true, true, true, true, true, true, true, true, true, true, true, true, true, true, true, true, true, true, true, true, true, true, true, true, true, true, true, true, true, true, false, false, false, false, false, false] rfl rfl (any_of HT_.out (by kernel_rfl)) (fun _ _ _ h => h) (Or.inr ⟨by rfl, rfl⟩) ?_ ?_
          rotate_left
          · simp only [Act.put, List.setIfInBounds_toArray, List.set_cons_zero, List.set_cons_succ, i64_w, i32_w]
            rfl
          refine pure_ (i := 51) (N := some 70) (v := undef) (a' := ?_) #[true, true, true, true, true, true, true, true, true, true, true, true, true, true, true, true, true, true, true, true, true, true, true, true, true, true, true, true, true, true, true, true, true, true, true, true, true, true, true, true, true, true, true, true, true, true, true, true, true, true, true, true, false, false, false, false, false] rfl rfl (any_of HT_.out (by kernel_rfl)) (fun _ _ _ h => h) (Or.inr ⟨by rfl, rfl⟩) ?_ ?_
          rotate_left
          · simp only [Act.put, List.setIfInBounds_toArray, List.set_cons_zero, List.set_cons_succ, i64_w, i32_w]
            rfl
          refine pure_ (i := 52) (N := some 71) (v := undef) (a' := ?_) #[true, true, true, true, true, true, true, true, true, true, true, true, true, true, true, true, true, true, true, true, true, true, true, true, true, true, true, true, true, true, true, true, true, true, true, true, true, true, true, true, true, true, true, true, true, true, true, true, true, true, true, true, true, false, false, false, false] rfl rfl (any_of HT_.out (by kernel_rfl)) (fun _ _ _ h => h) (Or.inr ⟨by rfl, rfl⟩) ?_ ?_
          rotate_left
          · simp only [Act.put, List.setIfInBounds_toArray, List.set_cons_zero, List.set_cons_succ, i64_w, i32_w]
            rfl
          refine pure_ (i := 53) (N := some 72) (v := undef) (a' := ?_) #[true, true, true, true, true, true, true, true, true, true, true, true, true, true, true, true, true, true, true, true, true, true, true, true, true, true, true, true, true, true, true, true, true, true, true, true, true, true, true, true, true, true, true, true, true, true, true, true, true, true, true, true, true, true, false, false, false] rfl rfl (any_of HT_.out (by kernel_rfl)) (fun _ _ _ h => h) (Or.inr ⟨by rfl, rfl⟩) ?_ ?_
          rotate_left
          · simp only [Act.put, List.setIfInBounds_toArray, List.set_cons_zero, List.set_cons_succ, i64_w, i32_w]
            rfl
          refine pure_ (i := 54) (N := some 73) (v := undef) (a' := ?_) #[true, true, true, true, true, true, true, true, true, true, true, true, true, true, true, true, true, true, true, true, true, true, true, true, true, true, true, true, true, true, true, true, true, true, true, true, true, true, true, true, true, true, true, true, true, true, true, true, true, true, true, true, true, true, true, false, false] rfl rfl (any_of HT_.out (by kernel_rfl)) (fun _ _ _ h => h) (Or.inr ⟨by rfl, rfl⟩) ?_ ?_
          rotate_left
          · simp only [Act.put, List.setIfInBounds_toArray, List.set_cons_zero, List.set_cons_succ, i64_w, i32_w]
            rfl
          refine pureP_ 55 (some 74) (bits_ 57 72057594037927935) HT_ ?_
          refine pureP_ 56 (some 2) (bits_ 57 144115188075855871) HT_ ?_
          refine done_ (done_of HT_.out (by kernel_rfl)) ?_
          try go_wp2
          go_ret
          exact ⟨rfl_, bel_⟩
end
end Go.Proofs.Ytflcbanemolkfaa.B
