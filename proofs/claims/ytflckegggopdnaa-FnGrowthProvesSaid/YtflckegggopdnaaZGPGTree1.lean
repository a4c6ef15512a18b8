/- What the Go functions loop.example/belfry/impl.LeavesOk, loop.example/belfry/impl.rootOf, loop.example/belfry/spec.LeavesOk, loop.example/belfry/spec.l2Root do is what the Lean functions .f of their names here say; condition: .f gives an answer. (Written by the session's program pp.py over the kit's print; Lean checks it.) -/
import Derived.Test.YtflckegggopdnaaZGPK
import Derived.Test.YtflckegggopdnaaZGPM
import Derived.Test.YtflckegggopdnaaZGPGImplHash1
import Derived.Test.YtflckegggopdnaaZGPGImplPair1
import Derived.Test.YtflckegggopdnaaZGPGSplit1
namespace Go.Proofs.Ytflckegggopdnaa.B
open Go.RowKit Go.Proofs.YtflckegggopdnaaW.PrintWords Go.Proofs.YtflckegggopdnaaW.PrintLast Go.Proofs.YtflckegggopdnaaW.PrintMore
attribute [local go_sem] max2_int min2_int max_two min_two max_three min_three max_four min_four
set_option linter.unusedVariables false
set_option linter.unusedSimpArgs false
section
def impl_LeavesOk.l0 : Nat → List ByteArray → List ByteArray → Int → Int → Option (Bool)
  | 0, _, _, _, _ => none
  | k + 1, x0, x5, x6, x7 => if x7 < x6 then (if 0 ≤ x7 then (if x7 < (x5.length : Int) then (if ((rdOf ByteArray.empty x5 x7).size : Int) > 40 then (some false) else (impl_LeavesOk.l0 k x0 x5 x6 (wrap64 (x7 + 1)))) else (none)) else (none)) else (some (decide ((x0.length : Int) ≤ 256)))
def impl_LeavesOk.f (k : Nat) (l0 : List ByteArray) : Option (Bool) := impl_LeavesOk.l0 k l0 l0 (l0.length : Int) 0
set_option maxHeartbeats 8000000 in
set_option maxRecDepth 100000 in
theorem impl_LeavesOk.calls (k : Nat) (A0 : Option Addr) (c0 : Nat) (l0 : List ByteArray) (r : Bool) (w : World) (hr0 : Kd.C Kd.string w A0 l0.length l0) (hc0 : l0.length ≤ c0) (h : impl_LeavesOk.f k l0 = some r) :
    Calls Try.prog 61 #[.slice A0 l0.length c0] w fun e w' => e = .returned (.bool r) ∧ Drawn0 w w' := by
  have HR0 := Aside0.mk hr0
  have HC0 := Aside0.mk hc0
  clear hr0 hc0
  have H : (impl_LeavesOk.l0 k l0 l0 (l0.length : Int) 0) = some r := h
  clear h
  have H' := Aside0.mk H
  clear H
  go_enter Try.func61, Try.ntmps61
  go_wp2
  go_loopg [7] k (fun kq v7 w' => ∃ (x7_1 : Int), v7 = .int .i64 x7_1 ∧ Aside0 (impl_LeavesOk.l0 kq l0 l0 (l0.length : Int) x7_1 = some r) ∧ Aside0 (kq ≤ k) ∧ Drawn0 w w')
  case atStart => exact ⟨(0), (by first | rfl | (simp; done) | (simp [*]; done)), H', ⟨Nat.le_refl _⟩, by repeat (first | exact Drawn0.refl _ | apply Drawn0.step)⟩
  case round =>
    clear H'
    obtain ⟨x7_1, rfl, HA, HK1, ⟨m1, rfl⟩⟩ := hrel
    cases gk with
    | zero => exact absurd HA.out (by simp [impl_LeavesOk.l0])
    | succ k1 =>
      have H := HA.out
      clear HA
      simp only [impl_LeavesOk.l0] at H
      by_cases c2 : x7_1 < (l0.length : Int)
      · rw [if_pos c2] at H
        have c2b0 : decide (x7_1 < (l0.length : Int)) = true := decide_eq_true c2
        clear c2
        by_cases c3 : 0 ≤ x7_1
        · rw [if_pos c3] at H
          have c3b0 : decide (0 ≤ x7_1) = true := decide_eq_true c3
          clear c3
          by_cases c4 : x7_1 < (l0.length : Int)
          · rw [if_pos c4] at H
            have c4b0 : decide (x7_1 < (l0.length : Int)) = true := decide_eq_true c4
            clear c4
            by_cases c5 : ((rdOf ByteArray.empty l0 x7_1).size : Int) > 40
            · rw [if_pos c5] at H
              have c5b0 : decide (40 < ((rdOf ByteArray.empty l0 x7_1).size : Int)) = true := decide_eq_true c5
              have c5b1 : decide (40 < (rdOf ByteArray.empty l0 x7_1).size) = true := decide_eq_true (by omega)
              clear c5
              obtain rfl := Option.some.inj H
              have p1236 : 0 ≤ (x7_1 : Int) := ofd_
              have q1236 : x7_1 < (l0.length : Int) := ofd_
              obtain ⟨ad1236, e1236, hx1236_0⟩ := Kd.at_string HR0.out x7_1 p1236 q1236
              cases e1236
              replace p1236 := eq_true p1236
              replace q1236 := eq_true q1236
              go_wp2
              go_ret
              exact ⟨by first | rfl | (simp; done) | (simp [*]; done), by repeat (first | exact Drawn0.refl _ | apply Drawn0.step)⟩
            · rw [if_neg c5] at H
              have c5b0 : decide (40 < ((rdOf ByteArray.empty l0 x7_1).size : Int)) = false := decide_eq_false c5
              have c5b1 : decide (40 < (rdOf ByteArray.empty l0 x7_1).size) = false := decide_eq_false (by omega)
              clear c5
              have H' := Aside0.mk H
              clear H
              have p1236 : 0 ≤ (x7_1 : Int) := ofd_
              have q1236 : x7_1 < (l0.length : Int) := ofd_
              obtain ⟨ad1236, e1236, hx1236_0⟩ := Kd.at_string HR0.out x7_1 p1236 q1236
              cases e1236
              replace p1236 := eq_true p1236
              replace q1236 := eq_true q1236
              go_wp2
              go_roundg k1
              case measure => have := HK1.out; omega
              case rel => exact ⟨(wrap64 (x7_1 + 1)), (by first | rfl | (simp; done) | (simp [*]; done)), H', ⟨by have := HK1.out; omega⟩, by repeat (first | exact Drawn0.refl _ | apply Drawn0.step)⟩
          · rw [if_neg c4] at H
            exact absurd H (by simp)
        · rw [if_neg c3] at H
          exact absurd H (by simp)
      · rw [if_neg c2] at H
        have c2b0 : decide (x7_1 < (l0.length : Int)) = false := decide_eq_false c2
        clear c2
        obtain rfl := Option.some.inj H
        go_wp2
        go_ret
        exact ⟨by first | rfl | (simp; done) | (simp [*]; done), by repeat (first | exact Drawn0.refl _ | apply Drawn0.step)⟩
end
section
def impl_rootOf.f : Nat → List ByteArray → Option (Int × Int × Int × Int)
  | 0, _ => none
  | k + 1, l0 => if (l0.length : Int) = 0 then ((impl_HashOf.f k (⟨#[]⟩ : ByteArray)).bind fun bt1238 => (some (bt1238.1, bt1238.2.1, bt1238.2.2.1, bt1238.2.2.2))) else (if (l0.length : Int) = 1 then (if 0 < (l0.length : Int) then ((impl_HashLeaf.f k (rdOf ByteArray.empty l0 0)).bind fun bt1243 => (some (bt1243.1, bt1243.2.1, bt1243.2.2.1, bt1243.2.2.2))) else (none)) else ((impl_TreeSplit.f k (l0.length : Int)).bind fun t1247 => (if 0 ≤ t1247 then (if t1247 ≤ (l0.length : Int) then ((impl_rootOf.f k (l0.take (t1247 : Int).toNat)).bind fun bt1249 => ((impl_rootOf.f k (l0.drop (t1247 : Int).toNat)).bind fun bt1254 => ((impl_HashPair.f k bt1249.1 bt1249.2.1 bt1249.2.2.1 bt1249.2.2.2 bt1254.1 bt1254.2.1 bt1254.2.2.1 bt1254.2.2.2).bind fun bt1258 => (some (bt1258.1, bt1258.2.1, bt1258.2.2.1, bt1258.2.2.2))))) else (none)) else (none))))
def impl_rootOf.T7 : Bool × List (List Nat × List Nat) := (true, [([], []), ([], []), ([0, 1], [0, 1]), ([2], [2]), ([], []), ([], []), ([4, 5], [4, 5]), ([6, 3], [6]), ([3, 7, 7], [3, 7]), ([8, 8, 0, 1, 2, 3, 4, 5, 6, 7, 8], [8])])
def impl_rootOf.B7 : List Nat := [0, 0, 3, 7, 0, 0, 48, 127, 255, 511]
theorem impl_rootOf.tab7 : rtab .any (opsOf Try.f64 7) = impl_rootOf.T7 := by kernel_rfl
theorem impl_rootOf.bits7 : waitsOk impl_rootOf.T7.2 impl_rootOf.B7 = true := by kernel_rfl
set_option maxHeartbeats 8000000 in
set_option maxRecDepth 100000 in
theorem impl_rootOf.calls (k : Nat) : ∀ (A0 : Option Addr) (c0 : Nat) (l0 : List ByteArray) (r1 : Int) (r2 : Int) (r3 : Int) (r4 : Int) (w : World) (hr0 : Kd.C Kd.string w A0 l0.length l0) (hc0 : l0.length ≤ c0) (h : impl_rootOf.f k l0 = some (r1, r2, r3, r4)),
    Calls Try.prog 64 #[.slice A0 l0.length c0] w fun e w' => e = .returned (.agg #[.int .u64 r1, .int .u64 r2, .int .u64 r3, .int .u64 r4]) ∧ Below w.heap.size w w' := by
  induction k using Nat.strongRecOn with
  | _ k ih =>
  intro A0 c0 l0 r1 r2 r3 r4 w hr0 hc0 h
  cases k with
  | zero => exact absurd h (by simp [impl_rootOf.f])
  | succ k =>
  simp only [impl_rootOf.f] at h
  have hu29 := Try.underlying29
  have HR0 := Aside0.mk hr0
  have HC0 := Aside0.mk hc0
  clear hr0 hc0
  have HB := Aside0.mk (Below.refl w.heap.size w)
  have H : (if (l0.length : Int) = 0 then ((impl_HashOf.f k (⟨#[]⟩ : ByteArray)).bind fun bt1238 => (some (bt1238.1, bt1238.2.1, bt1238.2.2.1, bt1238.2.2.2))) else (if (l0.length : Int) = 1 then (if 0 < (l0.length : Int) then ((impl_HashLeaf.f k (rdOf ByteArray.empty l0 0)).bind fun bt1243 => (some (bt1243.1, bt1243.2.1, bt1243.2.2.1, bt1243.2.2.2))) else (none)) else ((impl_TreeSplit.f k (l0.length : Int)).bind fun t1247 => (if 0 ≤ t1247 then (if t1247 ≤ (l0.length : Int) then ((impl_rootOf.f k (l0.take (t1247 : Int).toNat)).bind fun bt1249 => ((impl_rootOf.f k (l0.drop (t1247 : Int).toNat)).bind fun bt1254 => ((impl_HashPair.f k bt1249.1 bt1249.2.1 bt1249.2.2.1 bt1249.2.2.2 bt1254.1 bt1254.2.1 bt1254.2.2.1 bt1254.2.2.2).bind fun bt1258 => (some (bt1258.1, bt1258.2.1, bt1258.2.2.1, bt1258.2.2.2))))) else (none)) else (none))))) = some (r1, r2, r3, r4) := h
  clear h
  by_cases c2 : (l0.length : Int) = 0
  · rw [if_pos c2] at H
    have c2b0 : ((l0.length : Int) == 0) = true := beq_iff_eq.mpr c2
    have c2b1 : ((l0.length : Int) != 0) = false := bne_eq_false_iff_eq.mpr c2
    clear c2
    obtain ⟨⟨t1238, t1239, t1240, t1241⟩, A3, H⟩ := bnd_ H
    dsimp only at H
    simp only [Option.some.injEq, Prod.mk.injEq] at H
    obtain ⟨rfl, rfl, rfl, rfl⟩ := H
    go_enter Try.func64, Try.ntmps64
    go_wp2_with (first | ((with_reducible refine gate_dst (N := 2) rfl ?_); refine boxE_ (cs := #[.int .u64 0, .int .u64 0, .int .u64 0, .int .u64 0]) (t := 29) ?_; intro gb1237 hg w4 hbox hb; have BK1237 := Aside0.mk (hbox); have GW1237 := sizeB_ hg; have GE1237 := sizeB_ hg; replace HB := stepB_ hb; clear hb hbox hg) | ((with_reducible refine gate_callee (f := 68) rfl ?_); refine goL_ (some 8) Try.func68 #[.string (⟨#[]⟩ : ByteArray)] ?_; (with_reducible refine (impl_HashOf.calls k (⟨#[]⟩ : ByteArray) t1238 t1239 t1240 t1241 _ A3.out).mono ?_); rintro e w5 ⟨rfl, hb⟩; refine ⟨_, rfl, ?_⟩; replace BK1237 := blkBel_ BK1237.out hb; replace HB := stepB_ hb; (try clear hb); obtain ⟨hcz6_0, hcz6_1, hcz6_2, hcz6_3, hfz6_0, hfz6_1, hfz6_2, hfz6_3⟩ := cz4_ BK1237.out))
    refine bodyPost_ret (results_cell_row rfl _ _ gb1237 29 #[.int .u64 t1238, .int .u64 t1239, .int .u64 t1240, .int .u64 t1241] (0, 0) _ rfl (blkF_ BK1237.out) Try.underlying29 rfl (by kernel_rfl)) rfl ?_
    exact ⟨rfl_, bel_⟩
  · rw [if_neg c2] at H
    have c2b0 : ((l0.length : Int) == 0) = false := beq_eq_false_iff_ne.mpr c2
    have c2b1 : ((l0.length : Int) != 0) = true := bne_iff_ne.mpr c2
    have c2b2 : ¬ (l0 = []) := fun h_ => c2 (by rw [h_]; rfl)
    by_cases c7 : (l0.length : Int) = 1
    · rw [if_pos c7] at H
      have c7b0 : ((l0.length : Int) == 1) = true := beq_iff_eq.mpr c7
      have c7b1 : ((l0.length : Int) != 1) = false := bne_eq_false_iff_eq.mpr c7
      clear c7
      by_cases c8 : 0 < (l0.length : Int)
      · rw [if_pos c8] at H
        have c8b0 : decide (0 < (l0.length : Int)) = true := decide_eq_true c8
        have c8b1 : decide (0 < l0.length) = true := decide_eq_true (by omega)
        clear c8
        obtain ⟨⟨t1243, t1244, t1245, t1246⟩, A9, H⟩ := bnd_ H
        dsimp only at H
        simp only [Option.some.injEq, Prod.mk.injEq] at H
        obtain ⟨rfl, rfl, rfl, rfl⟩ := H
        go_enter Try.func64, Try.ntmps64
        go_wp2_with (first | ((with_reducible refine gate_dst (N := 2) rfl ?_); refine boxE_ (cs := #[.int .u64 0, .int .u64 0, .int .u64 0, .int .u64 0]) (t := 29) ?_; intro gb1237 hg w10 hbox hb; have BK1237 := Aside0.mk (hbox); have GW1237 := sizeB_ hg; have GE1237 := sizeB_ hg; replace HB := stepB_ hb; clear hb hbox hg; have p1242 : 0 ≤ (0 : Int) := (by omega); have q1242 : 0 < (l0.length : Int) := ofd_; obtain ⟨ad1242, e1242, hx1242_0⟩ := Kd.at_string HR0.out 0 p1242 q1242; cases e1242; have qi1242 : (0 < l0.length) = True := eq_true (by omega); (try rw [show ((0 : Int)).toNat = 0 from rfl] at hx1242_0); (try rw [Addr.add_zero'] at hx1242_0); replace hx1242_0 := pw_cell_below HB.out hx1242_0; replace p1242 := eq_true p1242; replace q1242 := eq_true q1242) | ((with_reducible refine gate_callee (f := 108) rfl ?_); refine goL_ (some 14) Try.func108 #[.string (rdOf ByteArray.empty l0 0)] ?_; (with_reducible refine (impl_HashLeaf.calls k (rdOf ByteArray.empty l0 0) t1243 t1244 t1245 t1246 _ A9.out).mono ?_); rintro e w11 ⟨rfl, hb⟩; refine ⟨_, rfl, ?_⟩; replace BK1237 := blkBel_ BK1237.out hb; replace HB := stepB_ hb; (try clear hb); obtain ⟨hcz12_0, hcz12_1, hcz12_2, hcz12_3, hfz12_0, hfz12_1, hfz12_2, hfz12_3⟩ := cz4_ BK1237.out))
        refine bodyPost_ret (results_cell_row rfl _ _ gb1237 29 #[.int .u64 t1243, .int .u64 t1244, .int .u64 t1245, .int .u64 t1246] (0, 0) _ rfl (blkF_ BK1237.out) Try.underlying29 rfl (by kernel_rfl)) rfl ?_
        exact ⟨rfl_, bel_⟩
      · rw [if_neg c8] at H
        exact absurd H (by simp)
    · rw [if_neg c7] at H
      have c7b0 : ((l0.length : Int) == 1) = false := beq_eq_false_iff_ne.mpr c7
      have c7b1 : ((l0.length : Int) != 1) = true := bne_iff_ne.mpr c7
      obtain ⟨t1247, A13, H⟩ := bnd_ H
      by_cases c14 : 0 ≤ t1247
      · rw [if_pos c14] at H
        have c14b0 := eq_true c14
        have c14b1 : decide (0 ≤ t1247) = true := decide_eq_true c14
        clear c14
        by_cases c15 : t1247 ≤ (l0.length : Int)
        · rw [if_pos c15] at H
          have c15b0 := eq_true c15
          have c15b1 : decide (t1247 ≤ (l0.length : Int)) = true := decide_eq_true c15
          clear c15
          obtain ⟨⟨t1249, t1250, t1251, t1252⟩, A16, H⟩ := bnd_ H
          dsimp only at H
          have c17b0 := eq_true (ofd_ : 0 ≤ t1247)
          have c18b0 := eq_true (ofd_ : t1247 ≤ (l0.length : Int))
          obtain ⟨⟨t1254, t1255, t1256, t1257⟩, A19, H⟩ := bnd_ H
          dsimp only at H
          obtain ⟨⟨t1258, t1259, t1260, t1261⟩, A20, H⟩ := bnd_ H
          dsimp only at H
          simp only [Option.some.injEq, Prod.mk.injEq] at H
          obtain ⟨rfl, rfl, rfl, rfl⟩ := H
          go_enter Try.func64, Try.ntmps64
          try go_wp2_with (first | ((with_reducible refine gate_dst (N := 2) rfl ?_); refine boxE_ (cs := #[.int .u64 0, .int .u64 0, .int .u64 0, .int .u64 0]) (t := 29) ?_; intro gb1237 hg w21 hbox hb; have BK1237 := Aside0.mk (hbox); have GW1237 := sizeB_ hg; have GE1237 := sizeB_ hg; replace HB := stepB_ hb; clear hb hbox hg) | ((with_reducible refine gate_callee (f := 109) rfl ?_); refine goL_ (some 17) Try.func109 #[.int .i64 (l0.length : Int)] ?_; (with_reducible refine (impl_TreeSplit.calls k (l0.length : Int) t1247 _ A13.out).mono ?_); rintro e w' ⟨rfl, ⟨nd, rfl⟩⟩; refine ⟨_, rfl, ?_⟩; (try (rw [drewN_self w21]; generalize hq_ : World.drewN w21 _ = w21; have n0_ : Aside0 (w21.heap[gb1237]? = some (.cells #[.int .u64 0, .int .u64 0, .int .u64 0, .int .u64 0] 29 (0, 0))) := ⟨by rw [← hq_]; exact (blkU_ BK1237.out)⟩; have n1_ : Aside0 (Below w.heap.size w w21) := ⟨by rw [← hq_]; exact bel_⟩; clear BK1237 HB hq_; have BK1237 := n0_; have HB := n1_; clear n0_ n1_))))
          replace BK1237 := Aside0.mk (blk_drew BK1237.out)
          replace HB := Aside0.mk (below_drew1 HB.out)
          obtain ⟨i023, hi023, _, hsz23, _⟩ := info_parts info9
          obtain ⟨hcut23, hA23, hC23⟩ := print_take_of (P := Try.prog) Value.string (⟨#[]⟩ : ByteArray) 61 9 .i64 Try.underlying61 hi023 hsz23 A0 c0 l0 t1247 (ofd_) (ofd_) HC0.out
          have HR1248 := Aside0.mk (Kd.C_of_reads (h1 := fun _ => rfl) (hA23 _ (Kd.reads_of_C HR0.out)))
          have HC1248 := Aside0.mk hC23
          clear hA23 hC23 hi023 hsz23
          obtain ⟨i024, hi024, _, hsz24, _⟩ := info_parts info9
          obtain ⟨A24, hcut24, hA24, hC24⟩ := print_drop_of (P := Try.prog) Value.string (⟨#[]⟩ : ByteArray) 61 9 .i64 Try.underlying61 hi024 hsz24 A0 c0 l0 t1247 (ofd_) (ofd_) HC0.out
          have HR1253 := Aside0.mk (Kd.C_of_reads (h1 := fun _ => rfl) (hA24 _ (Kd.reads_of_C HR0.out)))
          have HC1253 := Aside0.mk hC24
          clear hA24 hC24 hi024 hsz24
          refine start_ (n := 10) (S := fun w' => True) (ds := []) #[false, false, false, false, false, false, false, false, false, false] (by kernel_rfl) rfl rfl trivial (fun hHeld => ?_); refine with_tabW impl_rootOf.tab7 impl_rootOf.bits7 (fun HT_ HW_ => ?_)
          generalize w21.drew = w22 at BK1237 HB HR1248 HR1253 hHeld ⊢
          refine pureP_ 0 (some 18) #[true, false, false, false, false, false, false, false, false, false] HT_ ?_
          refine pureP_ 1 (some 19) #[true, true, false, false, false, false, false, false, false, false] HT_ ?_
          refine pureP_ 2 (some 20) #[true, true, true, false, false, false, false, false, false, false] HT_ ?_
          refine pureP_ 4 (some 22) #[true, true, true, false, true, false, false, false, false, false] HT_ ?_
          refine pureP_ 5 (some 23) #[true, true, true, false, true, true, false, false, false, false] HT_ ?_
          refine pureP_ 6 (some 24) #[true, true, true, false, true, true, true, false, false, false] HT_ ?_
          refine oneP_ 3 (some 21) #[true, true, true, true, true, true, true, false, false, false] HT_ (fun K hK => ?_)
          refine goes_ Try.func64 (by kernel_rfl) rfl #[.slice A0 (l0.take (t1247 : Int).toNat).length c0] (by rfl) rfl rfl (by (try simp only [List.map_toArray, List.map_cons, List.map_nil]); first | done | (rw [show (l0.take (t1247 : Int).toNat).length = t1247.toNat from (by rw [List.length_take]; have h_ : (t1247 : Int) ≤ (l0.length : Int) := ofd_; omega)] <;> rfl) | rfl | (simp only [List.length_drop, List.length_take]; rfl)) ?_
          with_reducible refine (ih k (by omega) _ _ (l0.take (t1247 : Int).toNat) t1249 t1250 t1251 t1252 _ ?side1 ?side2 A16.out).mono ?_
          (case side1 => repeat (first | exact (Kd.C_below HR1248.out HB.out) | (with_reducible refine Kd.C_alloc ?_ _) | (with_reducible refine Kd.C_drewN ?_ _) | (with_reducible refine Kd.C_drew ?_)))
          (case side2 => exact HC1248.out)
          rintro e w25 ⟨rfl, hb⟩
          refine ⟨_, rfl, ?_⟩
          replace BK1237 := blkBel_ BK1237.out hb
          replace HB := stepB_ hb
          (try clear hb)
          refine hK.out _ _ trivial (fun hHeld => ?_)
          clear hK K
          refine norm_ (a' := ?_) ?_ ?_
          rotate_left
          · show Act.put _ (some 21) _ = _
            simp only [Act.put, List.setIfInBounds_toArray, List.set_cons_zero, List.set_cons_succ, i64_w, i32_w]
            rfl
          refine oneP_ 7 (some 25) #[true, true, true, true, true, true, true, true, false, false] HT_ (fun K hK => ?_)
          refine goes_ Try.func64 (by kernel_rfl) rfl #[.slice A24 (l0.drop (t1247 : Int).toNat).length (c0 - t1247.toNat)] (by rfl) rfl rfl (by (try simp only [List.map_toArray, List.map_cons, List.map_nil]); first | done | (rw [show (l0.drop (t1247 : Int).toNat).length = (l0.length - t1247.toNat) from List.length_drop] <;> rfl) | rfl | (simp only [List.length_drop, List.length_take]; rfl)) ?_
          with_reducible refine (ih k (by omega) _ _ (l0.drop (t1247 : Int).toNat) t1254 t1255 t1256 t1257 _ ?side1 ?side2 A19.out).mono ?_
          (case side1 => repeat (first | exact (Kd.C_below HR1253.out HB.out) | (with_reducible refine Kd.C_alloc ?_ _) | (with_reducible refine Kd.C_drewN ?_ _) | (with_reducible refine Kd.C_drew ?_)))
          (case side2 => exact HC1253.out)
          rintro e w26 ⟨rfl, hb⟩
          refine ⟨_, rfl, ?_⟩
          replace BK1237 := blkBel_ BK1237.out hb
          replace HB := stepB_ hb
          (try clear hb)
          refine hK.out _ _ trivial (fun hHeld => ?_)
          clear hK K
          refine norm_ (a' := ?_) ?_ ?_
          rotate_left
          · show Act.put _ (some 25) _ = _
            simp only [Act.put, List.setIfInBounds_toArray, List.set_cons_zero, List.set_cons_succ, i64_w, i32_w]
            rfl
          refine oneP_ 8 (some 26) #[true, true, true, true, true, true, true, true, true, false] HT_ (fun K hK => ?_)
          refine goN_ Try.func110 #[.agg #[.int .u64 t1249, .int .u64 t1250, .int .u64 t1251, .int .u64 t1252], .agg #[.int .u64 t1254, .int .u64 t1255, .int .u64 t1256, .int .u64 t1257]] ?_
          with_reducible refine (impl_HashPair.calls k t1249 t1250 t1251 t1252 t1254 t1255 t1256 t1257 t1258 t1259 t1260 t1261 _ A20.out).mono ?_
          rintro e w27 ⟨rfl, hb⟩
          refine ⟨_, rfl, ?_⟩
          replace BK1237 := blkBel_ BK1237.out hb
          replace HB := stepB_ hb
          (try clear hb)
          refine hK.out _ _ trivial (fun hHeld => ?_)
          clear hK K
          refine norm_ (a' := ?_) ?_ ?_
          rotate_left
          · show Act.put _ (some 26) _ = _
            simp only [Act.put, List.setIfInBounds_toArray, List.set_cons_zero, List.set_cons_succ, i64_w, i32_w]
            rfl
          refine oneP_ 9 none #[true, true, true, true, true, true, true, true, true, true] HT_ (fun K hK => ?_)
          have hs28 : w27.cell? ⟨gb1237, 0, none⟩ = some (.int .u64 0) := (blk_cell BK1237.out 0).trans rfl
          have hfs28 := blk_frozen BK1237.out 0
          have hs29 : w27.cell? ⟨gb1237, 1, none⟩ = some (.int .u64 0) := (blk_cell BK1237.out 1).trans rfl
          have hfs29 := blk_frozen BK1237.out 1
          have hs30 : w27.cell? ⟨gb1237, 2, none⟩ = some (.int .u64 0) := (blk_cell BK1237.out 2).trans rfl
          have hfs30 := blk_frozen BK1237.out 2
          have hs31 : w27.cell? ⟨gb1237, 3, none⟩ = some (.int .u64 0) := (blk_cell BK1237.out 3).trans rfl
          have hfs31 := blk_frozen BK1237.out 3
          refine skip_ (w1 := ?_) (by rfl) rfl ?_ ?_
          rotate_left
          · go_simp
            rfl
          refine hK.out _ _ trivial (fun hHeld => ?_)
          clear hK K
          refine done_ (done_of HT_.out (by kernel_rfl)) ?_
          try go_wp2
          refine bodyPost_ret (results_cell_row rfl _ _ gb1237 29 #[.int .u64 t1258, .int .u64 t1259, .int .u64 t1260, .int .u64 t1261] (0, 0) _ rfl (blkF_ BK1237.out) Try.underlying29 rfl (by kernel_rfl)) rfl ?_
          exact ⟨rfl_, bel_⟩
        · rw [if_neg c15] at H
          exact absurd H (by simp)
      · rw [if_neg c14] at H
        exact absurd H (by simp)
end
section
def spec_LeavesOk.l0 : Nat → List ByteArray → Int → Option (Bool)
  | 0, _, _ => none
  | k + 1, x0, x3 => if x3 < (x0.length : Int) then (if 0 ≤ x3 then (if ((rdOf ByteArray.empty x0 x3).size : Int) > 40 then (some false) else (spec_LeavesOk.l0 k x0 (wrap64 (x3 + 1)))) else (none)) else (some true)
def spec_LeavesOk.f (k : Nat) (l0 : List ByteArray) : Option (Bool) := if (l0.length : Int) > 256 then (some false) else (spec_LeavesOk.l0 k l0 0)
set_option maxHeartbeats 8000000 in
set_option maxRecDepth 100000 in
theorem spec_LeavesOk.calls (k : Nat) (A0 : Option Addr) (c0 : Nat) (l0 : List ByteArray) (r : Bool) (w : World) (hr0 : Kd.C Kd.string w A0 l0.length l0) (hc0 : l0.length ≤ c0) (h : spec_LeavesOk.f k l0 = some r) :
    Calls Try.prog 30 #[.slice A0 l0.length c0] w fun e w' => e = .returned (.bool r) ∧ Drawn0 w w' := by
  have HR0 := Aside0.mk hr0
  have HC0 := Aside0.mk hc0
  clear hr0 hc0
  have H : (if (l0.length : Int) > 256 then (some false) else (spec_LeavesOk.l0 k l0 0)) = some r := h
  clear h
  by_cases c2 : (l0.length : Int) > 256
  · rw [if_pos c2] at H
    have c2b0 : decide (256 < (l0.length : Int)) = true := decide_eq_true c2
    have c2b1 : decide (256 < l0.length) = true := decide_eq_true (by omega)
    clear c2
    obtain rfl := Option.some.inj H
    go_enter Try.func30, Try.ntmps30
    go_wp2
    go_ret
    exact ⟨by first | rfl | (simp; done) | (simp [*]; done), by repeat (first | exact Drawn0.refl _ | apply Drawn0.step)⟩
  · rw [if_neg c2] at H
    have c2b0 : decide (256 < (l0.length : Int)) = false := decide_eq_false c2
    have c2b1 : decide (256 < l0.length) = false := decide_eq_false (by omega)
    clear c2
    have H' := Aside0.mk H
    clear H
    go_enter Try.func30, Try.ntmps30
    go_wp2
    go_loopg [3] k (fun kq v3 w' => ∃ (x3_1 : Int), v3 = .int .i64 x3_1 ∧ Aside0 (spec_LeavesOk.l0 kq l0 x3_1 = some r) ∧ Aside0 (kq ≤ k) ∧ Drawn0 w w')
    case atStart => exact ⟨(0), (by first | rfl | (simp; done) | (simp [*]; done)), H', ⟨Nat.le_refl _⟩, by repeat (first | exact Drawn0.refl _ | apply Drawn0.step)⟩
    case round =>
      clear H'
      (try clear c2); (try clear c2b0); (try clear c2b1)
      obtain ⟨x3_1, rfl, HA, HK1, ⟨m1, rfl⟩⟩ := hrel
      cases gk with
      | zero => exact absurd HA.out (by simp [spec_LeavesOk.l0])
      | succ k1 =>
        have H := HA.out
        clear HA
        simp only [spec_LeavesOk.l0] at H
        by_cases c3 : x3_1 < (l0.length : Int)
        · rw [if_pos c3] at H
          have c3b0 : decide (x3_1 < (l0.length : Int)) = true := decide_eq_true c3
          clear c3
          by_cases c4 : 0 ≤ x3_1
          · rw [if_pos c4] at H
            have c4b0 : decide (0 ≤ x3_1) = true := decide_eq_true c4
            clear c4
            by_cases c5 : ((rdOf ByteArray.empty l0 x3_1).size : Int) > 40
            · rw [if_pos c5] at H
              have c5b0 : decide (40 < ((rdOf ByteArray.empty l0 x3_1).size : Int)) = true := decide_eq_true c5
              have c5b1 : decide (40 < (rdOf ByteArray.empty l0 x3_1).size) = true := decide_eq_true (by omega)
              clear c5
              obtain rfl := Option.some.inj H
              have p1286 : 0 ≤ (x3_1 : Int) := ofd_
              have q1286 : x3_1 < (l0.length : Int) := ofd_
              obtain ⟨ad1286, e1286, hx1286_0⟩ := Kd.at_string HR0.out x3_1 p1286 q1286
              cases e1286
              replace p1286 := eq_true p1286
              replace q1286 := eq_true q1286
              go_wp2
              go_ret
              exact ⟨by first | rfl | (simp; done) | (simp [*]; done), by repeat (first | exact Drawn0.refl _ | apply Drawn0.step)⟩
            · rw [if_neg c5] at H
              have c5b0 : decide (40 < ((rdOf ByteArray.empty l0 x3_1).size : Int)) = false := decide_eq_false c5
              have c5b1 : decide (40 < (rdOf ByteArray.empty l0 x3_1).size) = false := decide_eq_false (by omega)
              clear c5
              have H' := Aside0.mk H
              clear H
              have p1286 : 0 ≤ (x3_1 : Int) := ofd_
              have q1286 : x3_1 < (l0.length : Int) := ofd_
              obtain ⟨ad1286, e1286, hx1286_0⟩ := Kd.at_string HR0.out x3_1 p1286 q1286
              cases e1286
              replace p1286 := eq_true p1286
              replace q1286 := eq_true q1286
              go_wp2
              go_roundg k1
              case measure => have := HK1.out; omega
              case rel => exact ⟨(wrap64 (x3_1 + 1)), (by first | rfl | (simp; done) | (simp [*]; done)), H', ⟨by have := HK1.out; omega⟩, by repeat (first | exact Drawn0.refl _ | apply Drawn0.step)⟩
          · rw [if_neg c4] at H
            exact absurd H (by simp)
        · rw [if_neg c3] at H
          have c3b0 : decide (x3_1 < (l0.length : Int)) = false := decide_eq_false c3
          clear c3
          obtain rfl := Option.some.inj H
          go_wp2
          go_ret
          exact ⟨by first | rfl | (simp; done) | (simp [*]; done), by repeat (first | exact Drawn0.refl _ | apply Drawn0.step)⟩
end
end Go.Proofs.Ytflckegggopdnaa.B
