/- What the Go functions loop.example/belfry/spec.ClashFirst, loop.example/belfry/impl.ClashFirst do is what the Lean functions .f of their names here say; condition: .f gives an answer. (Written by the session's program pp.py over the kit's print; Lean checks it.) -/
import Derived.Test.YtemfciflhbhobaaK
import Derived.Test.YtemfciflhbhobaaM
namespace Go.Proofs.Ytemfciflhbhobaa.B
open Go.RowKit Go.Proofs.YtemfciflhbhobaaW.PrintWords Go.Proofs.YtemfciflhbhobaaW.PrintLast Go.Proofs.YtemfciflhbhobaaW.PrintMore
attribute [local go_sem] max2_int min2_int max_two min_two max_three min_three max_four min_four   -- for this text's walks alone
set_option linter.unusedVariables false
set_option linter.unusedSimpArgs false

section
/-! ### spec_ClashFirst: function 92 -/
mutual
def spec_ClashFirst.l0 : Nat → List ByteArray → List ByteArray → Int → Option (ByteArray × ByteArray × Bool)
  | 0, _, _, _ => none
  | k + 1, x0, x1, x6 => if x6 < (x0.length : Int) then (spec_ClashFirst.j1 k x0 x1 x6 (decide (x6 < (x1.length : Int)))) else (spec_ClashFirst.j1 k x0 x1 x6 false)
def spec_ClashFirst.j1 : Nat → List ByteArray → List ByteArray → Int → Bool → Option (ByteArray × ByteArray × Bool)
  | 0, _, _, _, _ => none
  | k + 1, x0, x1, x6, x16 => if x16 = true then (if 0 ≤ x6 then (if x6 < (x0.length : Int) then (if x6 < (x1.length : Int) then (if (rdOf ByteArray.empty x0 x6).toList = (rdOf ByteArray.empty x1 x6).toList then (spec_ClashFirst.l0 k x0 x1 (wrap64 (x6 + 1))) else (some (rdOf ByteArray.empty x0 x6, rdOf ByteArray.empty x1 x6, true))) else (none)) else (none)) else (none)) else (some ((⟨#[]⟩ : ByteArray), (⟨#[]⟩ : ByteArray), false))
end
def spec_ClashFirst.f (k : Nat) (l0 : List ByteArray) (l1 : List ByteArray) : Option (ByteArray × ByteArray × Bool) := spec_ClashFirst.l0 k l0 l1 0
theorem spec_ClashFirst.mono_l : ∀ k, (∀ y0 y1 y2, LeO (spec_ClashFirst.l0 k y0 y1 y2) (spec_ClashFirst.l0 (k + 1) y0 y1 y2)) ∧ (∀ y0 y1 y2 y3, LeO (spec_ClashFirst.j1 k y0 y1 y2 y3) (spec_ClashFirst.j1 (k + 1) y0 y1 y2 y3))
  | 0 => ⟨fun _ _ _ r h => by simp [spec_ClashFirst.l0] at h, fun _ _ _ _ r h => by simp [spec_ClashFirst.j1] at h⟩
  | k + 1 => by
    obtain ⟨ih0, ih1⟩ := spec_ClashFirst.mono_l k
    refine ⟨?_, ?_⟩
    · intro y0 y1 y2
      unfold spec_ClashFirst.l0
      repeat' first | (with_reducible first | exact ih0 _ _ _ | exact ih1 _ _ _ _ | exact LeO.refl _ | exact LeO.none _ | refine LeO.ite ?_ ?_ | refine LeO.bind ?_ (fun _ => ?_)) | exact ih0 _ _ _ | exact ih1 _ _ _ _ | exact LeO.none _ | refine LeO.ite ?_ ?_ | refine LeO.bind ?_ (fun _ => ?_)
    · intro y0 y1 y2 y3
      unfold spec_ClashFirst.j1
      repeat' first | (with_reducible first | exact ih0 _ _ _ | exact ih1 _ _ _ _ | exact LeO.refl _ | exact LeO.none _ | refine LeO.ite ?_ ?_ | refine LeO.bind ?_ (fun _ => ?_)) | exact ih0 _ _ _ | exact ih1 _ _ _ _ | exact LeO.none _ | refine LeO.ite ?_ ?_ | refine LeO.bind ?_ (fun _ => ?_)
theorem spec_ClashFirst.mono : ∀ a0 a1 k, LeO (spec_ClashFirst.f k a0 a1) (spec_ClashFirst.f (k + 1) a0 a1) := by
  intro a0 a1 k
  obtain ⟨ih0, ih1⟩ := spec_ClashFirst.mono_l k
  unfold spec_ClashFirst.f
  repeat' first | (with_reducible first | exact ih0 _ _ _ | exact ih1 _ _ _ _ | exact LeO.refl _ | exact LeO.none _ | refine LeO.ite ?_ ?_ | refine LeO.bind ?_ (fun _ => ?_)) | exact ih0 _ _ _ | exact ih1 _ _ _ _ | exact LeO.none _ | refine LeO.ite ?_ ?_ | refine LeO.bind ?_ (fun _ => ?_)
def spec_ClashFirst.T4 : Bool × List (List Nat × List Nat) := (true, [([], []), ([], []), ([0, 1], [0, 1]), ([2], [2]), ([], []), ([], []), ([4, 5], [4, 5]), ([6], [6]), ([3, 7], [3, 7])])
def spec_ClashFirst.B4 : List Nat := [0, 0, 3, 7, 0, 0, 48, 112, 255]
theorem spec_ClashFirst.tab4 : rtab .any (opsOf Try.f92 4) = spec_ClashFirst.T4 := by kernel_rfl
theorem spec_ClashFirst.bits4 : waitsOk spec_ClashFirst.T4.2 spec_ClashFirst.B4 = true := by kernel_rfl
def spec_ClashFirst.T5 : Bool × List (List Nat × List Nat) := (true, [([], []), ([], []), ([0, 1], [0, 1]), ([2], [2]), ([], []), ([], []), ([4, 5], [4, 5]), ([6], [6]), ([3, 7], [3, 7]), ([8, 0, 1, 2, 3, 4, 5, 6, 7, 8], [8]), ([9, 0, 1, 2, 3, 4, 5, 6, 7, 8, 9], [])])
def spec_ClashFirst.B5 : List Nat := [0, 0, 3, 7, 0, 0, 48, 112, 255, 511, 1023]
theorem spec_ClashFirst.tab5 : rtab .any (opsOf Try.f92 5) = spec_ClashFirst.T5 := by kernel_rfl
theorem spec_ClashFirst.bits5 : waitsOk spec_ClashFirst.T5.2 spec_ClashFirst.B5 = true := by kernel_rfl
set_option maxHeartbeats 8000000 in
set_option maxRecDepth 100000 in
theorem spec_ClashFirst.calls (k : Nat) (A0 : Option Addr) (c0 : Nat) (l0 : List ByteArray) (A1 : Option Addr) (c1 : Nat) (l1 : List ByteArray) (r1 : ByteArray) (r2 : ByteArray) (r3 : Bool) (w : World) (hr0 : Kd.C Kd.string w A0 l0.length l0) (hc0 : l0.length ≤ c0) (hr1 : Kd.C Kd.string w A1 l1.length l1) (hc1 : l1.length ≤ c1) (h : spec_ClashFirst.f k l0 l1 = some (r1, r2, r3)) :
    Calls Try.prog 92 #[.slice A0 l0.length c0, .slice A1 l1.length c1] w fun e w' => e = .returned (.tuple #[.agg #[.string r1, .string r2], .bool r3]) ∧ Below w.heap.size w w' := by
  have hu46 := Try.underlying46
  have HR0 := Aside0.mk hr0
  have HC0 := Aside0.mk hc0
  clear hr0 hc0
  have HR1 := Aside0.mk hr1
  have HC1 := Aside0.mk hc1
  clear hr1 hc1
  have HB := Aside0.mk (Below.refl w.heap.size w)
  have H : (spec_ClashFirst.l0 k l0 l1 0) = some (r1, r2, r3) := h
  clear h
  have H' := Aside0.mk H
  clear H
  go_enter Try.func92, Try.ntmps92
  go_wp2_with (first | ((with_reducible refine gate_dst (N := 4) rfl ?_); (try (refine gate_guard (by rfl) ?_; dsimp only)); refine boxE_ (cs := #[.string (⟨#[]⟩ : ByteArray), .string (⟨#[]⟩ : ByteArray)]) (t := 46) ?_; intro gb607 hg w3 hbox hb; have BK607 := Aside0.mk (hbox); have GW607 := sizeB_ hg; have GE607 := sizeB_ hg; replace HB := stepB_ hb; clear hb hbox hg))
  go_loopg [6] k (fun kq v6 w' => ∃ (x6_1 : Int) (x608000_1 : ByteArray) (x608001_1 : ByteArray), v6 = .int .i64 x6_1 ∧ Aside0 (spec_ClashFirst.l0 kq l0 l1 x6_1 = some (r1, r2, r3)) ∧ Aside0 (kq ≤ k) ∧ Aside0 (w'.heap[gb607]? = some (.cells #[.string x608000_1, .string x608001_1] 46 (0, 0))) ∧ Aside0 (Below w.heap.size w w'))
  case atStart => exact ⟨(0), ((⟨#[]⟩ : ByteArray)), ((⟨#[]⟩ : ByteArray)), (by first | rfl | (simp; done) | (simp [*]; done)), H', ⟨Nat.le_refl _⟩, ⟨blkU_ BK607.out⟩, ⟨bel_⟩⟩
  case round =>
    clear H'
    (try clear c1)
    obtain ⟨x6_1, x608000_1, x608001_1, rfl, HA, HK1, BK607, HB⟩ := hrel
    cases gk with
    | zero => exact absurd HA.out (by simp [spec_ClashFirst.l0])
    | succ k1 =>
      have H := HA.out
      clear HA
      simp only [spec_ClashFirst.l0] at H
      have HC4 := Aside0.mk H
      clear H
      go_upto_region 2 with (fail)
      go_cut [16] (fun v16 wc => ∃ (kq : Nat) (x16_3 : Bool), v16 = .bool x16_3 ∧ Aside0 (spec_ClashFirst.j1 kq l0 l1 x6_1 x16_3 = some (r1, r2, r3)) ∧ Aside0 (kq ≤ k1) ∧ Aside0 (wc.heap[gb607]? = some (.cells #[.string x608000_1, .string x608001_1] 46 (0, 0))) ∧ Aside0 (Below w.heap.size w wc))
      case first =>
        have H := HC4.out
        clear HC4
        by_cases c5 : x6_1 < (l0.length : Int)
        · rw [if_pos c5] at H
          have c5b0 : decide (x6_1 < (l0.length : Int)) = true := decide_eq_true c5
          clear c5
          (first | rw [c5b0] | (simp only [i64_w, i32_w]; rw [c5b0]) | skip)
          have H' := Aside0.mk H
          clear H
          go_wp2
          go_meet
          case rel => exact ⟨_, (decide (x6_1 < (l1.length : Int))), (by first | rfl | (simp; done) | (simp [*]; done)), H', ⟨by have := HK1.out; first | omega | exact Nat.le_refl _⟩, ⟨blkU_ BK607.out⟩, ⟨bel_⟩⟩
        · rw [if_neg c5] at H
          have c5b0 : decide (x6_1 < (l0.length : Int)) = false := decide_eq_false c5
          clear c5
          (first | rw [c5b0] | (simp only [i64_w, i32_w]; rw [c5b0]) | skip)
          have H' := Aside0.mk H
          clear H
          go_wp2
          go_meet
          case rel => exact ⟨_, (false), (by first | rfl | (simp; done) | (simp [*]; done)), H', ⟨by have := HK1.out; first | omega | exact Nat.le_refl _⟩, ⟨blkU_ BK607.out⟩, ⟨bel_⟩⟩
      case rest =>
        clear HC4
        (try clear c1); (try clear c5); (try clear c5b0)
        obtain ⟨kq, x16_3, rfl, HA, HJ3, BK607, HB⟩ := hcut
        cases kq with
        | zero => exact absurd HA.out (by simp [spec_ClashFirst.j1])
        | succ kj3 =>
          have H := HA.out
          clear HA
          simp only [spec_ClashFirst.j1] at H
          by_cases c6 : x16_3 = true
          · subst c6
            rw [if_pos rfl] at H
            by_cases c7 : 0 ≤ x6_1
            · rw [if_pos c7] at H
              have c7b0 : decide (0 ≤ x6_1) = true := decide_eq_true c7
              clear c7
              by_cases c8 : x6_1 < (l0.length : Int)
              · rw [if_pos c8] at H
                have c8b0 : decide (x6_1 < (l0.length : Int)) = true := decide_eq_true c8
                clear c8
                by_cases c9 : x6_1 < (l1.length : Int)
                · rw [if_pos c9] at H
                  have c9b0 : decide (x6_1 < (l1.length : Int)) = true := decide_eq_true c9
                  clear c9
                  by_cases c10 : (rdOf ByteArray.empty l0 x6_1).toList = (rdOf ByteArray.empty l1 x6_1).toList
                  · rw [if_pos c10] at H
                    have c10b0 : ((rdOf ByteArray.empty l0 x6_1).toList == (rdOf ByteArray.empty l1 x6_1).toList) = true := beq_iff_eq.mpr c10
                    have c10b1 : ((rdOf ByteArray.empty l0 x6_1).toList != (rdOf ByteArray.empty l1 x6_1).toList) = false := bne_eq_false_iff_eq.mpr c10
                    clear c10
                    have H' := Aside0.mk H
                    clear H
                    try go_wp2
                    replace BK607 := Aside0.mk (blk_drew BK607.out)
                    replace HB := Aside0.mk (below_drew1 HB.out)
                    have p608 : 0 ≤ (x6_1 : Int) := ofd_
                    have q608 : x6_1 < (l0.length : Int) := ofd_
                    obtain ⟨ad608, e608, hx608_0⟩ := Kd.at_string HR0.out x6_1 p608 q608
                    have hw608_0 := hx608_0
                    cases e608
                    replace hx608_0 := pw_cell_below HB.out hx608_0
                    replace p608 := eq_true p608
                    replace q608 := eq_true q608
                    have p609 : 0 ≤ (x6_1 : Int) := ofd_
                    have q609 : x6_1 < (l1.length : Int) := ofd_
                    obtain ⟨ad609, e609, hx609_0⟩ := Kd.at_string HR1.out x6_1 p609 q609
                    have hw609_0 := hx609_0
                    cases e609
                    replace hx609_0 := pw_cell_below HB.out hx609_0
                    replace p609 := eq_true p609
                    replace q609 := eq_true q609
                    refine start_ (n := 9) (S := fun w' => w'.cell? (ad608.add (x6_1).toNat) = some (.string (rdOf ByteArray.empty l0 x6_1)) ∧ w'.cell? (ad609.add (x6_1).toNat) = some (.string (rdOf ByteArray.empty l1 x6_1))) (ds := []) #[false, false, false, false, false, false, false, false, false] (by kernel_rfl) rfl rfl ⟨(pw_cell_below HB.out hw608_0), (pw_cell_below HB.out hw609_0)⟩ (fun hHeld => ?_); refine with_tabW spec_ClashFirst.tab4 spec_ClashFirst.bits4 (fun HT_ HW_ => ?_)
                    generalize wc.drew = w11 at BK607 HB hx608_0 hx609_0 hHeld ⊢
                    refine pureP_ 0 (some 19) #[true, false, false, false, false, false, false, false, false] HT_ ?_
                    refine pureP_ 1 (some 20) #[true, true, false, false, false, false, false, false, false] HT_ ?_
                    refine pureP_ 2 (some 21) #[true, true, true, false, false, false, false, false, false] HT_ ?_
                    refine pureP_ 4 (some 23) #[true, true, true, false, true, false, false, false, false] HT_ ?_
                    refine pureP_ 5 (some 24) #[true, true, true, false, true, true, false, false, false] HT_ ?_
                    refine pureP_ 6 (some 25) #[true, true, true, false, true, true, true, false, false] HT_ ?_
                    refine takeP_ 3 (some 22) #[true, true, true, true, true, true, true, false, false] HT_ HW_ hHeld ?_
                    refine takeP_ 7 (some 26) #[true, true, true, true, true, true, true, true, false] HT_ HW_ hHeld ?_
                    refine pureP_ 8 (some 27) #[true, true, true, true, true, true, true, true, true] HT_ ?_
                    refine done_ (done_of HT_.out (by kernel_rfl)) ?_
                    try go_wp2
                    go_roundg kj3
                    case measure => have := HK1.out; have := HJ3.out; omega
                    case rel => exact ⟨(wrap64 (x6_1 + 1)), (x608000_1), (x608001_1), (by first | rfl | (simp; done) | (simp [*]; done)), H', ⟨by have := HK1.out; have := HJ3.out; omega⟩, ⟨blkU_ BK607.out⟩, ⟨bel_⟩⟩
                  · rw [if_neg c10] at H
                    have c10b0 : ((rdOf ByteArray.empty l0 x6_1).toList == (rdOf ByteArray.empty l1 x6_1).toList) = false := beq_eq_false_iff_ne.mpr c10
                    have c10b1 : ((rdOf ByteArray.empty l0 x6_1).toList != (rdOf ByteArray.empty l1 x6_1).toList) = true := bne_iff_ne.mpr c10
                    simp only [Option.some.injEq, Prod.mk.injEq] at H
                    obtain ⟨rfl, rfl, rfl⟩ := H
                    try go_wp2
                    replace BK607 := Aside0.mk (blk_drew BK607.out)
                    replace HB := Aside0.mk (below_drew1 HB.out)
                    have p608 : 0 ≤ (x6_1 : Int) := ofd_
                    have q608 : x6_1 < (l0.length : Int) := ofd_
                    obtain ⟨ad608, e608, hx608_0⟩ := Kd.at_string HR0.out x6_1 p608 q608
                    have hw608_0 := hx608_0
                    cases e608
                    replace hx608_0 := pw_cell_below HB.out hx608_0
                    replace p608 := eq_true p608
                    replace q608 := eq_true q608
                    have p609 : 0 ≤ (x6_1 : Int) := ofd_
                    have q609 : x6_1 < (l1.length : Int) := ofd_
                    obtain ⟨ad609, e609, hx609_0⟩ := Kd.at_string HR1.out x6_1 p609 q609
                    have hw609_0 := hx609_0
                    cases e609
                    replace hx609_0 := pw_cell_below HB.out hx609_0
                    replace p609 := eq_true p609
                    replace q609 := eq_true q609
                    refine start_ (n := 9) (S := fun w' => w'.cell? (ad608.add (x6_1).toNat) = some (.string (rdOf ByteArray.empty l0 x6_1)) ∧ w'.cell? (ad609.add (x6_1).toNat) = some (.string (rdOf ByteArray.empty l1 x6_1))) (ds := []) #[false, false, false, false, false, false, false, false, false] (by kernel_rfl) rfl rfl ⟨(pw_cell_below HB.out hw608_0), (pw_cell_below HB.out hw609_0)⟩ (fun hHeld => ?_); refine with_tabW spec_ClashFirst.tab4 spec_ClashFirst.bits4 (fun HT_ HW_ => ?_)
                    generalize wc.drew = w12 at BK607 HB hx608_0 hx609_0 hHeld ⊢
                    refine pureP_ 0 (some 19) #[true, false, false, false, false, false, false, false, false] HT_ ?_
                    refine pureP_ 1 (some 20) #[true, true, false, false, false, false, false, false, false] HT_ ?_
                    refine pureP_ 2 (some 21) #[true, true, true, false, false, false, false, false, false] HT_ ?_
                    refine pureP_ 4 (some 23) #[true, true, true, false, true, false, false, false, false] HT_ ?_
                    refine pureP_ 5 (some 24) #[true, true, true, false, true, true, false, false, false] HT_ ?_
                    refine pureP_ 6 (some 25) #[true, true, true, false, true, true, true, false, false] HT_ ?_
                    refine takeP_ 3 (some 22) #[true, true, true, true, true, true, true, false, false] HT_ HW_ hHeld ?_
                    refine takeP_ 7 (some 26) #[true, true, true, true, true, true, true, true, false] HT_ HW_ hHeld ?_
                    refine pureP_ 8 (some 27) #[true, true, true, true, true, true, true, true, true] HT_ ?_
                    refine done_ (done_of HT_.out (by kernel_rfl)) ?_
                    try go_wp2
                    replace BK607 := Aside0.mk (blk_drew BK607.out)
                    replace HB := Aside0.mk (below_drew1 HB.out)
                    have p610 : 0 ≤ (x6_1 : Int) := ofd_
                    have q610 : x6_1 < (l0.length : Int) := ofd_
                    obtain ⟨ad610, e610, hx610_0⟩ := Kd.at_string HR0.out x6_1 p610 q610
                    have hw610_0 := hx610_0
                    obtain rfl : ad608 = ad610 := (by injection e610)
                    replace hx610_0 := pw_cell_below HB.out hx610_0
                    replace p610 := eq_true p610
                    replace q610 := eq_true q610
                    have p611 : 0 ≤ (x6_1 : Int) := ofd_
                    have q611 : x6_1 < (l1.length : Int) := ofd_
                    obtain ⟨ad611, e611, hx611_0⟩ := Kd.at_string HR1.out x6_1 p611 q611
                    have hw611_0 := hx611_0
                    obtain rfl : ad609 = ad611 := (by injection e611)
                    replace hx611_0 := pw_cell_below HB.out hx611_0
                    replace p611 := eq_true p611
                    replace q611 := eq_true q611
                    refine start_ (n := 11) (S := fun w' => w'.cell? (ad608.add (x6_1).toNat) = some (.string (rdOf ByteArray.empty l0 x6_1)) ∧ w'.cell? (ad609.add (x6_1).toNat) = some (.string (rdOf ByteArray.empty l1 x6_1))) (ds := []) #[false, false, false, false, false, false, false, false, false, false, false] (by kernel_rfl) rfl rfl ⟨(pw_cell_below HB.out hw610_0), (pw_cell_below HB.out hw611_0)⟩ (fun hHeld => ?_); refine with_tabW spec_ClashFirst.tab5 spec_ClashFirst.bits5 (fun HT_ HW_ => ?_)
                    generalize w12.drew = w13 at BK607 HB hx610_0 hx611_0 hHeld ⊢
                    refine pureP_ 0 (some 28) #[true, false, false, false, false, false, false, false, false, false, false] HT_ ?_
                    refine pureP_ 1 (some 29) #[true, true, false, false, false, false, false, false, false, false, false] HT_ ?_
                    refine pureP_ 2 (some 30) #[true, true, true, false, false, false, false, false, false, false, false] HT_ ?_
                    refine pureP_ 4 (some 32) #[true, true, true, false, true, false, false, false, false, false, false] HT_ ?_
                    refine pureP_ 5 (some 33) #[true, true, true, false, true, true, false, false, false, false, false] HT_ ?_
                    refine pureP_ 6 (some 34) #[true, true, true, false, true, true, true, false, false, false, false] HT_ ?_
                    refine takeP_ 3 (some 31) #[true, true, true, true, true, true, true, false, false, false, false] HT_ HW_ hHeld ?_
                    refine takeP_ 7 (some 35) #[true, true, true, true, true, true, true, true, false, false, false] HT_ HW_ hHeld ?_
                    refine pureP_ 8 (some 36) #[true, true, true, true, true, true, true, true, true, false, false] HT_ ?_
                    refine oneP_ 9 none #[true, true, true, true, true, true, true, true, true, true, false] HT_ (fun K hK => ?_)
                    have hs14 : w13.cell? ⟨gb607, 0, none⟩ = some (.string x608000_1) := (blk_cell BK607.out 0).trans rfl
                    have hfs14 := blk_frozen BK607.out 0
                    have hs15 : w13.cell? ⟨gb607, 1, none⟩ = some (.string x608001_1) := (blk_cell BK607.out 1).trans rfl
                    have hfs15 := blk_frozen BK607.out 1
                    refine skip_ (w1 := ?_) (by rfl) rfl ?_ ?_
                    rotate_left
                    · go_simp
                      rfl
                    refine hK.out _ _ ⟨((cell_far (p := ⟨gb607, _, none⟩) (by first | exact Nat.ne_of_lt (Nat.lt_of_lt_of_le (by have := World.block_lt_of_cell? _ _ hw610_0; first | rwa [add_block] at this | exact this) GW607.out) | (rw [add_block]; exact Nat.ne_of_lt (Nat.lt_of_lt_of_le (by have := World.block_lt_of_cell? _ _ hw610_0; first | rwa [add_block] at this | exact this) GW607.out)) | (show (Addr.add _ _).block ≠ _; rw [add_block]; exact Nat.ne_of_lt (Nat.lt_of_lt_of_le (by have := World.block_lt_of_cell? _ _ hw610_0; first | rwa [add_block] at this | exact this) GW607.out)) | (dsimp only; exact Nat.ne_of_lt (Nat.lt_of_lt_of_le (by have := World.block_lt_of_cell? _ _ hw610_0; first | rwa [add_block] at this | exact this) GW607.out))) _).trans (((cell_far (p := ⟨gb607, _, none⟩) (by first | exact Nat.ne_of_lt (Nat.lt_of_lt_of_le (by have := World.block_lt_of_cell? _ _ hw610_0; first | rwa [add_block] at this | exact this) GW607.out) | (rw [add_block]; exact Nat.ne_of_lt (Nat.lt_of_lt_of_le (by have := World.block_lt_of_cell? _ _ hw610_0; first | rwa [add_block] at this | exact this) GW607.out)) | (show (Addr.add _ _).block ≠ _; rw [add_block]; exact Nat.ne_of_lt (Nat.lt_of_lt_of_le (by have := World.block_lt_of_cell? _ _ hw610_0; first | rwa [add_block] at this | exact this) GW607.out)) | (dsimp only; exact Nat.ne_of_lt (Nat.lt_of_lt_of_le (by have := World.block_lt_of_cell? _ _ hw610_0; first | rwa [add_block] at this | exact this) GW607.out))) _).trans (hHeld.1)))), ((cell_far (p := ⟨gb607, _, none⟩) (by first | exact Nat.ne_of_lt (Nat.lt_of_lt_of_le (by have := World.block_lt_of_cell? _ _ hw611_0; first | rwa [add_block] at this | exact this) GW607.out) | (rw [add_block]; exact Nat.ne_of_lt (Nat.lt_of_lt_of_le (by have := World.block_lt_of_cell? _ _ hw611_0; first | rwa [add_block] at this | exact this) GW607.out)) | (show (Addr.add _ _).block ≠ _; rw [add_block]; exact Nat.ne_of_lt (Nat.lt_of_lt_of_le (by have := World.block_lt_of_cell? _ _ hw611_0; first | rwa [add_block] at this | exact this) GW607.out)) | (dsimp only; exact Nat.ne_of_lt (Nat.lt_of_lt_of_le (by have := World.block_lt_of_cell? _ _ hw611_0; first | rwa [add_block] at this | exact this) GW607.out))) _).trans (((cell_far (p := ⟨gb607, _, none⟩) (by first | exact Nat.ne_of_lt (Nat.lt_of_lt_of_le (by have := World.block_lt_of_cell? _ _ hw611_0; first | rwa [add_block] at this | exact this) GW607.out) | (rw [add_block]; exact Nat.ne_of_lt (Nat.lt_of_lt_of_le (by have := World.block_lt_of_cell? _ _ hw611_0; first | rwa [add_block] at this | exact this) GW607.out)) | (show (Addr.add _ _).block ≠ _; rw [add_block]; exact Nat.ne_of_lt (Nat.lt_of_lt_of_le (by have := World.block_lt_of_cell? _ _ hw611_0; first | rwa [add_block] at this | exact this) GW607.out)) | (dsimp only; exact Nat.ne_of_lt (Nat.lt_of_lt_of_le (by have := World.block_lt_of_cell? _ _ hw611_0; first | rwa [add_block] at this | exact this) GW607.out))) _).trans (hHeld.2))))⟩ (fun hHeld => ?_)
                    clear hK K
                    refine pureP_ 10 (some 5) #[true, true, true, true, true, true, true, true, true, true, true] HT_ ?_
                    refine done_ (done_of HT_.out (by kernel_rfl)) ?_
                    try go_wp2
                    refine bodyPost_ret (results_ct rfl _ _ gb607 46 #[.string (rdOf ByteArray.empty l0 x6_1), .string (rdOf ByteArray.empty l1 x6_1)] (0, 0) _ rfl (blkF_ BK607.out) Try.underlying46 rfl (by kernel_rfl)) rfl ?_
                    exact ⟨rfl_, bel_⟩
                · rw [if_neg c9] at H
                  exact absurd H (by simp)
              · rw [if_neg c8] at H
                exact absurd H (by simp)
            · rw [if_neg c7] at H
              exact absurd H (by simp)
          · replace c6 := Bool.eq_false_iff.mpr c6
            subst c6
            rw [if_neg (show ¬ (false = true) by decide)] at H
            simp only [Option.some.injEq, Prod.mk.injEq] at H
            obtain ⟨rfl, rfl, rfl⟩ := H
            obtain ⟨hcz16_0, hcz16_1, hfz16_0, hfz16_1⟩ := cz2_ BK607.out
            go_wp2
            refine bodyPost_ret (results_ct rfl _ _ gb607 46 #[.string (⟨#[]⟩ : ByteArray), .string (⟨#[]⟩ : ByteArray)] (0, 0) _ rfl (blkF_ BK607.out) Try.underlying46 rfl (by kernel_rfl)) rfl ?_
            exact ⟨rfl_, bel_⟩

end
section
/-! ### impl_ClashFirst: function 95 -/
mutual
def impl_ClashFirst.l0 : Nat → List ByteArray → List ByteArray → Int → Option (ByteArray × ByteArray × Bool)
  | 0, _, _, _ => none
  | k + 1, x0, x1, x6 => if x6 < (x0.length : Int) then (impl_ClashFirst.j1 k x0 x1 x6 (decide (x6 < (x1.length : Int)))) else (impl_ClashFirst.j1 k x0 x1 x6 false)
def impl_ClashFirst.j1 : Nat → List ByteArray → List ByteArray → Int → Bool → Option (ByteArray × ByteArray × Bool)
  | 0, _, _, _, _ => none
  | k + 1, x0, x1, x6, x16 => if x16 = true then (if 0 ≤ x6 then (if x6 < (x0.length : Int) then (if x6 < (x1.length : Int) then (if (rdOf ByteArray.empty x0 x6).toList = (rdOf ByteArray.empty x1 x6).toList then (impl_ClashFirst.l0 k x0 x1 (wrap64 (x6 + 1))) else (some (rdOf ByteArray.empty x0 x6, rdOf ByteArray.empty x1 x6, true))) else (none)) else (none)) else (none)) else (some ((⟨#[]⟩ : ByteArray), (⟨#[]⟩ : ByteArray), false))
end
def impl_ClashFirst.f (k : Nat) (l0 : List ByteArray) (l1 : List ByteArray) : Option (ByteArray × ByteArray × Bool) := impl_ClashFirst.l0 k l0 l1 0
theorem impl_ClashFirst.mono_l : ∀ k, (∀ y0 y1 y2, LeO (impl_ClashFirst.l0 k y0 y1 y2) (impl_ClashFirst.l0 (k + 1) y0 y1 y2)) ∧ (∀ y0 y1 y2 y3, LeO (impl_ClashFirst.j1 k y0 y1 y2 y3) (impl_ClashFirst.j1 (k + 1) y0 y1 y2 y3))
  | 0 => ⟨fun _ _ _ r h => by simp [impl_ClashFirst.l0] at h, fun _ _ _ _ r h => by simp [impl_ClashFirst.j1] at h⟩
  | k + 1 => by
    obtain ⟨ih0, ih1⟩ := impl_ClashFirst.mono_l k
    refine ⟨?_, ?_⟩
    · intro y0 y1 y2
      unfold impl_ClashFirst.l0
      repeat' first | (with_reducible first | exact ih0 _ _ _ | exact ih1 _ _ _ _ | exact LeO.refl _ | exact LeO.none _ | refine LeO.ite ?_ ?_ | refine LeO.bind ?_ (fun _ => ?_)) | exact ih0 _ _ _ | exact ih1 _ _ _ _ | exact LeO.none _ | refine LeO.ite ?_ ?_ | refine LeO.bind ?_ (fun _ => ?_)
    · intro y0 y1 y2 y3
      unfold impl_ClashFirst.j1
      repeat' first | (with_reducible first | exact ih0 _ _ _ | exact ih1 _ _ _ _ | exact LeO.refl _ | exact LeO.none _ | refine LeO.ite ?_ ?_ | refine LeO.bind ?_ (fun _ => ?_)) | exact ih0 _ _ _ | exact ih1 _ _ _ _ | exact LeO.none _ | refine LeO.ite ?_ ?_ | refine LeO.bind ?_ (fun _ => ?_)
theorem impl_ClashFirst.mono : ∀ a0 a1 k, LeO (impl_ClashFirst.f k a0 a1) (impl_ClashFirst.f (k + 1) a0 a1) := by
  intro a0 a1 k
  obtain ⟨ih0, ih1⟩ := impl_ClashFirst.mono_l k
  unfold impl_ClashFirst.f
  repeat' first | (with_reducible first | exact ih0 _ _ _ | exact ih1 _ _ _ _ | exact LeO.refl _ | exact LeO.none _ | refine LeO.ite ?_ ?_ | refine LeO.bind ?_ (fun _ => ?_)) | exact ih0 _ _ _ | exact ih1 _ _ _ _ | exact LeO.none _ | refine LeO.ite ?_ ?_ | refine LeO.bind ?_ (fun _ => ?_)
def impl_ClashFirst.T4 : Bool × List (List Nat × List Nat) := (true, [([], []), ([], []), ([0, 1], [0, 1]), ([2], [2]), ([], []), ([], []), ([4, 5], [4, 5]), ([6], [6]), ([3, 7], [3, 7])])
def impl_ClashFirst.B4 : List Nat := [0, 0, 3, 7, 0, 0, 48, 112, 255]
theorem impl_ClashFirst.tab4 : rtab .any (opsOf Try.f95 4) = impl_ClashFirst.T4 := by kernel_rfl
theorem impl_ClashFirst.bits4 : waitsOk impl_ClashFirst.T4.2 impl_ClashFirst.B4 = true := by kernel_rfl
def impl_ClashFirst.T5 : Bool × List (List Nat × List Nat) := (true, [([], []), ([], []), ([0, 1], [0, 1]), ([2], [2]), ([], []), ([], []), ([4, 5], [4, 5]), ([6], [6]), ([3, 7], [3, 7]), ([8, 0, 1, 2, 3, 4, 5, 6, 7, 8], [8]), ([9, 0, 1, 2, 3, 4, 5, 6, 7, 8, 9], [])])
def impl_ClashFirst.B5 : List Nat := [0, 0, 3, 7, 0, 0, 48, 112, 255, 511, 1023]
theorem impl_ClashFirst.tab5 : rtab .any (opsOf Try.f95 5) = impl_ClashFirst.T5 := by kernel_rfl
theorem impl_ClashFirst.bits5 : waitsOk impl_ClashFirst.T5.2 impl_ClashFirst.B5 = true := by kernel_rfl
set_option maxHeartbeats 8000000 in
set_option maxRecDepth 100000 in
theorem impl_ClashFirst.calls (k : Nat) (A0 : Option Addr) (c0 : Nat) (l0 : List ByteArray) (A1 : Option Addr) (c1 : Nat) (l1 : List ByteArray) (r1 : ByteArray) (r2 : ByteArray) (r3 : Bool) (w : World) (hr0 : Kd.C Kd.string w A0 l0.length l0) (hc0 : l0.length ≤ c0) (hr1 : Kd.C Kd.string w A1 l1.length l1) (hc1 : l1.length ≤ c1) (h : impl_ClashFirst.f k l0 l1 = some (r1, r2, r3)) :
    Calls Try.prog 95 #[.slice A0 l0.length c0, .slice A1 l1.length c1] w fun e w' => e = .returned (.tuple #[.agg #[.string r1, .string r2], .bool r3]) ∧ Below w.heap.size w w' := by
  have hu46 := Try.underlying46
  have HR0 := Aside0.mk hr0
  have HC0 := Aside0.mk hc0
  clear hr0 hc0
  have HR1 := Aside0.mk hr1
  have HC1 := Aside0.mk hc1
  clear hr1 hc1
  have HB := Aside0.mk (Below.refl w.heap.size w)
  have H : (impl_ClashFirst.l0 k l0 l1 0) = some (r1, r2, r3) := h
  clear h
  have H' := Aside0.mk H
  clear H
  go_enter Try.func95, Try.ntmps95
  go_wp2_with (first | ((with_reducible refine gate_dst (N := 4) rfl ?_); (try (refine gate_guard (by rfl) ?_; dsimp only)); refine boxE_ (cs := #[.string (⟨#[]⟩ : ByteArray), .string (⟨#[]⟩ : ByteArray)]) (t := 46) ?_; intro gb801 hg w3 hbox hb; have BK801 := Aside0.mk (hbox); have GW801 := sizeB_ hg; have GE801 := sizeB_ hg; replace HB := stepB_ hb; clear hb hbox hg))
  go_loopg [6] k (fun kq v6 w' => ∃ (x6_1 : Int) (x802000_1 : ByteArray) (x802001_1 : ByteArray), v6 = .int .i64 x6_1 ∧ Aside0 (impl_ClashFirst.l0 kq l0 l1 x6_1 = some (r1, r2, r3)) ∧ Aside0 (kq ≤ k) ∧ Aside0 (w'.heap[gb801]? = some (.cells #[.string x802000_1, .string x802001_1] 46 (0, 0))) ∧ Aside0 (Below w.heap.size w w'))
  case atStart => exact ⟨(0), ((⟨#[]⟩ : ByteArray)), ((⟨#[]⟩ : ByteArray)), (by first | rfl | (simp; done) | (simp [*]; done)), H', ⟨Nat.le_refl _⟩, ⟨blkU_ BK801.out⟩, ⟨bel_⟩⟩
  case round =>
    clear H'
    (try clear c1)
    obtain ⟨x6_1, x802000_1, x802001_1, rfl, HA, HK1, BK801, HB⟩ := hrel
    cases gk with
    | zero => exact absurd HA.out (by simp [impl_ClashFirst.l0])
    | succ k1 =>
      have H := HA.out
      clear HA
      simp only [impl_ClashFirst.l0] at H
      have HC4 := Aside0.mk H
      clear H
      go_upto_region 2 with (fail)
      go_cut [16] (fun v16 wc => ∃ (kq : Nat) (x16_3 : Bool), v16 = .bool x16_3 ∧ Aside0 (impl_ClashFirst.j1 kq l0 l1 x6_1 x16_3 = some (r1, r2, r3)) ∧ Aside0 (kq ≤ k1) ∧ Aside0 (wc.heap[gb801]? = some (.cells #[.string x802000_1, .string x802001_1] 46 (0, 0))) ∧ Aside0 (Below w.heap.size w wc))
      case first =>
        have H := HC4.out
        clear HC4
        by_cases c5 : x6_1 < (l0.length : Int)
        · rw [if_pos c5] at H
          have c5b0 : decide (x6_1 < (l0.length : Int)) = true := decide_eq_true c5
          clear c5
          (first | rw [c5b0] | (simp only [i64_w, i32_w]; rw [c5b0]) | skip)
          have H' := Aside0.mk H
          clear H
          go_wp2
          go_meet
          case rel => exact ⟨_, (decide (x6_1 < (l1.length : Int))), (by first | rfl | (simp; done) | (simp [*]; done)), H', ⟨by have := HK1.out; first | omega | exact Nat.le_refl _⟩, ⟨blkU_ BK801.out⟩, ⟨bel_⟩⟩
        · rw [if_neg c5] at H
          have c5b0 : decide (x6_1 < (l0.length : Int)) = false := decide_eq_false c5
          clear c5
          (first | rw [c5b0] | (simp only [i64_w, i32_w]; rw [c5b0]) | skip)
          have H' := Aside0.mk H
          clear H
          go_wp2
          go_meet
          case rel => exact ⟨_, (false), (by first | rfl | (simp; done) | (simp [*]; done)), H', ⟨by have := HK1.out; first | omega | exact Nat.le_refl _⟩, ⟨blkU_ BK801.out⟩, ⟨bel_⟩⟩
      case rest =>
        clear HC4
        (try clear c1); (try clear c5); (try clear c5b0)
        obtain ⟨kq, x16_3, rfl, HA, HJ3, BK801, HB⟩ := hcut
        cases kq with
        | zero => exact absurd HA.out (by simp [impl_ClashFirst.j1])
        | succ kj3 =>
          have H := HA.out
          clear HA
          simp only [impl_ClashFirst.j1] at H
          by_cases c6 : x16_3 = true
          · subst c6
            rw [if_pos rfl] at H
            by_cases c7 : 0 ≤ x6_1
            · rw [if_pos c7] at H
              have c7b0 : decide (0 ≤ x6_1) = true := decide_eq_true c7
              clear c7
              by_cases c8 : x6_1 < (l0.length : Int)
              · rw [if_pos c8] at H
                have c8b0 : decide (x6_1 < (l0.length : Int)) = true := decide_eq_true c8
                clear c8
                by_cases c9 : x6_1 < (l1.length : Int)
                · rw [if_pos c9] at H
                  have c9b0 : decide (x6_1 < (l1.length : Int)) = true := decide_eq_true c9
                  clear c9
                  by_cases c10 : (rdOf ByteArray.empty l0 x6_1).toList = (rdOf ByteArray.empty l1 x6_1).toList
                  · rw [if_pos c10] at H
                    have c10b0 : ((rdOf ByteArray.empty l0 x6_1).toList == (rdOf ByteArray.empty l1 x6_1).toList) = true := beq_iff_eq.mpr c10
                    have c10b1 : ((rdOf ByteArray.empty l0 x6_1).toList != (rdOf ByteArray.empty l1 x6_1).toList) = false := bne_eq_false_iff_eq.mpr c10
                    clear c10
                    have H' := Aside0.mk H
                    clear H
                    try go_wp2
                    replace BK801 := Aside0.mk (blk_drew BK801.out)
                    replace HB := Aside0.mk (below_drew1 HB.out)
                    have p802 : 0 ≤ (x6_1 : Int) := ofd_
                    have q802 : x6_1 < (l0.length : Int) := ofd_
                    obtain ⟨ad802, e802, hx802_0⟩ := Kd.at_string HR0.out x6_1 p802 q802
                    have hw802_0 := hx802_0
                    cases e802
                    replace hx802_0 := pw_cell_below HB.out hx802_0
                    replace p802 := eq_true p802
                    replace q802 := eq_true q802
                    have p803 : 0 ≤ (x6_1 : Int) := ofd_
                    have q803 : x6_1 < (l1.length : Int) := ofd_
                    obtain ⟨ad803, e803, hx803_0⟩ := Kd.at_string HR1.out x6_1 p803 q803
                    have hw803_0 := hx803_0
                    cases e803
                    replace hx803_0 := pw_cell_below HB.out hx803_0
                    replace p803 := eq_true p803
                    replace q803 := eq_true q803
                    refine start_ (n := 9) (S := fun w' => w'.cell? (ad802.add (x6_1).toNat) = some (.string (rdOf ByteArray.empty l0 x6_1)) ∧ w'.cell? (ad803.add (x6_1).toNat) = some (.string (rdOf ByteArray.empty l1 x6_1))) (ds := []) #[false, false, false, false, false, false, false, false, false] (by kernel_rfl) rfl rfl ⟨(pw_cell_below HB.out hw802_0), (pw_cell_below HB.out hw803_0)⟩ (fun hHeld => ?_); refine with_tabW impl_ClashFirst.tab4 impl_ClashFirst.bits4 (fun HT_ HW_ => ?_)
                    generalize wc.drew = w11 at BK801 HB hx802_0 hx803_0 hHeld ⊢
                    refine pureP_ 0 (some 19) #[true, false, false, false, false, false, false, false, false] HT_ ?_
                    refine pureP_ 1 (some 20) #[true, true, false, false, false, false, false, false, false] HT_ ?_
                    refine pureP_ 2 (some 21) #[true, true, true, false, false, false, false, false, false] HT_ ?_
                    refine pureP_ 4 (some 23) #[true, true, true, false, true, false, false, false, false] HT_ ?_
                    refine pureP_ 5 (some 24) #[true, true, true, false, true, true, false, false, false] HT_ ?_
                    refine pureP_ 6 (some 25) #[true, true, true, false, true, true, true, false, false] HT_ ?_
                    refine takeP_ 3 (some 22) #[true, true, true, true, true, true, true, false, false] HT_ HW_ hHeld ?_
                    refine takeP_ 7 (some 26) #[true, true, true, true, true, true, true, true, false] HT_ HW_ hHeld ?_
                    refine pureP_ 8 (some 27) #[true, true, true, true, true, true, true, true, true] HT_ ?_
                    refine done_ (done_of HT_.out (by kernel_rfl)) ?_
                    try go_wp2
                    go_roundg kj3
                    case measure => have := HK1.out; have := HJ3.out; omega
                    case rel => exact ⟨(wrap64 (x6_1 + 1)), (x802000_1), (x802001_1), (by first | rfl | (simp; done) | (simp [*]; done)), H', ⟨by have := HK1.out; have := HJ3.out; omega⟩, ⟨blkU_ BK801.out⟩, ⟨bel_⟩⟩
                  · rw [if_neg c10] at H
                    have c10b0 : ((rdOf ByteArray.empty l0 x6_1).toList == (rdOf ByteArray.empty l1 x6_1).toList) = false := beq_eq_false_iff_ne.mpr c10
                    have c10b1 : ((rdOf ByteArray.empty l0 x6_1).toList != (rdOf ByteArray.empty l1 x6_1).toList) = true := bne_iff_ne.mpr c10
                    simp only [Option.some.injEq, Prod.mk.injEq] at H
                    obtain ⟨rfl, rfl, rfl⟩ := H
                    try go_wp2
                    replace BK801 := Aside0.mk (blk_drew BK801.out)
                    replace HB := Aside0.mk (below_drew1 HB.out)
                    have p802 : 0 ≤ (x6_1 : Int) := ofd_
                    have q802 : x6_1 < (l0.length : Int) := ofd_
                    obtain ⟨ad802, e802, hx802_0⟩ := Kd.at_string HR0.out x6_1 p802 q802
                    have hw802_0 := hx802_0
                    cases e802
                    replace hx802_0 := pw_cell_below HB.out hx802_0
                    replace p802 := eq_true p802
                    replace q802 := eq_true q802
                    have p803 : 0 ≤ (x6_1 : Int) := ofd_
                    have q803 : x6_1 < (l1.length : Int) := ofd_
                    obtain ⟨ad803, e803, hx803_0⟩ := Kd.at_string HR1.out x6_1 p803 q803
                    have hw803_0 := hx803_0
                    cases e803
                    replace hx803_0 := pw_cell_below HB.out hx803_0
                    replace p803 := eq_true p803
                    replace q803 := eq_true q803
                    refine start_ (n := 9) (S := fun w' => w'.cell? (ad802.add (x6_1).toNat) = some (.string (rdOf ByteArray.empty l0 x6_1)) ∧ w'.cell? (ad803.add (x6_1).toNat) = some (.string (rdOf ByteArray.empty l1 x6_1))) (ds := []) #[false, false, false, false, false, false, false, false, false] (by kernel_rfl) rfl rfl ⟨(pw_cell_below HB.out hw802_0), (pw_cell_below HB.out hw803_0)⟩ (fun hHeld => ?_); refine with_tabW impl_ClashFirst.tab4 impl_ClashFirst.bits4 (fun HT_ HW_ => ?_)
                    generalize wc.drew = w12 at BK801 HB hx802_0 hx803_0 hHeld ⊢
                    refine pureP_ 0 (some 19) #[true, false, false, false, false, false, false, false, false] HT_ ?_
                    refine pureP_ 1 (some 20) #[true, true, false, false, false, false, false, false, false] HT_ ?_
                    refine pureP_ 2 (some 21) #[true, true, true, false, false, false, false, false, false] HT_ ?_
                    refine pureP_ 4 (some 23) #[true, true, true, false, true, false, false, false, false] HT_ ?_
                    refine pureP_ 5 (some 24) #[true, true, true, false, true, true, false, false, false] HT_ ?_
                    refine pureP_ 6 (some 25) #[true, true, true, false, true, true, true, false, false] HT_ ?_
                    refine takeP_ 3 (some 22) #[true, true, true, true, true, true, true, false, false] HT_ HW_ hHeld ?_
                    refine takeP_ 7 (some 26) #[true, true, true, true, true, true, true, true, false] HT_ HW_ hHeld ?_
                    refine pureP_ 8 (some 27) #[true, true, true, true, true, true, true, true, true] HT_ ?_
                    refine done_ (done_of HT_.out (by kernel_rfl)) ?_
                    try go_wp2
                    replace BK801 := Aside0.mk (blk_drew BK801.out)
                    replace HB := Aside0.mk (below_drew1 HB.out)
                    have p804 : 0 ≤ (x6_1 : Int) := ofd_
                    have q804 : x6_1 < (l0.length : Int) := ofd_
                    obtain ⟨ad804, e804, hx804_0⟩ := Kd.at_string HR0.out x6_1 p804 q804
                    have hw804_0 := hx804_0
                    obtain rfl : ad802 = ad804 := (by injection e804)
                    replace hx804_0 := pw_cell_below HB.out hx804_0
                    replace p804 := eq_true p804
                    replace q804 := eq_true q804
                    have p805 : 0 ≤ (x6_1 : Int) := ofd_
                    have q805 : x6_1 < (l1.length : Int) := ofd_
                    obtain ⟨ad805, e805, hx805_0⟩ := Kd.at_string HR1.out x6_1 p805 q805
                    have hw805_0 := hx805_0
                    obtain rfl : ad803 = ad805 := (by injection e805)
                    replace hx805_0 := pw_cell_below HB.out hx805_0
                    replace p805 := eq_true p805
                    replace q805 := eq_true q805
                    refine start_ (n := 11) (S := fun w' => w'.cell? (ad802.add (x6_1).toNat) = some (.string (rdOf ByteArray.empty l0 x6_1)) ∧ w'.cell? (ad803.add (x6_1).toNat) = some (.string (rdOf ByteArray.empty l1 x6_1))) (ds := []) #[false, false, false, false, false, false, false, false, false, false, false] (by kernel_rfl) rfl rfl ⟨(pw_cell_below HB.out hw804_0), (pw_cell_below HB.out hw805_0)⟩ (fun hHeld => ?_); refine with_tabW impl_ClashFirst.tab5 impl_ClashFirst.bits5 (fun HT_ HW_ => ?_)
                    generalize w12.drew = w13 at BK801 HB hx804_0 hx805_0 hHeld ⊢
                    refine pureP_ 0 (some 28) #[true, false, false, false, false, false, false, false, false, false, false] HT_ ?_
                    refine pureP_ 1 (some 29) #[true, true, false, false, false, false, false, false, false, false, false] HT_ ?_
                    refine pureP_ 2 (some 30) #[true, true, true, false, false, false, false, false, false, false, false] HT_ ?_
                    refine pureP_ 4 (some 32) #[true, true, true, false, true, false, false, false, false, false, false] HT_ ?_
                    refine pureP_ 5 (some 33) #[true, true, true, false, true, true, false, false, false, false, false] HT_ ?_
                    refine pureP_ 6 (some 34) #[true, true, true, false, true, true, true, false, false, false, false] HT_ ?_
                    refine takeP_ 3 (some 31) #[true, true, true, true, true, true, true, false, false, false, false] HT_ HW_ hHeld ?_
                    refine takeP_ 7 (some 35) #[true, true, true, true, true, true, true, true, false, false, false] HT_ HW_ hHeld ?_
                    refine pureP_ 8 (some 36) #[true, true, true, true, true, true, true, true, true, false, false] HT_ ?_
                    refine oneP_ 9 none #[true, true, true, true, true, true, true, true, true, true, false] HT_ (fun K hK => ?_)
                    have hs14 : w13.cell? ⟨gb801, 0, none⟩ = some (.string x802000_1) := (blk_cell BK801.out 0).trans rfl
                    have hfs14 := blk_frozen BK801.out 0
                    have hs15 : w13.cell? ⟨gb801, 1, none⟩ = some (.string x802001_1) := (blk_cell BK801.out 1).trans rfl
                    have hfs15 := blk_frozen BK801.out 1
                    refine skip_ (w1 := ?_) (by rfl) rfl ?_ ?_
                    rotate_left
                    · go_simp
                      rfl
                    refine hK.out _ _ ⟨((cell_far (p := ⟨gb801, _, none⟩) (by first | exact Nat.ne_of_lt (Nat.lt_of_lt_of_le (by have := World.block_lt_of_cell? _ _ hw804_0; first | rwa [add_block] at this | exact this) GW801.out) | (rw [add_block]; exact Nat.ne_of_lt (Nat.lt_of_lt_of_le (by have := World.block_lt_of_cell? _ _ hw804_0; first | rwa [add_block] at this | exact this) GW801.out)) | (show (Addr.add _ _).block ≠ _; rw [add_block]; exact Nat.ne_of_lt (Nat.lt_of_lt_of_le (by have := World.block_lt_of_cell? _ _ hw804_0; first | rwa [add_block] at this | exact this) GW801.out)) | (dsimp only; exact Nat.ne_of_lt (Nat.lt_of_lt_of_le (by have := World.block_lt_of_cell? _ _ hw804_0; first | rwa [add_block] at this | exact this) GW801.out))) _).trans (((cell_far (p := ⟨gb801, _, none⟩) (by first | exact Nat.ne_of_lt (Nat.lt_of_lt_of_le (by have := World.block_lt_of_cell? _ _ hw804_0; first | rwa [add_block] at this | exact this) GW801.out) | (rw [add_block]; exact Nat.ne_of_lt (Nat.lt_of_lt_of_le (by have := World.block_lt_of_cell? _ _ hw804_0; first | rwa [add_block] at this | exact this) GW801.out)) | (show (Addr.add _ _).block ≠ _; rw [add_block]; exact Nat.ne_of_lt (Nat.lt_of_lt_of_le (by have := World.block_lt_of_cell? _ _ hw804_0; first | rwa [add_block] at this | exact this) GW801.out)) | (dsimp only; exact Nat.ne_of_lt (Nat.lt_of_lt_of_le (by have := World.block_lt_of_cell? _ _ hw804_0; first | rwa [add_block] at this | exact this) GW801.out))) _).trans (hHeld.1)))), ((cell_far (p := ⟨gb801, _, none⟩) (by first | exact Nat.ne_of_lt (Nat.lt_of_lt_of_le (by have := World.block_lt_of_cell? _ _ hw805_0; first | rwa [add_block] at this | exact this) GW801.out) | (rw [add_block]; exact Nat.ne_of_lt (Nat.lt_of_lt_of_le (by have := World.block_lt_of_cell? _ _ hw805_0; first | rwa [add_block] at this | exact this) GW801.out)) | (show (Addr.add _ _).block ≠ _; rw [add_block]; exact Nat.ne_of_lt (Nat.lt_of_lt_of_le (by have := World.block_lt_of_cell? _ _ hw805_0; first | rwa [add_block] at this | exact this) GW801.out)) | (dsimp only; exact Nat.ne_of_lt (Nat.lt_of_lt_of_le (by have := World.block_lt_of_cell? _ _ hw805_0; first | rwa [add_block] at this | exact this) GW801.out))) _).trans (((cell_far (p := ⟨gb801, _, none⟩) (by first | exact Nat.ne_of_lt (Nat.lt_of_lt_of_le (by have := World.block_lt_of_cell? _ _ hw805_0; first | rwa [add_block] at this | exact this) GW801.out) | (rw [add_block]; exact Nat.ne_of_lt (Nat.lt_of_lt_of_le (by have := World.block_lt_of_cell? _ _ hw805_0; first | rwa [add_block] at this | exact this) GW801.out)) | (show (Addr.add _ _).block ≠ _; rw [add_block]; exact Nat.ne_of_lt (Nat.lt_of_lt_of_le (by have := World.block_lt_of_cell? _ _ hw805_0; first | rwa [add_block] at this | exact this) GW801.out)) | (dsimp only; exact Nat.ne_of_lt (Nat.lt_of_lt_of_le (by have := World.block_lt_of_cell? _ _ hw805_0; first | rwa [add_block] at this | exact this) GW801.out))) _).trans (hHeld.2))))⟩ (fun hHeld => ?_)
                    clear hK K
                    refine pureP_ 10 (some 5) #[true, true, true, true, true, true, true, true, true, true, true] HT_ ?_
                    refine done_ (done_of HT_.out (by kernel_rfl)) ?_
                    try go_wp2
                    refine bodyPost_ret (results_ct rfl _ _ gb801 46 #[.string (rdOf ByteArray.empty l0 x6_1), .string (rdOf ByteArray.empty l1 x6_1)] (0, 0) _ rfl (blkF_ BK801.out) Try.underlying46 rfl (by kernel_rfl)) rfl ?_
                    exact ⟨rfl_, bel_⟩
                · rw [if_neg c9] at H
                  exact absurd H (by simp)
              · rw [if_neg c8] at H
                exact absurd H (by simp)
            · rw [if_neg c7] at H
              exact absurd H (by simp)
          · replace c6 := Bool.eq_false_iff.mpr c6
            subst c6
            rw [if_neg (show ¬ (false = true) by decide)] at H
            simp only [Option.some.injEq, Prod.mk.injEq] at H
            obtain ⟨rfl, rfl, rfl⟩ := H
            obtain ⟨hcz16_0, hcz16_1, hfz16_0, hfz16_1⟩ := cz2_ BK801.out
            go_wp2
            refine bodyPost_ret (results_ct rfl _ _ gb801 46 #[.string (⟨#[]⟩ : ByteArray), .string (⟨#[]⟩ : ByteArray)] (0, 0) _ rfl (blkF_ BK801.out) Try.underlying46 rfl (by kernel_rfl)) rfl ?_
            exact ⟨rfl_, bel_⟩

end
end Go.Proofs.Ytemfciflhbhobaa.B
