/- What the Go functions of these names do; condition: .f gives an answer. -/
import Derived.Test.YtflckegggopdnaaZCHP0
namespace Go.Proofs.Ytflckegggopdnaa.B
open Go.RowKit Go.Proofs.YtflckegggopdnaaW.PrintWords Go.Proofs.YtflckegggopdnaaW.PrintLast Go.Proofs.YtflckegggopdnaaW.PrintMore
attribute [local go_sem] max2_int min2_int max_two min_two max_three min_three max_four min_four
set_option linter.unusedVariables false
set_option maxHeartbeats 8000000
set_option maxRecDepth 100000
set_option linter.unusedSimpArgs false
section
def spec_l1Bare.l0 : Nat → ByteArray → List Int → Int → Option (ByteArray)
 | 0, _, _, _ => none
 | k + 1, x0, x3, x4 => if x4 < (x0.size : Int) then (if 0 ≤ x4 then (if (bt x0 x4) = 255 then (spec_l1Bare.l0 k x0 x3 (wrap64 (x4 + 1))) else (if x3.length < 140737488355328 then (spec_l1Bare.l0 k x0 (x3 ++ [bt x0 x4]) (wrap64 (x4 + 1))) else (none))) else (none)) else (some (strOfNums x3))
def spec_l1Bare.f (k : Nat) (a0 : ByteArray) : Option (ByteArray) := spec_l1Bare.l0 k a0 (([] : List Int)) 0
theorem spec_l1Bare.calls (k : Nat) (a0 r : ByteArray) (w : World) (h : spec_l1Bare.f k a0 = some r) :
  Calls Try.prog 114 #[.string a0] w fun e w' => e = .returned (.string r) ∧ Below w.heap.size w w' := by
 have HB := a_ (Below.refl w.heap.size w)
 have H := h
 unfold spec_l1Bare.f at H
 clear h
 obtain ⟨y114, hy114⟩ : ∃ y_ : List Int, y_ = (([] : List Int)) := ⟨_, rfl⟩
 replace H : (spec_l1Bare.l0 k a0 y114 0) = some r := rpl_ hy114 H
 have Ny114 := Aside0.mk hy114
 clear hy114
 have H' := Aside0.mk H
 clear H
 go_enter Try.func114, Try.ntmps114
 go_wp2_with (first | ((with_reducible refine gate_dst (N := 5) rfl ?_); refine Kd.R_lit (Kd.int .u8) _ 5 ?hg (N := 5) ?hd (xs := ([] : List Int)) (inner := []) (ok := fun _ => True) (okp := fun _ => True) ?hr ?hp (fun _ hk => hk) trivial (Below.refl _ _) (Nat.le_refl _) (by simp) ?_; (case hd => rfl); (case hg => rfl); (case hr => first | (go_simp; done) | (go_simp; rfl)); (case hp => exact (Reps.none _ _)); intro v115 w2 ho3 hb hg_ hnew_; clear hg_ hnew_; (first | rw [← Ny114.out] at ho3 | (simp only [Int.reduceToNat] at ho3; rw [← Ny114.out] at ho3)); have HO116 := a_ (Kd.R_lower ho3 (below_size bel_)); replace HB := stepB_ hb; clear hb ho3))
 go_loopg [3, 4] k (fun kq v3 v4 w' => ∃ (x3_1 : List Int) (x4_1 : Int), v4 = .int .i64 x4_1 ∧ Aside0 (spec_l1Bare.l0 kq a0 x3_1 x4_1 = some r) ∧ Aside0 (kq ≤ k) ∧ Aside0 (Kd.R (Kd.int .u8) 5 w' w.heap.size (fun _ => True) v3 x3_1) ∧ Aside0 (Below w.heap.size w w'))
 case atStart => exact ⟨(y114), (0), rl_, H', ⟨Nat.le_refl _⟩, ⟨kdU_ HO116.out⟩, ⟨bel_⟩⟩
 case round =>
  clear H'
  obtain ⟨x3_1, x4_1, rfl, HA, HK1, HO_3, HB⟩ := hrel
  cases gk with
  | zero => exact absurd HA.out (by simp [spec_l1Bare.l0])
  | succ k1 =>
   have H := HA.out
   clear HA
   simp only [spec_l1Bare.l0] at H
   by_cases c4 : x4_1 < (a0.size : Int)
   ·rw [if_pos c4] at H
    have c4b0 := decide_eq_true c4
    clear c4
    by_cases c5 : 0 ≤ x4_1
    ·rw [if_pos c5] at H
     have c5b0 := decide_eq_true c5
     clear c5
     by_cases c7 : (bt a0 x4_1) = 255
     ·rw [if_pos c7] at H
      have c7b0 := beq_iff_eq.mpr c7
      have c7b1 := bne_eq_false_iff_eq.mpr c7
      clear c7
      have H' := Aside0.mk H
      clear H
      have p6 : 0 ≤ (x4_1 : Int) := ofd_
      have q6 : x4_1 < (a0.size : Int) := ofd_
      have hx6 := bt_at a0 x4_1
      replace p6 := eq_true p6
      replace q6 := eq_true q6
      go_wp2
      go_roundg k1
      case measure => have := HK1.out; omega
      case rel => exact ⟨(x3_1), (wrap64 (x4_1 + 1)), rl_, H', ⟨by have := HK1.out; omega⟩, ⟨kdU_ HO_3.out⟩, ⟨bel_⟩⟩
     ·rw [if_neg c7] at H
      have c7b0 := beq_eq_false_iff_ne.mpr c7
      have c7b1 := bne_iff_ne.mpr c7
      by_cases c9 : x3_1.length < 140737488355328
      ·rw [if_pos c9] at H
       have LMc9 := Aside0.mk c9
       clear c9
       obtain ⟨y117, hy117⟩ : ∃ y_ : List Int, y_ = (x3_1 ++ [bt a0 x4_1]) := ⟨_, rfl⟩
       replace H : (spec_l1Bare.l0 k1 a0 y117 (wrap64 (x4_1 + 1))) = some r := rpl_ hy117 H
       have Ny117 := Aside0.mk hy117
       clear hy117
       have H' := Aside0.mk H
       clear H
       have p6 : 0 ≤ (x4_1 : Int) := ofd_
       have q6 : x4_1 < (a0.size : Int) := ofd_
       have hx6 := bt_at a0 x4_1
       replace p6 := eq_true p6
       replace q6 := eq_true q6
       have p8 : 0 ≤ (x4_1 : Int) := ofd_
       have q8 : x4_1 < (a0.size : Int) := ofd_
       have hx8 := bt_at a0 x4_1
       replace p8 := eq_true p8
       replace q8 := eq_true q8
       go_wp2_with (first | ((with_reducible refine gate_builtin (b := .append) (xs := #[.tmp 16, .tmp 20]) rfl ?_); at_builtin; refine Kd.R_append (Kd.int .u8) (w0 := w) w.heap.size rfl (.tmp 16) (.tmp 20) 60 5 (.int .u8 0) 1 rfl Try.underlying60 info5 rfl (by decide) (by omega) u3 x3_1 (bt a0 x4_1) [.int .u8 (bt a0 x4_1)] (fun _ => True) (fun _ => False) rfl rfl ?aP (fun _ hk => hk.elim) ?aF ?aO ?aB ?aS ?aL ?_; (case aP => exact rfl); (case aB => exact bel_); (case aF => exact (fun _ _ => trivial)); (case aO => exact (kdU_ HO_3.out)); (case aS => exact (below_size bel_)); (case aL => have := LMc9.out; omega); intro v118 w10 ho hb hg hat; rw [← Ny117.out] at ho; replace HB := a_ (hb); have HO119 := a_ (ho); clear HO_3; clear ho hb hg hat))
       go_roundg k1
       case measure => have := HK1.out; omega
       case rel => exact ⟨(y117), (wrap64 (x4_1 + 1)), rl_, H', ⟨by have := HK1.out; omega⟩, ⟨kdU_ HO119.out⟩, ⟨bel_⟩⟩
      ·rw [if_neg c9] at H
       exact absurd H (by simp)
    ·rw [if_neg c5] at H
     exact absurd H (by simp)
   ·rw [if_neg c4] at H
    have c4b0 := decide_eq_false c4
    clear c4
    obtain rfl := Option.some.inj H
    have hcv11 := own_string (P := Try.prog) Try.underlying60 Try.underlying5 Try.underlying9 (Kd.own_of_R HO_3.out)
    go_wp2
    go_ret
    exact ⟨rfl_, bel_⟩
end
section
def spec_l1Zeros.l0 : Nat → Int → List Int → Int → Option (ByteArray)
 | 0, _, _, _ => none
 | k + 1, x0, x3, x4 => if x4 < x0 then (if x3.length < 140737488355328 then (spec_l1Zeros.l0 k x0 (x3 ++ [0]) (wrap64 (x4 + 1))) else (none)) else (some (strOfNums x3))
def spec_l1Zeros.f (k : Nat) (a0 : Int) : Option (ByteArray) := spec_l1Zeros.l0 k a0 (([] : List Int)) 0
theorem spec_l1Zeros.calls (k : Nat) (a0 : Int) (r : ByteArray) (w : World) (h : spec_l1Zeros.f k a0 = some r) :
  Calls Try.prog 115 #[.int .i64 a0] w fun e w' => e = .returned (.string r) ∧ Below w.heap.size w w' := by
 have HB := a_ (Below.refl w.heap.size w)
 have H := h
 unfold spec_l1Zeros.f at H
 clear h
 obtain ⟨y120, hy120⟩ : ∃ y_ : List Int, y_ = (([] : List Int)) := ⟨_, rfl⟩
 replace H : (spec_l1Zeros.l0 k a0 y120 0) = some r := rpl_ hy120 H
 have Ny120 := Aside0.mk hy120
 clear hy120
 have H' := Aside0.mk H
 clear H
 go_enter Try.func115, Try.ntmps115
 go_wp2_with (first | ((with_reducible refine gate_dst (N := 5) rfl ?_); refine Kd.R_lit (Kd.int .u8) _ 5 ?hg (N := 5) ?hd (xs := ([] : List Int)) (inner := []) (ok := fun _ => True) (okp := fun _ => True) ?hr ?hp (fun _ hk => hk) trivial (Below.refl _ _) (Nat.le_refl _) (by simp) ?_; (case hd => rfl); (case hg => rfl); (case hr => first | (go_simp; done) | (go_simp; rfl)); (case hp => exact (Reps.none _ _)); intro v121 w2 ho3 hb hg_ hnew_; clear hg_ hnew_; (first | rw [← Ny120.out] at ho3 | (simp only [Int.reduceToNat] at ho3; rw [← Ny120.out] at ho3)); have HO122 := a_ (Kd.R_lower ho3 (below_size bel_)); replace HB := stepB_ hb; clear hb ho3))
 go_loopg [3, 4] k (fun kq v3 v4 w' => ∃ (x3_1 : List Int) (x4_1 : Int), v4 = .int .i64 x4_1 ∧ Aside0 (spec_l1Zeros.l0 kq a0 x3_1 x4_1 = some r) ∧ Aside0 (kq ≤ k) ∧ Aside0 (Kd.R (Kd.int .u8) 5 w' w.heap.size (fun _ => True) v3 x3_1) ∧ Aside0 (Below w.heap.size w w'))
 case atStart => exact ⟨(y120), (0), rl_, H', ⟨Nat.le_refl _⟩, ⟨kdU_ HO122.out⟩, ⟨bel_⟩⟩
 case round =>
  clear H'
  obtain ⟨x3_1, x4_1, rfl, HA, HK1, HO_3, HB⟩ := hrel
  cases gk with
  | zero => exact absurd HA.out (by simp [spec_l1Zeros.l0])
  | succ k1 =>
   have H := HA.out
   clear HA
   simp only [spec_l1Zeros.l0] at H
   by_cases c4 : x4_1 < a0
   ·rw [if_pos c4] at H
    have c4b0 := decide_eq_true c4
    clear c4
    by_cases c5 : x3_1.length < 140737488355328
    ·rw [if_pos c5] at H
     have LMc5 := Aside0.mk c5
     clear c5
     obtain ⟨y123, hy123⟩ : ∃ y_ : List Int, y_ = (x3_1 ++ [0]) := ⟨_, rfl⟩
     replace H : (spec_l1Zeros.l0 k1 a0 y123 (wrap64 (x4_1 + 1))) = some r := rpl_ hy123 H
     have Ny123 := Aside0.mk hy123
     clear hy123
     have H' := Aside0.mk H
     clear H
     go_wp2_with (first | ((with_reducible refine gate_builtin (b := .append) (xs := #[.tmp 11, .tmp 12]) rfl ?_); at_builtin; refine Kd.R_append (Kd.int .u8) (w0 := w) w.heap.size rfl (.tmp 11) (.tmp 12) 60 5 (.int .u8 0) 1 rfl Try.underlying60 info5 rfl (by decide) (by omega) u3 x3_1 0 [.int .u8 0] (fun _ => True) (fun _ => False) rfl rfl ?aP (fun _ hk => hk.elim) ?aF ?aO ?aB ?aS ?aL ?_; (case aP => exact rfl); (case aB => exact bel_); (case aF => exact (fun _ _ => trivial)); (case aO => exact (kdU_ HO_3.out)); (case aS => exact (below_size bel_)); (case aL => have := LMc5.out; omega); intro v124 w6 ho hb hg hat; rw [← Ny123.out] at ho; replace HB := a_ (hb); have HO125 := a_ (ho); clear HO_3; clear ho hb hg hat))
     go_roundg k1
     case measure => have := HK1.out; omega
     case rel => exact ⟨(y123), (wrap64 (x4_1 + 1)), rl_, H', ⟨by have := HK1.out; omega⟩, ⟨kdU_ HO125.out⟩, ⟨bel_⟩⟩
    ·rw [if_neg c5] at H
     exact absurd H (by simp)
   ·rw [if_neg c4] at H
    have c4b0 := decide_eq_false c4
    clear c4
    obtain rfl := Option.some.inj H
    have hcv7 := own_string (P := Try.prog) Try.underlying60 Try.underlying5 Try.underlying9 (Kd.own_of_R HO_3.out)
    go_wp2
    go_ret
    exact ⟨rfl_, bel_⟩
end
section
def spec_l1Bytes.l0 : Nat → Int → List Int → Int → Option (ByteArray)
 | 0, _, _, _ => none
 | k + 1, x0, x3, x4 => if x4 ≥ 0 then (if 0 ≤ (IntKind.u64.wrap (wrap64 (8 * x4))) then (if x3.length < 140737488355328 then (spec_l1Bytes.l0 k x0 (x3 ++ [(shr .u64 x0 (IntKind.u64.wrap (wrap64 (8 * x4)))) % 256]) (wrap64 (x4 - 1))) else (none)) else (none)) else (some (strOfNums x3))
def spec_l1Bytes.f (k : Nat) (a0 : Int) : Option (ByteArray) := spec_l1Bytes.l0 k a0 (([] : List Int)) 7
theorem spec_l1Bytes.calls (k : Nat) (a0 : Int) (r : ByteArray) (w : World) (h : spec_l1Bytes.f k a0 = some r) :
  Calls Try.prog 116 #[.int .u64 a0] w fun e w' => e = .returned (.string r) ∧ Below w.heap.size w w' := by
 have HB := a_ (Below.refl w.heap.size w)
 have H := h
 unfold spec_l1Bytes.f at H
 clear h
 obtain ⟨y126, hy126⟩ : ∃ y_ : List Int, y_ = (([] : List Int)) := ⟨_, rfl⟩
 replace H : (spec_l1Bytes.l0 k a0 y126 7) = some r := rpl_ hy126 H
 have Ny126 := Aside0.mk hy126
 clear hy126
 have H' := Aside0.mk H
 clear H
 go_enter Try.func116, Try.ntmps116
 go_wp2_with (first | ((with_reducible refine gate_dst (N := 5) rfl ?_); refine Kd.R_lit (Kd.int .u8) _ 5 ?hg (N := 5) ?hd (xs := ([] : List Int)) (inner := []) (ok := fun _ => True) (okp := fun _ => True) ?hr ?hp (fun _ hk => hk) trivial (Below.refl _ _) (Nat.le_refl _) (by simp) ?_; (case hd => rfl); (case hg => rfl); (case hr => first | (go_simp; done) | (go_simp; rfl)); (case hp => exact (Reps.none _ _)); intro v127 w2 ho3 hb hg_ hnew_; clear hg_ hnew_; (first | rw [← Ny126.out] at ho3 | (simp only [Int.reduceToNat] at ho3; rw [← Ny126.out] at ho3)); have HO128 := a_ (Kd.R_lower ho3 (below_size bel_)); replace HB := stepB_ hb; clear hb ho3))
 go_loopg [3, 4] k (fun kq v3 v4 w' => ∃ (x3_1 : List Int) (x4_1 : Int), v4 = .int .i64 x4_1 ∧ Aside0 (spec_l1Bytes.l0 kq a0 x3_1 x4_1 = some r) ∧ Aside0 (kq ≤ k) ∧ Aside0 (Kd.R (Kd.int .u8) 5 w' w.heap.size (fun _ => True) v3 x3_1) ∧ Aside0 (Below w.heap.size w w'))
 case atStart => exact ⟨(y126), (7), rl_, H', ⟨Nat.le_refl _⟩, ⟨kdU_ HO128.out⟩, ⟨bel_⟩⟩
 case round =>
  clear H'
  obtain ⟨x3_1, x4_1, rfl, HA, HK1, HO_3, HB⟩ := hrel
  cases gk with
  | zero => exact absurd HA.out (by simp [spec_l1Bytes.l0])
  | succ k1 =>
   have H := HA.out
   clear HA
   simp only [spec_l1Bytes.l0] at H
   by_cases c4 : x4_1 ≥ 0
   ·rw [if_pos c4] at H
    have c4b0 : decide (0 ≤ x4_1) = true := decide_eq_true c4
    clear c4
    obtain ⟨ji5, hji5⟩ : ∃ j_ : Int, (IntKind.u64.wrap (wrap64 (8 * x4_1))) = j_ := ⟨_, rfl⟩
    replace H : (if 0 ≤ (ji5) then (if x3_1.length < 140737488355328 then (spec_l1Bytes.l0 k1 a0 (x3_1 ++ [(shr .u64 a0 (ji5)) % 256]) (wrap64 (x4_1 - 1))) else (none)) else (none)) = some r := by first | (rw [hji5] at H; exact H) | (simp only [hji5] at H ⊢; exact H)
    by_cases c6 : 0 ≤ (ji5)
    ·rw [if_pos c6] at H
     have c6b0 := eq_true c6
     have c6b1 := decide_eq_true c6
     clear c6
     obtain ⟨ji7, hji7⟩ : ∃ j_ : Int, (shr .u64 a0 (ji5)) = j_ := ⟨_, rfl⟩
     replace H : (if x3_1.length < 140737488355328 then (spec_l1Bytes.l0 k1 a0 (x3_1 ++ [(ji7) % 256]) (wrap64 (x4_1 - 1))) else (none)) = some r := by first | (rw [hji7] at H; exact H) | (simp only [hji7] at H ⊢; exact H)
     have hji7_ : (a0 / 2 ^ min (ji5).toNat 64) = ji7 := hji7
     have hji7z : (ji5) ≤ 64 → (a0 / 2 ^ (ji5).toNat) = ji7 := shr_small hji7
     by_cases c8 : x3_1.length < 140737488355328
     ·rw [if_pos c8] at H
      have LMc8 := Aside0.mk c8
      clear c8
      obtain ⟨y129, hy129⟩ : ∃ y_ : List Int, y_ = (x3_1 ++ [(ji7) % 256]) := ⟨_, rfl⟩
      replace H : (spec_l1Bytes.l0 k1 a0 y129 (wrap64 (x4_1 - 1))) = some r := rpl_ hy129 H
      have Ny129 := Aside0.mk hy129
      clear hy129
      have H' := Aside0.mk H
      clear H
      go_wp2_with (first | ((with_reducible refine gate_builtin (b := .append) (xs := #[.tmp 10, .tmp 17]) rfl ?_); at_builtin; refine Kd.R_append (Kd.int .u8) (w0 := w) w.heap.size rfl (.tmp 10) (.tmp 17) 60 5 (.int .u8 0) 1 rfl Try.underlying60 info5 rfl (by decide) (by omega) u3 x3_1 ((ji7) % 256) [.int .u8 ((ji7) % 256)] (fun _ => True) (fun _ => False) rfl rfl ?aP (fun _ hk => hk.elim) ?aF ?aO ?aB ?aS ?aL ?_; (case aP => exact rfl); (case aB => exact bel_); (case aF => exact (fun _ _ => trivial)); (case aO => exact (kdU_ HO_3.out)); (case aS => exact (below_size bel_)); (case aL => have := LMc8.out; omega); intro v130 w9 ho hb hg hat; rw [← Ny129.out] at ho; replace HB := a_ (hb); have HO131 := a_ (ho); clear HO_3; clear ho hb hg hat))
      go_roundg k1
      case measure => have := HK1.out; omega
      case rel => exact ⟨(y129), (wrap64 (x4_1 - 1)), rl_, H', ⟨by have := HK1.out; omega⟩, ⟨kdU_ HO131.out⟩, ⟨bel_⟩⟩
     ·rw [if_neg c8] at H
      exact absurd H (by simp)
    ·rw [if_neg c6] at H
     exact absurd H (by simp)
   ·rw [if_neg c4] at H
    have c4b0 : decide (0 ≤ x4_1) = false := decide_eq_false c4
    clear c4
    obtain rfl := Option.some.inj H
    have hcv10 := own_string (P := Try.prog) Try.underlying60 Try.underlying5 Try.underlying9 (Kd.own_of_R HO_3.out)
    go_wp2
    go_ret
    exact ⟨rfl_, bel_⟩
end
section
def spec_l1Turn.f (a0 a1 : Int) : Option (Int) := if 0 ≤ (IntKind.u64.wrap (a1)) then (if 0 ≤ (IntKind.u64.wrap (wrap64 (64 - a1))) then (some (Go.bits .or .u64 (shl .u64 a0 (IntKind.u64.wrap (a1))) (shr .u64 a0 (IntKind.u64.wrap (wrap64 (64 - a1)))))) else (none)) else (none)
theorem spec_l1Turn.calls (a0 a1 r : Int) (w : World) (h : spec_l1Turn.f a0 a1 = some r) :
  Calls Try.prog 130 #[.int .u64 a0, .int .i64 a1] w fun e w' => e = .returned (.int .u64 r) ∧ Drawn0 w w' := by
 have H := h
 unfold spec_l1Turn.f at H
 clear h
 obtain ⟨ji3, hji3⟩ : ∃ j_ : Int, (IntKind.u64.wrap (a1)) = j_ := ⟨_, rfl⟩
 replace H : (if 0 ≤ (ji3) then (if 0 ≤ (IntKind.u64.wrap (wrap64 (64 - a1))) then (some (Go.bits .or .u64 (shl .u64 a0 (ji3)) (shr .u64 a0 (IntKind.u64.wrap (wrap64 (64 - a1)))))) else (none)) else (none)) = some r := by first | (rw [hji3] at H; exact H) | (simp only [hji3] at H ⊢; exact H)
 by_cases c4 : 0 ≤ (ji3)
 ·rw [if_pos c4] at H
  have c4b0 := eq_true c4
  have c4b1 := decide_eq_true c4
  clear c4
  obtain ⟨ji5, hji5⟩ : ∃ j_ : Int, (shl .u64 a0 (ji3)) = j_ := ⟨_, rfl⟩
  replace H : (if 0 ≤ (IntKind.u64.wrap (wrap64 (64 - a1))) then (some (Go.bits .or .u64 (ji5) (shr .u64 a0 (IntKind.u64.wrap (wrap64 (64 - a1)))))) else (none)) = some r := by first | (rw [hji5] at H; exact H) | (simp only [hji5] at H ⊢; exact H)
  have hji5_ : (IntKind.u64.wrap (a0 * 2 ^ min (ji3).toNat 64)) = ji5 := hji5
  have hji5z : (ji3) ≤ 64 → (IntKind.u64.wrap (a0 * 2 ^ (ji3).toNat)) = ji5 := shl_small hji5
  obtain ⟨ji6, hji6⟩ : ∃ j_ : Int, (IntKind.u64.wrap (wrap64 (64 - a1))) = j_ := ⟨_, rfl⟩
  replace H : (if 0 ≤ (ji6) then (some (Go.bits .or .u64 (ji5) (shr .u64 a0 (ji6)))) else (none)) = some r := by first | (rw [hji6] at H; exact H) | (simp only [hji6] at H ⊢; exact H)
  by_cases c7 : 0 ≤ (ji6)
  ·rw [if_pos c7] at H
   have c7b0 := eq_true c7
   have c7b1 := decide_eq_true c7
   clear c7
   obtain ⟨ji8, hji8⟩ : ∃ j_ : Int, (shr .u64 a0 (ji6)) = j_ := ⟨_, rfl⟩
   replace H : (some (Go.bits .or .u64 (ji5) (ji8))) = some r := by first | (rw [hji8] at H; exact H) | (simp only [hji8] at H ⊢; exact H)
   have hji8_ : (a0 / 2 ^ min (ji6).toNat 64) = ji8 := hji8
   have hji8z : (ji6) ≤ 64 → (a0 / 2 ^ (ji6).toNat) = ji8 := shr_small hji8
   obtain rfl := Option.some.inj H
   go_enter Try.func130, Try.ntmps130
   go_wp2
   go_ret
   exact ⟨by first | rfl | (simp; done) | (simp only [← hji3, ← hji5, ← hji6, ← hji8] <;> (first | rfl | simp)) | (simp [*]; done), by repeat (first | exact Drawn0.refl _ | apply Drawn0.step)⟩
  ·rw [if_neg c7] at H
   exact absurd H (by simp)
 ·rw [if_neg c4] at H
  exact absurd H (by simp)
end
section
def spec_HashBlock.l0 : Nat → Int → Int → Int → Int → Int → Int → Int → Int → Int → Int → Option (Int × Int × Int × Int)
 | 0, _, _, _, _, _, _, _, _, _, _ => none
 | k + 1, x5, x6, x7, x8, x9, x10, x133000, x133001, x133002, x133003 => if x10 < 10 then ((spec_l1Turn.f (Go.bits .xor .u64 x8 (IntKind.u64.wrap ((IntKind.u64.wrap (x5 + x6)) + (IntKind.u64.wrap (x9 + 12620524952350641003))))) 39).bind fun t135 => ((spec_l1Turn.f (Go.bits .xor .u64 x6 (IntKind.u64.wrap (x7 + t135))) 21).bind fun t136 => (spec_HashBlock.l0 k t136 (IntKind.u64.wrap (x7 + t135)) t135 (IntKind.u64.wrap ((IntKind.u64.wrap (x5 + x6)) + (IntKind.u64.wrap (x9 + 12620524952350641003)))) (IntKind.u64.wrap (x9 + 12620524952350641003)) (wrap64 (x10 + 1)) x133000 x133001 x133002 x133003))) else (some (Go.bits .xor .u64 x5 x133000, Go.bits .xor .u64 x6 x133001, Go.bits .xor .u64 x7 x133002, Go.bits .xor .u64 x8 x133003))
def spec_HashBlock.f (k : Nat) (a0_0 a0_1 : Int) (a0_2 a0_3 : Int) (a1_0 a1_1 : Int) (a1_2 a1_3 : Int) : Option (Int × Int × Int × Int) := spec_HashBlock.l0 k (Go.bits .xor .u64 a0_0 a1_0) (Go.bits .xor .u64 a0_1 a1_1) (Go.bits .xor .u64 a0_2 a1_2) (Go.bits .xor .u64 a0_3 a1_3) 0 0 a0_0 a0_1 a0_2 a0_3
theorem spec_HashBlock.calls (k : Nat) (a0_0 a0_1 : Int) (a0_2 a0_3 : Int) (a1_0 a1_1 : Int) (a1_2 a1_3 : Int) (r1 r2 : Int) (r3 r4 : Int) (w : World) (h : spec_HashBlock.f k a0_0 a0_1 a0_2 a0_3 a1_0 a1_1 a1_2 a1_3 = some (r1, r2, r3, r4)) :
  Calls Try.prog 117 #[.agg #[.int .u64 a0_0, .int .u64 a0_1, .int .u64 a0_2, .int .u64 a0_3], .agg #[.int .u64 a1_0, .int .u64 a1_1, .int .u64 a1_2, .int .u64 a1_3]] w fun e w' => e = .returned (.agg #[.int .u64 r1, .int .u64 r2, .int .u64 r3, .int .u64 r4]) ∧ Below w.heap.size w w' := by
 have hu29 := Try.underlying29
 have HB := a_ (Below.refl w.heap.size w)
 have H := h
 unfold spec_HashBlock.f at H
 clear h
 have H' := Aside0.mk H
 clear H
 go_enter Try.func117, Try.ntmps117
 go_wp2_with (first | ((with_reducible refine gate_dst (N := 2) rfl ?_); refine boxE_ (cs := #[.int .u64 a0_0, .int .u64 a0_1, .int .u64 a0_2, .int .u64 a0_3]) (t := 29) ?_; intro gb132 hg w3 hbox hb; have BK132 := a_ (hbox); have GW132 := sizeB_ hg; replace HB := stepB_ hb; clear hb hbox hg) | ((with_reducible refine gate_dst (N := 3) rfl ?_); refine boxE_ (cs := #[.int .u64 a1_0, .int .u64 a1_1, .int .u64 a1_2, .int .u64 a1_3]) (t := 29) ?_; intro gb133 hg w4 hbox hb; have BK133 := a_ (hbox); have GW133 := sizeB_ hg; replace HB := stepB_ hb; obtain ⟨NB132_133, NB133_132⟩ := ne2_ BK132.out hg; replace BK132 := bb_ BK132.out hb; clear hb hbox hg) | ((with_reducible refine gate_dst (N := 4) rfl ?_); refine boxE_ (cs := #[.int .u64 0, .int .u64 0, .int .u64 0, .int .u64 0]) (t := 29) ?_; intro gb134 hg w5 hbox hb; have BK134 := a_ (hbox); have GW134 := sizeB_ hg; replace HB := stepB_ hb; obtain ⟨NB132_134, NB134_132⟩ := ne2_ BK132.out hg; replace BK132 := bb_ BK132.out hb; obtain ⟨NB133_134, NB134_133⟩ := ne2_ BK133.out hg; replace BK133 := bb_ BK133.out hb; clear hb hbox hg; have hnb6 := NB132_133.out; have hnc6 := NB133_132.out; have hnb7 := NB132_134.out; have hnc7 := NB134_132.out; obtain ⟨z8_0, z8_1, z8_2, z8_3, f8_0, f8_1, f8_2, f8_3⟩ := cz4_ BK132.out; have hnb9 := NB133_134.out; have hnc9 := NB134_133.out; obtain ⟨z10_0, z10_1, z10_2, z10_3, f10_0, f10_1, f10_2, f10_3⟩ := cz4_ BK133.out))
 go_loopg [5, 6, 7, 8, 9, 10] k (fun kq v5 v6 v7 v8 v9 v10 w' => ∃ (x5_1 x6_1 : Int) (x7_1 x8_1 : Int) (x9_1 x10_1 : Int), v5 = .int .u64 x5_1 ∧ v6 = .int .u64 x6_1 ∧ v7 = .int .u64 x7_1 ∧ v8 = .int .u64 x8_1 ∧ v9 = .int .u64 x9_1 ∧ v10 = .int .i64 x10_1 ∧ Aside0 (spec_HashBlock.l0 kq x5_1 x6_1 x7_1 x8_1 x9_1 x10_1 a0_0 a0_1 a0_2 a0_3 = some (r1, r2, r3, r4)) ∧ Aside0 (kq ≤ k) ∧ Aside0 (w'.heap[gb132]? = some (.cells #[.int .u64 a0_0, .int .u64 a0_1, .int .u64 a0_2, .int .u64 a0_3] 29 (0, 0))) ∧ Aside0 (w'.heap[gb133]? = some (.cells #[.int .u64 a1_0, .int .u64 a1_1, .int .u64 a1_2, .int .u64 a1_3] 29 (0, 0))) ∧ Aside0 (w'.heap[gb134]? = some (.cells #[.int .u64 0, .int .u64 0, .int .u64 0, .int .u64 0] 29 (0, 0))) ∧ Aside0 (Below w.heap.size w w'))
 case atStart => exact ⟨(Go.bits .xor .u64 a0_0 a1_0), (Go.bits .xor .u64 a0_1 a1_1), (Go.bits .xor .u64 a0_2 a1_2), (Go.bits .xor .u64 a0_3 a1_3), (0), (0), rl_, rl_, rl_, rl_, rl_, rl_, H', ⟨Nat.le_refl _⟩, ⟨blkU_ BK132.out⟩, ⟨blkU_ BK133.out⟩, ⟨blkU_ BK134.out⟩, ⟨bel_⟩⟩
 case round =>
  clear H'
  (try clear z10_0 z10_1 z10_2 z10_3); (try clear z8_0 z8_1 z8_2 z8_3); (try clear f10_0 f10_1 f10_2 f10_3); (try clear f8_0 f8_1 f8_2 f8_3)
  obtain ⟨x5_1, x6_1, x7_1, x8_1, x9_1, x10_1, rfl, rfl, rfl, rfl, rfl, rfl, HA, HK1, BK132, BK133, BK134, HB⟩ := hrel
  cases gk with
  | zero => exact absurd HA.out (by simp [spec_HashBlock.l0])
  | succ k1 =>
   have H := HA.out
   clear HA
   simp only [spec_HashBlock.l0] at H
   by_cases c11 : x10_1 < 10
   ·rw [if_pos c11] at H
    have c11b0 := decide_eq_true c11
    clear c11
    obtain ⟨t135, A12, H⟩ := bnd_ H
    obtain ⟨t136, A13, H⟩ := bnd_ H
    have H' := Aside0.mk H
    clear H
    go_wp2_with (first | (refine gcL_ 130 (some 46) Try.func130 #[.int .u64 (Go.bits .xor .u64 x8_1 (IntKind.u64.wrap ((IntKind.u64.wrap (x5_1 + x6_1)) + (IntKind.u64.wrap (x9_1 + 12620524952350641003))))), .int .i64 39] ?_; (with_reducible refine (spec_l1Turn.calls (Go.bits .xor .u64 x8_1 (IntKind.u64.wrap ((IntKind.u64.wrap (x5_1 + x6_1)) + (IntKind.u64.wrap (x9_1 + 12620524952350641003))))) 39 t135 _ A12.out).mono ?_); rintro e w' ⟨rfl, ⟨nd, rfl⟩⟩; refine ⟨_, rfl, ?_⟩) | (refine gcL_ 130 (some 53) Try.func130 #[.int .u64 (Go.bits .xor .u64 x6_1 (IntKind.u64.wrap (x7_1 + t135))), .int .i64 21] ?_; (with_reducible refine (spec_l1Turn.calls (Go.bits .xor .u64 x6_1 (IntKind.u64.wrap (x7_1 + t135))) 21 t136 _ A13.out).mono ?_); rintro e w' ⟨rfl, ⟨nd, rfl⟩⟩; refine ⟨_, rfl, ?_⟩))
    go_roundg k1
    case measure => have := HK1.out; omega
    case rel => exact ⟨(t136), (IntKind.u64.wrap (x7_1 + t135)), (t135), (IntKind.u64.wrap ((IntKind.u64.wrap (x5_1 + x6_1)) + (IntKind.u64.wrap (x9_1 + 12620524952350641003)))), (IntKind.u64.wrap (x9_1 + 12620524952350641003)), (wrap64 (x10_1 + 1)), rl_, rl_, rl_, rl_, rl_, rl_, H', ⟨by have := HK1.out; omega⟩, ⟨blkU_ BK132.out⟩, ⟨blkU_ BK133.out⟩, ⟨blkU_ BK134.out⟩, ⟨bel_⟩⟩
   ·rw [if_neg c11] at H
    have c11b0 := decide_eq_false c11
    clear c11
    simp only [Option.some.injEq, Prod.mk.injEq] at H
    obtain ⟨rfl, rfl, rfl, rfl⟩ := H
    have hnb14 := NB132_133.out
    have hnc14 := NB133_132.out
    have hnb15 := NB132_134.out
    have hnc15 := NB134_132.out
    obtain ⟨z16_0, z16_1, z16_2, z16_3, f16_0, f16_1, f16_2, f16_3⟩ := cz4_ BK132.out
    have hnb17 := NB134_133.out
    have hnc17 := NB133_134.out
    obtain ⟨z18_0, z18_1, z18_2, z18_3, f18_0, f18_1, f18_2, f18_3⟩ := cz4_ BK134.out
    go_wp2
    refine bodyPost_ret (results_cell_row rfl _ _ gb134 29 #[.int .u64 (Go.bits .xor .u64 x5_1 a0_0), .int .u64 (Go.bits .xor .u64 x6_1 a0_1), .int .u64 (Go.bits .xor .u64 x7_1 a0_2), .int .u64 (Go.bits .xor .u64 x8_1 a0_3)] (0, 0) _ rfl (blkF_ BK134.out) Try.underlying29 rfl (by kernel_rfl)) rfl ?_
    exact ⟨rfl_, bel_⟩
end
section
def spec_l1Word.l0 : Nat → ByteArray → Int → Int → Int → Option (Int)
 | 0, _, _, _, _ => none
 | k + 1, x0, x1, x5, x6 => if x6 < (wrap64 (x1 + 8)) then (if 0 ≤ x6 then (if x6 < (x0.size : Int) then (spec_l1Word.l0 k x0 x1 (Go.bits .or .u64 (IntKind.u64.wrap (x5 * 256)) (IntKind.u64.wrap (bt x0 x6))) (wrap64 (x6 + 1))) else (none)) else (none)) else (some x5)
def spec_l1Word.f (k : Nat) (a0 : ByteArray) (a1 : Int) : Option (Int) := spec_l1Word.l0 k a0 a1 0 a1
theorem spec_l1Word.calls (k : Nat) (a0 : ByteArray) (a1 r : Int) (w : World) (h : spec_l1Word.f k a0 a1 = some r) :
  Calls Try.prog 118 #[.string a0, .int .i64 a1] w fun e w' => e = .returned (.int .u64 r) ∧ Drawn0 w w' := by
 have H := h
 unfold spec_l1Word.f at H
 clear h
 have H' := Aside0.mk H
 clear H
 go_enter Try.func118, Try.ntmps118
 go_wp2
 go_loopg [5, 6] k (fun kq v5 v6 w' => ∃ (x5_1 x6_1 : Int), v5 = .int .u64 x5_1 ∧ v6 = .int .i64 x6_1 ∧ Aside0 (spec_l1Word.l0 kq a0 a1 x5_1 x6_1 = some r) ∧ Aside0 (kq ≤ k) ∧ Drawn0 w w')
 case atStart => exact ⟨(0), (a1), rl_, rl_, H', ⟨Nat.le_refl _⟩, by repeat (first | exact Drawn0.refl _ | apply Drawn0.step)⟩
 case round =>
  clear H'
  obtain ⟨x5_1, x6_1, rfl, rfl, HA, HK1, ⟨m1, rfl⟩⟩ := hrel
  cases gk with
  | zero => exact absurd HA.out (by simp [spec_l1Word.l0])
  | succ k1 =>
   have H := HA.out
   clear HA
   simp only [spec_l1Word.l0] at H
   by_cases c3 : x6_1 < (wrap64 (a1 + 8))
   ·rw [if_pos c3] at H
    have c3b0 := decide_eq_true c3
    clear c3
    by_cases c4 : 0 ≤ x6_1
    ·rw [if_pos c4] at H
     have c4b0 := decide_eq_true c4
     clear c4
     by_cases c5 : x6_1 < (a0.size : Int)
     ·rw [if_pos c5] at H
      have c5b0 := decide_eq_true c5
      clear c5
      have H' := Aside0.mk H
      clear H
      have p6 : 0 ≤ (x6_1 : Int) := ofd_
      have q6 : x6_1 < (a0.size : Int) := ofd_
      have hx6 := bt_at a0 x6_1
      replace p6 := eq_true p6
      replace q6 := eq_true q6
      go_wp2
      go_roundg k1
      case measure => have := HK1.out; omega
      case rel => exact ⟨(Go.bits .or .u64 (IntKind.u64.wrap (x5_1 * 256)) (IntKind.u64.wrap (bt a0 x6_1))), (wrap64 (x6_1 + 1)), rl_, rl_, H', ⟨by have := HK1.out; omega⟩, by repeat (first | exact Drawn0.refl _ | apply Drawn0.step)⟩
     ·rw [if_neg c5] at H
      exact absurd H (by simp)
    ·rw [if_neg c4] at H
     exact absurd H (by simp)
   ·rw [if_neg c3] at H
    have c3b0 := decide_eq_false c3
    clear c3
    obtain rfl := Option.some.inj H
    go_wp2
    go_ret
    exact ⟨rl_, dr_⟩
end
section
def spec_HashOf.l0 : Nat → ByteArray → Int → Int → Int → Int → Int → Option (Int × Int × Int × Int)
 | 0, _, _, _, _, _, _ => none
 | k + 1, x4, x6, x145000, x145001, x145002, x145003 => if x6 < (x4.size : Int) then ((spec_l1Word.f k x4 x6).bind fun t145 => ((spec_l1Word.f k x4 (wrap64 (x6 + 8))).bind fun t146 => ((spec_l1Word.f k x4 (wrap64 (x6 + 16))).bind fun t147 => ((spec_l1Word.f k x4 (wrap64 (x6 + 24))).bind fun t148 => ((spec_HashBlock.f k x145000 x145001 x145002 x145003 t145 t146 t147 t148).bind fun bt149 => (spec_HashOf.l0 k x4 (wrap64 (x6 + 32)) bt149.1 bt149.2.1 bt149.2.2.1 bt149.2.2.2)))))) else (some (x145000, x145001, x145002, x145003))
def spec_HashOf.f (k : Nat) (a0 : ByteArray) : Option (Int × Int × Int × Int) := if (a0.size : Int) > 20000 then (some (0, 0, 0, 0)) else ((spec_l1Bare.f k a0).bind fun t138 => ((some (([128] : List Int) : List Int)).bind fun y139 => (if t138.size + (strOfNums y139).size ≤ 9223372036854775807 then ((spec_l1Zeros.f k (Int.tmod (wrap64 (32 - (Int.tmod (wrap64 ((t138.size : Int) + 9)) 32))) 32)).bind fun t142 => (if (t138 ++ (strOfNums y139)).size + t142.size ≤ 9223372036854775807 then ((spec_l1Bytes.f k (IntKind.u64.wrap ((t138.size : Int)))).bind fun t143 => (if ((t138 ++ (strOfNums y139)) ++ t142).size + t143.size ≤ 9223372036854775807 then (spec_HashOf.l0 k (((t138 ++ (strOfNums y139)) ++ t142) ++ t143) 0 13971524466476933880 3286059910148148165 8210247237615983910 11412903256176698835) else (none))) else (none))) else (none))))
def spec_HashOf.T5 : Bool × List (List Nat × List Nat) := (true, [([], []), ([], []), ([1], [1]), ([0, 2], [0, 2]), ([], []), ([4], [4]), ([3, 5], [3, 5]), ([], []), ([7], [7]), ([8], [8]), ([9, 5], [9]), ([6, 10], [6, 10]), ([11, 10, 0, 1, 2, 3, 4, 5, 6, 7, 8, 9, 10, 11], [11])])
def spec_HashOf.B5 : List Nat := [0, 0, 2, 7, 0, 16, 63, 0, 128, 384, 944, 2047, 4095]
theorem spec_HashOf.tab5 : rtab .any (opsOf Try.f72 5) = spec_HashOf.T5 := by kernel_rfl
theorem spec_HashOf.bits5 : waitsOk spec_HashOf.T5.2 spec_HashOf.B5 = true := by kernel_rfl
def spec_HashOf.T10 : Bool × List (List Nat × List Nat) := (true, [([], []), ([], []), ([], []), ([1, 2], [1, 2]), ([], []), ([], []), ([5], [5]), ([4, 6, 3], [4, 6]), ([], []), ([], []), ([9], [9]), ([8, 10, 7], [8, 10]), ([], []), ([], []), ([13], [13]), ([12, 14, 11], [12, 14]), ([3, 7, 11, 15], [3, 7, 11, 15]), ([0, 16, 15], [0, 16]), ([17, 17, 0, 1, 2, 3, 4, 5, 6, 7, 8, 9, 10, 11, 12, 13, 14, 15, 16, 17], [17])])
def spec_HashOf.B10 : List Nat := [0, 0, 0, 6, 0, 0, 32, 126, 0, 0, 512, 2046, 0, 0, 8192, 32766, 65534, 131071, 262143]
theorem spec_HashOf.tab10 : rtab .any (opsOf Try.f72 10) = spec_HashOf.T10 := by kernel_rfl
theorem spec_HashOf.bits10 : waitsOk spec_HashOf.T10.2 spec_HashOf.B10 = true := by kernel_rfl
theorem spec_HashOf.calls (k : Nat) (a0 : ByteArray) (r1 r2 : Int) (r3 r4 : Int) (w : World) (h : spec_HashOf.f k a0 = some (r1, r2, r3, r4)) :
  Calls Try.prog 72 #[.string a0] w fun e w' => e = .returned (.agg #[.int .u64 r1, .int .u64 r2, .int .u64 r3, .int .u64 r4]) ∧ Below w.heap.size w w' := by
 have hu29 := Try.underlying29
 have HB := a_ (Below.refl w.heap.size w)
 have H := h
 unfold spec_HashOf.f at H
 clear h
 by_cases c2 : (a0.size : Int) > 20000
 ·rw [if_pos c2] at H
  have c2b0 : decide (20000 < (a0.size : Int)) = true := decide_eq_true c2
  have c2b1 : decide (20000 < a0.size) = true := decide_eq_true (by omega)
  clear c2
  simp only [Option.some.injEq, Prod.mk.injEq] at H
  obtain ⟨rfl, rfl, rfl, rfl⟩ := H
  go_enter Try.func72, Try.ntmps72
  go_wp2_with (first | ((with_reducible refine gate_dst (N := 2) rfl ?_); refine boxE_ (cs := #[.int .u64 0, .int .u64 0, .int .u64 0, .int .u64 0]) (t := 29) ?_; intro gb137 hg w3 hbox hb; have BK137 := a_ (hbox); have GW137 := sizeB_ hg; replace HB := stepB_ hb; clear hb hbox hg; obtain ⟨z4_0, z4_1, z4_2, z4_3, f4_0, f4_1, f4_2, f4_3⟩ := cz4_ BK137.out))
  refine bodyPost_ret (results_cell_row rfl _ _ gb137 29 #[.int .u64 0, .int .u64 0, .int .u64 0, .int .u64 0] (0, 0) _ rfl (blkF_ BK137.out) Try.underlying29 rfl (by kernel_rfl)) rfl ?_
  exact ⟨rfl_, bel_⟩
 ·rw [if_neg c2] at H
  have c2b0 : decide (20000 < (a0.size : Int)) = false := decide_eq_false c2
  have c2b1 : decide (20000 < a0.size) = false := decide_eq_false (by omega)
  clear c2
  obtain ⟨t138, A5, H⟩ := bnd_ H
  obtain ⟨y139, hy139⟩ : ∃ y_ : List Int, y_ = (([128] : List Int)) := ⟨_, rfl⟩
  replace H : (if t138.size + (strOfNums y139).size ≤ 9223372036854775807 then ((spec_l1Zeros.f k (Int.tmod (wrap64 (32 - (Int.tmod (wrap64 ((t138.size : Int) + 9)) 32))) 32)).bind fun t142 => (if (t138 ++ (strOfNums y139)).size + t142.size ≤ 9223372036854775807 then ((spec_l1Bytes.f k (IntKind.u64.wrap ((t138.size : Int)))).bind fun t143 => (if ((t138 ++ (strOfNums y139)) ++ t142).size + t143.size ≤ 9223372036854775807 then (spec_HashOf.l0 k (((t138 ++ (strOfNums y139)) ++ t142) ++ t143) 0 13971524466476933880 3286059910148148165 8210247237615983910 11412903256176698835) else (none))) else (none))) else (none)) = some (r1, r2, r3, r4) := rpl_ hy139 H
  have Ny139 := Aside0.mk hy139
  clear hy139
  by_cases c6 : t138.size + (strOfNums y139).size ≤ 9223372036854775807
  ·rw [if_pos c6] at H
   have c6b0 := eq_true c6
   have c6b1 := decide_eq_true c6
   try have c6b2 : (9223372036854775807 < t138.size + (strOfNums y139).size) = False := eq_false (Nat.not_lt.2 c6)
   obtain ⟨t142, A7, H⟩ := bnd_ H
   by_cases c8 : (t138 ++ (strOfNums y139)).size + t142.size ≤ 9223372036854775807
   ·rw [if_pos c8] at H
    have c8b0 := eq_true c8
    have c8b1 := decide_eq_true c8
    try (have c8b1n := c8b1; simp only [ByteArray.size_append, Int.natCast_add] at c8b1n)
    try have c8b2 : (9223372036854775807 < (t138 ++ (strOfNums y139)).size + t142.size) = False := eq_false (Nat.not_lt.2 c8)
    obtain ⟨t143, A9, H⟩ := bnd_ H
    by_cases c10 : ((t138 ++ (strOfNums y139)) ++ t142).size + t143.size ≤ 9223372036854775807
    ·rw [if_pos c10] at H
     have c10b0 := eq_true c10
     have c10b1 := decide_eq_true c10
     try (have c10b1n := c10b1; simp only [ByteArray.size_append, Int.natCast_add] at c10b1n)
     try have c10b2 : (9223372036854775807 < ((t138 ++ (strOfNums y139)) ++ t142).size + t143.size) = False := eq_false (Nat.not_lt.2 c10)
     have H' := Aside0.mk H
     clear H
     go_enter Try.func72, Try.ntmps72
     try go_wp2_with (first | ((with_reducible refine gate_dst (N := 2) rfl ?_); refine boxE_ (cs := #[.int .u64 0, .int .u64 0, .int .u64 0, .int .u64 0]) (t := 29) ?_; intro gb137 hg w11 hbox hb; have BK137 := a_ (hbox); have GW137 := sizeB_ hg; replace HB := stepB_ hb; clear hb hbox hg) | (refine gcL_ 114 (some 12) Try.func114 #[.string a0] ?_; (with_reducible refine (spec_l1Bare.calls k a0 t138 _ A5.out).mono ?_); rintro e w12 ⟨rfl, hb⟩; refine ⟨_, rfl, ?_⟩; replace BK137 := bb_ BK137.out hb; replace HB := stepB_ hb; (try clear hb)))
     replace BK137 := a_ (blk_drew BK137.out)
     replace HB := a_ (below_drew1 HB.out)
     refine start_ (n := 13) (S := fun w' => True) (ds := []) #[false, false, false, false, false, false, false, false, false, false, false, false, false] (by kernel_rfl) rfl rfl trivial (fun hHeld => ?_); refine with_tabW spec_HashOf.tab5 spec_HashOf.bits5 (fun HT HW_ => ?_)
     generalize w12.drew = w13 at BK137 HB hHeld ⊢
     refine pureZ_ 0 (some 19) (b_ 13 1) HT ?_
     refine pureZ_ 4 (some 23) (b_ 13 17) HT ?_
     refine pureZ_ 7 (some 26) (b_ 13 145) HT ?_
     refine pureZ_ 8 (some 27) (b_ 13 401) HT ?_
     refine pureZ_ 9 (some 28) (b_ 13 913) HT ?_
     refine join_ (σ := Value) 2 (b_ 13 2047) (fun s_ => [(20, s_), (21, .string (strOfNums y139)), (24, .string t142), (29, .string t143), (22, .string (t138 ++ (strOfNums y139))), (25, .string ((t138 ++ (strOfNums y139)) ++ t142))]) (fun s_ w' => (Kd.R (Kd.int .u8) 5 w' w.heap.size (fun _ => True) s_ y139) ∧ (w'.heap[gb137]? = some (.cells #[.int .u64 0, .int .u64 0, .int .u64 0, .int .u64 0] 29 (0, 0))) ∧ (Below w.heap.size w w')) ?_ ?_
     rotate_left
     ·intro hJ1_2_5_10
      refine join_ (σ := Value) 3 (b_ 13 1023) (fun s_ => [(20, s_), (21, .string (strOfNums y139)), (24, .string t142), (22, .string (t138 ++ (strOfNums y139))), (25, .string ((t138 ++ (strOfNums y139)) ++ t142))]) (fun s_ w' => (Kd.R (Kd.int .u8) 5 w' w.heap.size (fun _ => True) s_ y139) ∧ (w'.heap[gb137]? = some (.cells #[.int .u64 0, .int .u64 0, .int .u64 0, .int .u64 0] 29 (0, 0))) ∧ (Below w.heap.size w w')) ?_ ?_
      rotate_left
      ·intro hJ1_2_5
       refine join_ (σ := Value) 5 (b_ 13 1971) (fun s_ => [(20, s_), (24, .string t142), (29, .string t143)]) (fun s_ w' => (Kd.R (Kd.int .u8) 5 w' w.heap.size (fun _ => True) s_ y139) ∧ (w'.heap[gb137]? = some (.cells #[.int .u64 0, .int .u64 0, .int .u64 0, .int .u64 0] 29 (0, 0))) ∧ (Below w.heap.size w w')) ?_ ?_
       rotate_left
       ·intro hJ1_5_10
        refine join_ (σ := Value) 5 (b_ 13 927) (fun s_ => [(20, s_), (21, .string (strOfNums y139)), (22, .string (t138 ++ (strOfNums y139)))]) (fun s_ w' => (Kd.R (Kd.int .u8) 5 w' w.heap.size (fun _ => True) s_ y139) ∧ (w'.heap[gb137]? = some (.cells #[.int .u64 0, .int .u64 0, .int .u64 0, .int .u64 0] 29 (0, 0))) ∧ (Below w.heap.size w w')) ?_ ?_
        rotate_left
        ·intro hJ1_2
         refine join_ (σ := Value) 6 (b_ 13 947) (fun s_ => [(20, s_), (24, .string t142)]) (fun s_ w' => (Kd.R (Kd.int .u8) 5 w' w.heap.size (fun _ => True) s_ y139) ∧ (w'.heap[gb137]? = some (.cells #[.int .u64 0, .int .u64 0, .int .u64 0, .int .u64 0] 29 (0, 0))) ∧ (Below w.heap.size w w')) ?_ ?_
         rotate_left
         ·intro hJ1_5
          refine join_ (σ := Unit) 6 (b_ 13 1969) (fun s_ => [(24, .string t142), (29, .string t143)]) (fun s_ w' => (w'.heap[gb137]? = some (.cells #[.int .u64 0, .int .u64 0, .int .u64 0, .int .u64 0] 29 (0, 0))) ∧ (Below w.heap.size w w')) ?_ ?_
          rotate_left
          ·intro hJ5_10
           refine join_ (σ := Value) 7 (b_ 13 915) (fun s_ => [(20, s_)]) (fun s_ w' => (Kd.R (Kd.int .u8) 5 w' w.heap.size (fun _ => True) s_ y139) ∧ (w'.heap[gb137]? = some (.cells #[.int .u64 0, .int .u64 0, .int .u64 0, .int .u64 0] 29 (0, 0))) ∧ (Below w.heap.size w w')) ?_ ?_
           rotate_left
           ·intro hJ1
            refine join_ (σ := Unit) 7 (b_ 13 945) (fun s_ => [(24, .string t142)]) (fun s_ w' => (w'.heap[gb137]? = some (.cells #[.int .u64 0, .int .u64 0, .int .u64 0, .int .u64 0] 29 (0, 0))) ∧ (Below w.heap.size w w')) ?_ ?_
            rotate_left
            ·intro hJ5
             refine two_ (i := 1) (j := 5) (Ni := some 20) (Nj := some 24) (b_ 13 915) (b_ 13 945) rfl rfl rfl rfl (two_of HT.out (by kernel_rfl)) (by decide) (by decide) (fun K hK => ?_) (fun K hK => ?_)
             ·skip
              refine Kd.R_lit_step (Kd.int .u8) _ 5 ?hg (N := 20) ?hd (xs := ([128] : List Int)) (inner := [.int .u8 128]) (ok := fun _ => True) (okp := fun _ => True) ?hr ?hp (fun _ hk => hk) trivial (Below.refl _ _) (Nat.le_refl _) (by simp) ?_; (case hd => rfl); (case hg => rfl); (case hr => first | (go_simp; done) | (go_simp; rfl)); (case hp => exact (Reps.one (show Kd.M (Kd.int .u8) _ _ _ 128 [.int .u8 128] from rfl) (Reps.none _ _)))
              intro v140 w14 ho15 hb hg_ hnew_
              clear hg_ hnew_
              (first | rw [← Ny139.out] at ho15 | (simp only [Int.reduceToNat] at ho15; rw [← Ny139.out] at ho15))
              have HO141 := a_ (Kd.R_lower ho15 (below_size bel_))
              replace BK137 := bb_ BK137.out hb
              replace HB := stepB_ hb
              clear hb ho15
              refine hK.out _ _ trivial (fun hHeld => ?_)
              clear hK K
              refine normP_ (some 20) ?_
              exact jn_ (hJ1 (v140) _ ⟨(kdU_ HO141.out), (blkU_ BK137.out), bel_⟩)
             ·skip
              refine goN_ Try.func115 #[.int .i64 (Int.tmod (wrap64 (32 - (Int.tmod (wrap64 ((t138.size : Int) + 9)) 32))) 32)] ?_
              with_reducible refine (spec_l1Zeros.calls k (Int.tmod (wrap64 (32 - (Int.tmod (wrap64 ((t138.size : Int) + 9)) 32))) 32) t142 _ A7.out).mono ?_
              rintro e w14 ⟨rfl, hb⟩
              refine ⟨_, rfl, ?_⟩
              replace BK137 := bb_ BK137.out hb
              replace HB := stepB_ hb
              (try clear hb); (try clear hk)
              refine hK.out _ _ trivial (fun hHeld => ?_)
              clear hK K
              refine normP_ (some 24) ?_
              exact jn_ (hJ5 () _ ⟨(blkU_ BK137.out), bel_⟩)
            ·skip
             rintro _ w15 ⟨h0_, h1_⟩
             have n0_ : Aside0 (w15.heap[gb137]? = some (.cells #[.int .u64 0, .int .u64 0, .int .u64 0, .int .u64 0] 29 (0, 0))) := ⟨h0_⟩
             have n1_ : Aside0 (Below w.heap.size w w15) := ⟨h1_⟩
             clear BK137
             clear HB
             clear h0_ h1_
             have BK137 := n0_
             have HB := n1_
             clear n0_ n1_
             have hHeld := trivial
             refine norm_ (a' := ?_) ?_ ?_
             rotate_left
             ·simp only [putAll, Act.put, List.setIfInBounds_toArray, List.set_cons_zero, List.set_cons_succ]
              rfl
             refine two_ (i := 1) (j := 10) (Ni := some 20) (Nj := some 29) (b_ 13 947) (b_ 13 1969) rfl rfl rfl rfl (two_of HT.out (by kernel_rfl)) (by decide) (by decide) (fun K hK => ?_) (fun K hK => ?_)
             ·skip
              refine Kd.R_lit_step (Kd.int .u8) _ 5 ?hg (N := 20) ?hd (xs := ([128] : List Int)) (inner := [.int .u8 128]) (ok := fun _ => True) (okp := fun _ => True) ?hr ?hp (fun _ hk => hk) trivial (Below.refl _ _) (Nat.le_refl _) (by simp) ?_; (case hd => rfl); (case hg => rfl); (case hr => first | (go_simp; done) | (go_simp; rfl)); (case hp => exact (Reps.one (show Kd.M (Kd.int .u8) _ _ _ 128 [.int .u8 128] from rfl) (Reps.none _ _)))
              intro v140 w16 ho17 hb hg_ hnew_
              clear hg_ hnew_
              (first | rw [← Ny139.out] at ho17 | (simp only [Int.reduceToNat] at ho17; rw [← Ny139.out] at ho17))
              have HO141 := a_ (Kd.R_lower ho17 (below_size bel_))
              replace BK137 := bb_ BK137.out hb
              replace HB := stepB_ hb
              clear hb ho17
              refine hK.out _ _ trivial (fun hHeld => ?_)
              clear hK K
              refine normP_ (some 20) ?_
              exact jn_ (hJ1_5 (v140) _ ⟨(kdU_ HO141.out), (blkU_ BK137.out), bel_⟩)
             ·skip
              refine goN_ Try.func116 #[.int .u64 (IntKind.u64.wrap ((t138.size : Int)))] ?_
              with_reducible refine (spec_l1Bytes.calls k (IntKind.u64.wrap ((t138.size : Int))) t143 _ A9.out).mono ?_
              rintro e w16 ⟨rfl, hb⟩
              refine ⟨_, rfl, ?_⟩
              replace BK137 := bb_ BK137.out hb
              replace HB := stepB_ hb
              (try clear hb); (try clear hk)
              refine hK.out _ _ trivial (fun hHeld => ?_)
              clear hK K
              refine normP_ (some 29) ?_
              exact jn_ (hJ5_10 () _ ⟨(blkU_ BK137.out), bel_⟩)
           ·skip
            rintro v140 w16 ⟨h0_, h1_, h2_⟩
            have n0_ : Aside0 (Kd.R (Kd.int .u8) 5 w16 w.heap.size (fun _ => True) v140 y139) := ⟨h0_⟩
            have n1_ : Aside0 (w16.heap[gb137]? = some (.cells #[.int .u64 0, .int .u64 0, .int .u64 0, .int .u64 0] 29 (0, 0))) := ⟨h1_⟩
            have n2_ : Aside0 (Below w.heap.size w w16) := ⟨h2_⟩
            clear BK137
            clear HB
            clear h0_ h1_ h2_
            have HO141 := n0_
            have BK137 := n1_
            have HB := n2_
            clear n0_ n1_ n2_
            have hHeld := trivial
            refine norm_ (a' := ?_) ?_ ?_
            rotate_left
            ·simp only [putAll, Act.put, List.setIfInBounds_toArray, List.set_cons_zero, List.set_cons_succ]
             rfl
            refine two_ (i := 2) (j := 5) (Ni := some 21) (Nj := some 24) (b_ 13 919) (b_ 13 947) rfl rfl rfl rfl (two_of HT.out (by kernel_rfl)) (by decide) (by decide) (fun K hK => ?_) (fun K hK => ?_)
            ·skip
             have hcv17 := own_string (P := Try.prog) Try.underlying60 Try.underlying5 Try.underlying9 (Kd.own_of_R HO141.out)
             refine value_ (w1 := ?_) (v := ?_) (by rfl) rfl ?_ ?_
             rotate_left 2
             ·go_simp
              constructor
              ·rfl
              ·rfl
             clear hcv17
             refine hK.out _ _ trivial (fun hHeld => ?_)
             clear hK K
             refine normP_ (some 21) ?_
             refine pureZ_ 3 (some 22) (b_ 13 927) HT ?_
             exact jn_ (hJ1_2 (v140) _ ⟨(kdU_ HO141.out), (blkU_ BK137.out), bel_⟩)
            ·skip
             refine goN_ Try.func115 #[.int .i64 (Int.tmod (wrap64 (32 - (Int.tmod (wrap64 ((t138.size : Int) + 9)) 32))) 32)] ?_
             with_reducible refine (spec_l1Zeros.calls k (Int.tmod (wrap64 (32 - (Int.tmod (wrap64 ((t138.size : Int) + 9)) 32))) 32) t142 _ A7.out).mono ?_
             rintro e w17 ⟨rfl, hb⟩
             refine ⟨_, rfl, ?_⟩
             replace HO141 := rb_ HO141.out hb
             replace BK137 := bb_ BK137.out hb
             replace HB := stepB_ hb
             (try clear hb); (try clear hk)
             refine hK.out _ _ trivial (fun hHeld => ?_)
             clear hK K
             refine normP_ (some 24) ?_
             exact jn_ (hJ1_5 (v140) _ ⟨(kdU_ HO141.out), (blkU_ BK137.out), bel_⟩)
          ·skip
           rintro _ w16 ⟨h0_, h1_⟩
           have n0_ : Aside0 (w16.heap[gb137]? = some (.cells #[.int .u64 0, .int .u64 0, .int .u64 0, .int .u64 0] 29 (0, 0))) := ⟨h0_⟩
           have n1_ : Aside0 (Below w.heap.size w w16) := ⟨h1_⟩
           clear BK137
           clear HB
           clear h0_ h1_
           have BK137 := n0_
           have HB := n1_
           clear n0_ n1_
           have hHeld := trivial
           refine norm_ (a' := ?_) ?_ ?_
           rotate_left
           ·simp only [putAll, Act.put, List.setIfInBounds_toArray, List.set_cons_zero, List.set_cons_succ]
            rfl
           refine oneP_ 1 (some 20) (b_ 13 1971) HT (fun K hK => ?_)
           refine Kd.R_lit_step (Kd.int .u8) _ 5 ?hg (N := 20) ?hd (xs := ([128] : List Int)) (inner := [.int .u8 128]) (ok := fun _ => True) (okp := fun _ => True) ?hr ?hp (fun _ hk => hk) trivial (Below.refl _ _) (Nat.le_refl _) (by simp) ?_; (case hd => rfl); (case hg => rfl); (case hr => first | (go_simp; done) | (go_simp; rfl)); (case hp => exact (Reps.one (show Kd.M (Kd.int .u8) _ _ _ 128 [.int .u8 128] from rfl) (Reps.none _ _)))
           intro v140 w17 ho18 hb hg_ hnew_
           clear hg_ hnew_
           (first | rw [← Ny139.out] at ho18 | (simp only [Int.reduceToNat] at ho18; rw [← Ny139.out] at ho18))
           have HO141 := a_ (Kd.R_lower ho18 (below_size bel_))
           replace BK137 := bb_ BK137.out hb
           replace HB := stepB_ hb
           clear hb ho18
           refine hK.out _ _ trivial (fun hHeld => ?_)
           clear hK K
           refine normP_ (some 20) ?_
           exact jn_ (hJ1_5_10 (v140) _ ⟨(kdU_ HO141.out), (blkU_ BK137.out), bel_⟩)
         ·skip
          rintro v140 w17 ⟨h0_, h1_, h2_⟩
          have n0_ : Aside0 (Kd.R (Kd.int .u8) 5 w17 w.heap.size (fun _ => True) v140 y139) := ⟨h0_⟩
          have n1_ : Aside0 (w17.heap[gb137]? = some (.cells #[.int .u64 0, .int .u64 0, .int .u64 0, .int .u64 0] 29 (0, 0))) := ⟨h1_⟩
          have n2_ : Aside0 (Below w.heap.size w w17) := ⟨h2_⟩
          clear BK137
          clear HB
          clear h0_ h1_ h2_
          have HO141 := n0_
          have BK137 := n1_
          have HB := n2_
          clear n0_ n1_ n2_
          have hHeld := trivial
          refine norm_ (a' := ?_) ?_ ?_
          rotate_left
          ·simp only [putAll, Act.put, List.setIfInBounds_toArray, List.set_cons_zero, List.set_cons_succ]
           rfl
          refine two_ (i := 2) (j := 10) (Ni := some 21) (Nj := some 29) (b_ 13 951) (b_ 13 1971) rfl rfl rfl rfl (two_of HT.out (by kernel_rfl)) (by decide) (by decide) (fun K hK => ?_) (fun K hK => ?_)
          ·skip
           have hcv18 := own_string (P := Try.prog) Try.underlying60 Try.underlying5 Try.underlying9 (Kd.own_of_R HO141.out)
           refine value_ (w1 := ?_) (v := ?_) (by rfl) rfl ?_ ?_
           rotate_left 2
           ·go_simp
            constructor
            ·rfl
            ·rfl
           clear hcv18
           refine hK.out _ _ trivial (fun hHeld => ?_)
           clear hK K
           refine normP_ (some 21) ?_
           refine pureZ_ 3 (some 22) (b_ 13 959) HT ?_
           refine pureZ_ 6 (some 25) (b_ 13 1023) HT ?_
           exact jn_ (hJ1_2_5 (v140) _ ⟨(kdU_ HO141.out), (blkU_ BK137.out), bel_⟩)
          ·skip
           refine goN_ Try.func116 #[.int .u64 (IntKind.u64.wrap ((t138.size : Int)))] ?_
           with_reducible refine (spec_l1Bytes.calls k (IntKind.u64.wrap ((t138.size : Int))) t143 _ A9.out).mono ?_
           rintro e w18 ⟨rfl, hb⟩
           refine ⟨_, rfl, ?_⟩
           replace HO141 := rb_ HO141.out hb
           replace BK137 := bb_ BK137.out hb
           replace HB := stepB_ hb
           (try clear hb); (try clear hk)
           refine hK.out _ _ trivial (fun hHeld => ?_)
           clear hK K
           refine normP_ (some 29) ?_
           exact jn_ (hJ1_5_10 (v140) _ ⟨(kdU_ HO141.out), (blkU_ BK137.out), bel_⟩)
        ·skip
         rintro v140 w17 ⟨h0_, h1_, h2_⟩
         have n0_ : Aside0 (Kd.R (Kd.int .u8) 5 w17 w.heap.size (fun _ => True) v140 y139) := ⟨h0_⟩
         have n1_ : Aside0 (w17.heap[gb137]? = some (.cells #[.int .u64 0, .int .u64 0, .int .u64 0, .int .u64 0] 29 (0, 0))) := ⟨h1_⟩
         have n2_ : Aside0 (Below w.heap.size w w17) := ⟨h2_⟩
         clear BK137
         clear HB
         clear h0_ h1_ h2_
         have HO141 := n0_
         have BK137 := n1_
         have HB := n2_
         clear n0_ n1_ n2_
         have hHeld := trivial
         refine norm_ (a' := ?_) ?_ ?_
         rotate_left
         ·simp only [putAll, Act.put, List.setIfInBounds_toArray, List.set_cons_zero, List.set_cons_succ]
          rfl
         refine oneP_ 5 (some 24) (b_ 13 959) HT (fun K hK => ?_)
         refine goN_ Try.func115 #[.int .i64 (Int.tmod (wrap64 (32 - (Int.tmod (wrap64 ((t138.size : Int) + 9)) 32))) 32)] ?_
         with_reducible refine (spec_l1Zeros.calls k (Int.tmod (wrap64 (32 - (Int.tmod (wrap64 ((t138.size : Int) + 9)) 32))) 32) t142 _ A7.out).mono ?_
         rintro e w18 ⟨rfl, hb⟩
         refine ⟨_, rfl, ?_⟩
         replace HO141 := rb_ HO141.out hb
         replace BK137 := bb_ BK137.out hb
         replace HB := stepB_ hb
         (try clear hb); (try clear hk)
         refine hK.out _ _ trivial (fun hHeld => ?_)
         clear hK K
         refine normP_ (some 24) ?_
         refine pureZ_ 6 (some 25) (b_ 13 1023) HT ?_
         exact jn_ (hJ1_2_5 (v140) _ ⟨(kdU_ HO141.out), (blkU_ BK137.out), bel_⟩)
       ·skip
        rintro v140 w18 ⟨h0_, h1_, h2_⟩
        have n0_ : Aside0 (Kd.R (Kd.int .u8) 5 w18 w.heap.size (fun _ => True) v140 y139) := ⟨h0_⟩
        have n1_ : Aside0 (w18.heap[gb137]? = some (.cells #[.int .u64 0, .int .u64 0, .int .u64 0, .int .u64 0] 29 (0, 0))) := ⟨h1_⟩
        have n2_ : Aside0 (Below w.heap.size w w18) := ⟨h2_⟩
        clear BK137
        clear HB
        clear h0_ h1_ h2_
        have HO141 := n0_
        have BK137 := n1_
        have HB := n2_
        clear n0_ n1_ n2_
        have hHeld := trivial
        refine norm_ (a' := ?_) ?_ ?_
        rotate_left
        ·simp only [putAll, Act.put, List.setIfInBounds_toArray, List.set_cons_zero, List.set_cons_succ]
         rfl
        refine oneP_ 2 (some 21) (b_ 13 1975) HT (fun K hK => ?_)
        have hcv19 := own_string (P := Try.prog) Try.underlying60 Try.underlying5 Try.underlying9 (Kd.own_of_R HO141.out)
        refine value_ (w1 := ?_) (v := ?_) (by rfl) rfl ?_ ?_
        rotate_left 2
        ·go_simp
         constructor
         ·rfl
         ·rfl
        clear hcv19
        refine hK.out _ _ trivial (fun hHeld => ?_)
        clear hK K
        refine normP_ (some 21) ?_
        refine pureZ_ 3 (some 22) (b_ 13 1983) HT ?_
        refine pureZ_ 6 (some 25) (b_ 13 2047) HT ?_
        exact jn_ (hJ1_2_5_10 (v140) _ ⟨(kdU_ HO141.out), (blkU_ BK137.out), bel_⟩)
      ·skip
       rintro v140 w18 ⟨h0_, h1_, h2_⟩
       have n0_ : Aside0 (Kd.R (Kd.int .u8) 5 w18 w.heap.size (fun _ => True) v140 y139) := ⟨h0_⟩
       have n1_ : Aside0 (w18.heap[gb137]? = some (.cells #[.int .u64 0, .int .u64 0, .int .u64 0, .int .u64 0] 29 (0, 0))) := ⟨h1_⟩
       have n2_ : Aside0 (Below w.heap.size w w18) := ⟨h2_⟩
       clear BK137
       clear HB
       clear h0_ h1_ h2_
       have HO141 := n0_
       have BK137 := n1_
       have HB := n2_
       clear n0_ n1_ n2_
       have hHeld := trivial
       refine norm_ (a' := ?_) ?_ ?_
       rotate_left
       ·simp only [putAll, Act.put, List.setIfInBounds_toArray, List.set_cons_zero, List.set_cons_succ]
        rfl
       refine oneP_ 10 (some 29) (b_ 13 2047) HT (fun K hK => ?_)
       refine goN_ Try.func116 #[.int .u64 (IntKind.u64.wrap ((t138.size : Int)))] ?_
       with_reducible refine (spec_l1Bytes.calls k (IntKind.u64.wrap ((t138.size : Int))) t143 _ A9.out).mono ?_
       rintro e w19 ⟨rfl, hb⟩
       refine ⟨_, rfl, ?_⟩
       replace HO141 := rb_ HO141.out hb
       replace BK137 := bb_ BK137.out hb
       replace HB := stepB_ hb
       (try clear hb); (try clear hk)
       refine hK.out _ _ trivial (fun hHeld => ?_)
       clear hK K
       refine normP_ (some 29) ?_
       exact jn_ (hJ1_2_5_10 (v140) _ ⟨(kdU_ HO141.out), (blkU_ BK137.out), bel_⟩)
     rintro v140 w19 ⟨h0_, h1_, h2_⟩
     have n0_ : Aside0 (Kd.R (Kd.int .u8) 5 w19 w.heap.size (fun _ => True) v140 y139) := ⟨h0_⟩
     have n1_ : Aside0 (w19.heap[gb137]? = some (.cells #[.int .u64 0, .int .u64 0, .int .u64 0, .int .u64 0] 29 (0, 0))) := ⟨h1_⟩
     have n2_ : Aside0 (Below w.heap.size w w19) := ⟨h2_⟩
     clear BK137
     clear HB
     clear h0_ h1_ h2_
     have HO141 := n0_
     have BK137 := n1_
     have HB := n2_
     clear n0_ n1_ n2_
     have hHeld := trivial
     refine norm_ (a' := ?_) ?_ ?_
     rotate_left
     ·simp only [putAll, Act.put, List.setIfInBounds_toArray, List.set_cons_zero, List.set_cons_succ]
      rfl
     refine pureZ_ 11 (some 30) (b_ 13 4095) HT ?_
     refine pureZ_ 12 (some 4) (b_ 13 8191) HT ?_
     refine done_ (done_of HT.out (by kernel_rfl)) ?_
     try go_wp2_with (first | ((with_reducible refine gate_dst (N := 5) rfl ?_); refine boxE_ (cs := #[.int .u64 0, .int .u64 0, .int .u64 0, .int .u64 0]) (t := 29) ?_; intro gb144 hg w20 hbox hb; replace HO141 := rb_ HO141.out hb; have BK144 := a_ (hbox); have GW144 := sizeB_ hg; replace HB := stepB_ hb; obtain ⟨NB137_144, NB144_137⟩ := ne2_ BK137.out hg; replace BK137 := bb_ BK137.out hb; clear hb hbox hg; have hnb21 := NB144_137.out; have hnc21 := NB137_144.out; obtain ⟨z22_0, z22_1, z22_2, z22_3, f22_0, f22_1, f22_2, f22_3⟩ := cz4_ BK144.out))
     go_loopg [6] k (fun kq v6 w' => ∃ (x6_1 x145000_1 : Int) (x145001_1 x145002_1 x145003_1 : Int), v6 = .int .i64 x6_1 ∧ Aside0 (spec_HashOf.l0 kq (((t138 ++ (strOfNums y139)) ++ t142) ++ t143) x6_1 x145000_1 x145001_1 x145002_1 x145003_1 = some (r1, r2, r3, r4)) ∧ Aside0 (kq ≤ k) ∧ Aside0 (w'.heap[gb137]? = some (.cells #[.int .u64 0, .int .u64 0, .int .u64 0, .int .u64 0] 29 (0, 0))) ∧ Aside0 (w'.heap[gb144]? = some (.cells #[.int .u64 x145000_1, .int .u64 x145001_1, .int .u64 x145002_1, .int .u64 x145003_1] 29 (0, 0))) ∧ Aside0 (Below w.heap.size w w'))
     case atStart => exact ⟨(0), (13971524466476933880), (3286059910148148165), (8210247237615983910), (11412903256176698835), rl_, H', ⟨Nat.le_refl _⟩, ⟨blkU_ BK137.out⟩, ⟨blkF_ BK144.out⟩, ⟨bel_⟩⟩
     case round =>
      clear H'
      (try clear c2); (try clear c2b0); (try clear c2b1); (try clear c6); (try clear c6b0); (try clear c6b1); (try clear c6b2); (try clear c8); (try clear c8b0); (try clear c8b1); (try clear c8b2); (try clear c10); (try clear c10b0); (try clear c10b1); (try clear c10b2); (try clear hcv17); (try clear hcv18); (try clear hcv19); (try clear z22_0 z22_1 z22_2 z22_3); (try clear z4_0 z4_1 z4_2 z4_3); (try clear f22_0 f22_1 f22_2 f22_3); (try clear f4_0 f4_1 f4_2 f4_3)
      obtain ⟨x6_1, x145000_1, x145001_1, x145002_1, x145003_1, rfl, HA, HK1, BK137, BK144, HB⟩ := hrel
      cases gk with
      | zero => exact absurd HA.out (by simp [spec_HashOf.l0])
      | succ k1 =>
       have H := HA.out
       clear HA
       simp only [spec_HashOf.l0] at H
       by_cases c23 : x6_1 < ((((t138 ++ (strOfNums y139)) ++ t142) ++ t143).size : Int)
       ·rw [if_pos c23] at H
        have c23b0 := decide_eq_true c23
        try (have c23b0n := c23b0; simp only [ByteArray.size_append, Int.natCast_add] at c23b0n)
        clear c23
        obtain ⟨t145, A24, H⟩ := bnd_ H
        obtain ⟨t146, A25, H⟩ := bnd_ H
        obtain ⟨t147, A26, H⟩ := bnd_ H
        obtain ⟨t148, A27, H⟩ := bnd_ H
        obtain ⟨⟨t149, t150, t151, t152⟩, A28, H⟩ := bnd_ H
        dsimp only at H
        have H' := Aside0.mk H
        clear H
        try go_wp2
        replace BK137 := a_ (blk_drew BK137.out)
        replace BK144 := a_ (blk_drew BK144.out)
        replace HB := a_ (below_drew1 HB.out)
        refine start_ (n := 19) (S := fun w' => hd4_ w' gb144 (.int .u64 x145000_1) (.int .u64 x145001_1) (.int .u64 x145002_1) (.int .u64 x145003_1)) (ds := [18]) #[false, false, false, false, false, false, false, false, false, false, false, false, false, false, false, false, false, false, false] (by kernel_rfl) rfl rfl (hc4_ BK144.out) (fun hHeld => ?_); refine with_tabW spec_HashOf.tab10 spec_HashOf.bits10 (fun HT HW_ => ?_)
        generalize wr.drew = w29 at BK137 BK144 HB hHeld ⊢
        refine pureZ_ 1 (some 39) (b_ 19 2) HT ?_
        refine pureZ_ 2 (some 40) (b_ 19 6) HT ?_
        refine pureZ_ 4 (some 42) (b_ 19 22) HT ?_
        refine pureZ_ 5 (some 43) (b_ 19 54) HT ?_
        refine pureZ_ 6 (some 44) (b_ 19 118) HT ?_
        refine pureZ_ 8 (some 46) (b_ 19 374) HT ?_
        refine pureZ_ 9 (some 47) (b_ 19 886) HT ?_
        refine pureZ_ 10 (some 48) (b_ 19 1910) HT ?_
        refine pureZ_ 12 (some 50) (b_ 19 6006) HT ?_
        refine pureZ_ 13 (some 51) (b_ 19 14198) HT ?_
        refine pureZ_ 14 (some 52) (b_ 19 30582) HT ?_
        refine takeP_ 0 (some 38) (b_ 19 30583) HT HW_ hHeld ?_
        refine oneP_ 3 (some 41) (b_ 19 30591) HT (fun K hK => ?_)
        refine goN_ Try.func118 #[.string (((t138 ++ (strOfNums y139)) ++ t142) ++ t143), .int .i64 x6_1] ?_
        with_reducible refine (spec_l1Word.calls k1 (((t138 ++ (strOfNums y139)) ++ t142) ++ t143) x6_1 t145 _ A24.out).mono ?_
        rintro e w' ⟨rfl, ⟨nd, rfl⟩⟩
        refine ⟨_, rfl, ?_⟩
        refine hK.out _ _ (hc4_ BK144.out) (fun hHeld => ?_)
        clear hK K
        refine normP_ (some 41) ?_
        refine oneP_ 7 (some 45) (b_ 19 30719) HT (fun K hK => ?_)
        refine goN_ Try.func118 #[.string (((t138 ++ (strOfNums y139)) ++ t142) ++ t143), .int .i64 (wrap64 (x6_1 + 8))] ?_
        with_reducible refine (spec_l1Word.calls k1 (((t138 ++ (strOfNums y139)) ++ t142) ++ t143) (wrap64 (x6_1 + 8)) t146 _ A25.out).mono ?_
        rintro e w' ⟨rfl, ⟨nd, rfl⟩⟩
        refine ⟨_, rfl, ?_⟩
        refine hK.out _ _ (hc4_ BK144.out) (fun hHeld => ?_)
        clear hK K
        refine normP_ (some 45) ?_
        refine oneP_ 11 (some 49) (b_ 19 32767) HT (fun K hK => ?_)
        refine goN_ Try.func118 #[.string (((t138 ++ (strOfNums y139)) ++ t142) ++ t143), .int .i64 (wrap64 (x6_1 + 16))] ?_
        with_reducible refine (spec_l1Word.calls k1 (((t138 ++ (strOfNums y139)) ++ t142) ++ t143) (wrap64 (x6_1 + 16)) t147 _ A26.out).mono ?_
        rintro e w' ⟨rfl, ⟨nd, rfl⟩⟩
        refine ⟨_, rfl, ?_⟩
        refine hK.out _ _ (hc4_ BK144.out) (fun hHeld => ?_)
        clear hK K
        refine normP_ (some 49) ?_
        refine oneP_ 15 (some 53) (b_ 19 65535) HT (fun K hK => ?_)
        refine goN_ Try.func118 #[.string (((t138 ++ (strOfNums y139)) ++ t142) ++ t143), .int .i64 (wrap64 (x6_1 + 24))] ?_
        with_reducible refine (spec_l1Word.calls k1 (((t138 ++ (strOfNums y139)) ++ t142) ++ t143) (wrap64 (x6_1 + 24)) t148 _ A27.out).mono ?_
        rintro e w' ⟨rfl, ⟨nd, rfl⟩⟩
        refine ⟨_, rfl, ?_⟩
        refine hK.out _ _ (hc4_ BK144.out) (fun hHeld => ?_)
        clear hK K
        refine normP_ (some 53) ?_
        refine pureZ_ 16 (some 54) (b_ 19 131071) HT ?_
        refine oneP_ 17 (some 55) (b_ 19 262143) HT (fun K hK => ?_)
        refine goN_ Try.func117 #[.agg #[.int .u64 x145000_1, .int .u64 x145001_1, .int .u64 x145002_1, .int .u64 x145003_1], .agg #[.int .u64 t145, .int .u64 t146, .int .u64 t147, .int .u64 t148]] ?_
        with_reducible refine (spec_HashBlock.calls k1 x145000_1 x145001_1 x145002_1 x145003_1 t145 t146 t147 t148 t149 t150 t151 t152 _ A28.out).mono ?_
        rintro e w30 ⟨rfl, hb⟩
        refine ⟨_, rfl, ?_⟩
        replace BK137 := bb_ BK137.out hb
        replace BK144 := bb_ BK144.out hb
        replace HB := stepB_ hb
        (try clear hb); (try clear hk)
        refine hK.out _ _ (hc4_ BK144.out) (fun hHeld => ?_)
        clear hK K
        refine normP_ (some 55) ?_
        refine last_ (i := 18) (N := none) (b_ 19 524287) rfl rfl (one_of HT.out (by kernel_rfl)) (by decide) (fun K hK => ?_)
        have hs31 : w30.cell? ⟨gb144, 0, none⟩ = some (.int .u64 x145000_1) := (blk_cell BK144.out 0).trans rfl
        have hfs31 := blk_frozen BK144.out 0
        have hns31_0 := NB137_144.out
        have hms31_0 := NB144_137.out
        have hs32 : w30.cell? ⟨gb144, 1, none⟩ = some (.int .u64 x145001_1) := (blk_cell BK144.out 1).trans rfl
        have hfs32 := blk_frozen BK144.out 1
        have hns32_0 := NB137_144.out
        have hms32_0 := NB144_137.out
        have hs33 : w30.cell? ⟨gb144, 2, none⟩ = some (.int .u64 x145002_1) := (blk_cell BK144.out 2).trans rfl
        have hfs33 := blk_frozen BK144.out 2
        have hns33_0 := NB137_144.out
        have hms33_0 := NB144_137.out
        have hs34 : w30.cell? ⟨gb144, 3, none⟩ = some (.int .u64 x145003_1) := (blk_cell BK144.out 3).trans rfl
        have hfs34 := blk_frozen BK144.out 3
        have hns34_0 := NB137_144.out
        have hms34_0 := NB144_137.out
        refine skip_ (w1 := ?_) (by rfl) rfl ?_ ?_
        rotate_left
        ·go_simp
         rfl
        refine hK.out _ _ ?_
        clear hK K
        refine done_ (done_of HT.out (by kernel_rfl)) ?_
        try go_wp2
        go_roundg k1
        case measure => have := HK1.out; omega
        case rel => exact ⟨(wrap64 (x6_1 + 32)), (t149), (t150), (t151), (t152), rl_, H', ⟨by have := HK1.out; omega⟩, ⟨blkU_ BK137.out⟩, ⟨blkF_ BK144.out⟩, ⟨bel_⟩⟩
       ·rw [if_neg c23] at H
        have c23b0 := decide_eq_false c23
        try (have c23b0n := c23b0; simp only [ByteArray.size_append, Int.natCast_add] at c23b0n)
        clear c23
        simp only [Option.some.injEq, Prod.mk.injEq] at H
        obtain ⟨rfl, rfl, rfl, rfl⟩ := H
        have hnb35 := NB144_137.out
        have hnc35 := NB137_144.out
        obtain ⟨z36_0, z36_1, z36_2, z36_3, f36_0, f36_1, f36_2, f36_3⟩ := cz4_ BK144.out
        obtain ⟨z37_0, z37_1, z37_2, z37_3, f37_0, f37_1, f37_2, f37_3⟩ := cz4_ BK137.out
        go_wp2
        refine bodyPost_ret (results_cell_row rfl _ _ gb137 29 #[.int .u64 x145000_1, .int .u64 x145001_1, .int .u64 x145002_1, .int .u64 x145003_1] (0, 0) _ rfl (blkF_ BK137.out) Try.underlying29 rfl (by kernel_rfl)) rfl ?_
        exact ⟨rfl_, bel_⟩
    ·rw [if_neg c10] at H
     exact absurd H (by simp)
   ·rw [if_neg c8] at H
    exact absurd H (by simp)
  ·rw [if_neg c6] at H
   exact absurd H (by simp)
end
end Go.Proofs.Ytflckegggopdnaa.B
