/- What the Go functions of these names do; condition: .f gives an answer. -/
import Derived.Test.YtflckegggopdnaaZCCP0
import Derived.Test.YtflckegggopdnaaZCCP2
set_option linter.unusedVariables false
set_option maxHeartbeats 8000000
set_option maxRecDepth 100000
set_option linter.unusedSimpArgs false
namespace Go.Proofs.Ytflckegggopdnaa.B
open Go.RowKit Go.Proofs.YtflckegggopdnaaW
section
def spec_l1Bare.l0 : Nat → ByteArray → List Int → Int → Option (ByteArray)
 | 0, _, _, _ => none
 | k + 1, x1, x2, x0 => if x0 < (x1.size : Int) then (if 0 ≤ x0 then (if (bt x1 x0) = 255 then (spec_l1Bare.l0 k x1 x2 (wrap64 (x0 + 1))) else (if x2.length < 140737488355328 then (spec_l1Bare.l0 k x1 (x2 ++ [bt x1 x0]) (wrap64 (x0 + 1))) else (none))) else (none)) else (some (strOfNums x2))
def spec_l1Bare.f (k : Nat) (a0 : ByteArray) : Option (ByteArray) := spec_l1Bare.l0 k a0 (([] : List Int)) 0
theorem spec_l1Bare.calls (k : Nat) (a0 r : ByteArray) (w : World) (h : spec_l1Bare.f k a0 = some r) :
  Calls Try.prog 114 #[.string a0] w fun e w' => e = .returned (.string r) ∧ Below w.heap.size w w' := by
 have HB := rB_ w
 have H := h
 unfold spec_l1Bare.f at H
 clear h
 obtain ⟨y0, hy0⟩ : ∃ y_ : List Int, y_ = (([] : List Int)) := ⟨_, rfl⟩
 replace H : (spec_l1Bare.l0 k a0 y0 0) = some r := rpl_ hy0 H
 have Ny0 := a_ hy0
 clear hy0
 have H' := a_ H
 clear H
 go_enter Try.func114, Try.ntmps114
 go_wp2_with (first | ((with_reducible refine gate_dst (N := 5) rfl ?_); refine Kd.R_lit (Kd.int .u8) _ 5 ?hg (N := 5) ?hd (xs := ([] : List Int)) (inner := []) (ok := fun _ => True) (okp := fun _ => True) ?hr ?hp (fun _ hk => hk) trivial (Below.refl _ _) (Nat.le_refl _) (by simp) ?_; (case hd => rfl); (case hg => rfl); (case hr => first | (go_simp; done) | (go_simp; rfl)); (case hp => exact (Reps.none _ _)); intro v2 w2 ho0 hb hg_ hnew_; clear hg_ hnew_; (first | rw [← Ny0.out] at ho0 | (simp only [Int.reduceToNat] at ho0; rw [← Ny0.out] at ho0)); have HO0 := a_ (Kd.R_lower ho0 (below_size bel_)); replace HB := s_ hb; clear hb ho0))
 go_loopg [3, 4] k (fun kq v0 v1 w' => ∃ (x1 : List Int) (x0 : Int), v1 = .int .i64 x0 ∧ Aside0 (spec_l1Bare.l0 kq a0 x1 x0 = some r) ∧ Aside0 (kq ≤ k) ∧ Aside0 (Kd.R (Kd.int .u8) 5 w' w.heap.size (fun _ => True) v0 x1) ∧ Aside0 (Below w.heap.size w w'))
 case atStart => exact ⟨(y0), (0), rl_, H', ⟨Nat.le_refl _⟩, ⟨kdU_ HO0.out⟩, ⟨bel_⟩⟩
 case round =>
  clear H'
  obtain ⟨x1, x0, rfl, HA, HK1, HO_0, HB⟩ := hrel
  cases gk with
  | zero => exact absurd HA.out (by simp [spec_l1Bare.l0])
  | succ k1 =>
   have H := HA.out
   clear HA
   simp only [spec_l1Bare.l0] at H
   by_cases c4 : x0 < (a0.size : Int)
   ·rw [if_pos c4] at H
    have c0 := decide_eq_true c4
    clear c4
    obtain ⟨c12, H⟩ := ifd_ H
    by_cases c7 : (bt a0 x0) = 255
    ·rw [if_pos c7] at H
     have c1 := beq_iff_eq.mpr c7
     have c11 := bne_eq_false_iff_eq.mpr c7
     clear c7
     have H' := a_ H
     clear H
     have p0 : 0 ≤ (x0 : Int) := ofd_
     have q0 : x0 < (a0.size : Int) := ofd_
     have hx0 := bt_at a0 x0
     replace p0 := eq_true p0
     replace q0 := eq_true q0
     go_wp2
     go_roundg k1
     case measure => have := HK1.out; omega
     case rel => exact ⟨(x1), (wrap64 (x0 + 1)), rl_, H', ⟨by have := HK1.out; omega⟩, ⟨kdU_ HO_0.out⟩, ⟨bel_⟩⟩
    ·rw [if_neg c7] at H
     have c1 := beq_eq_false_iff_ne.mpr c7
     have c11 := bne_iff_ne.mpr c7
     obtain ⟨c9, H⟩ := ifn_ H
     have LMc0 := a_ c9
     clear c9
     obtain ⟨y1, hy1⟩ : ∃ y_ : List Int, y_ = (x1 ++ [bt a0 x0]) := ⟨_, rfl⟩
     replace H : (spec_l1Bare.l0 k1 a0 y1 (wrap64 (x0 + 1))) = some r := rpl_ hy1 H
     have Ny1 := a_ hy1
     clear hy1
     have H' := a_ H
     clear H
     have p0 : 0 ≤ (x0 : Int) := ofd_
     have q0 : x0 < (a0.size : Int) := ofd_
     have hx0 := bt_at a0 x0
     replace p0 := eq_true p0
     replace q0 := eq_true q0
     have p1 : 0 ≤ (x0 : Int) := ofd_
     have q1 : x0 < (a0.size : Int) := ofd_
     have hx1 := bt_at a0 x0
     replace p1 := eq_true p1
     replace q1 := eq_true q1
     go_wp2_with (first | ((with_reducible refine gate_builtin (b := .append) (xs := #[.tmp 16, .tmp 20]) rfl ?_); at_builtin; refine Kd.R_append (Kd.int .u8) (w0 := w) w.heap.size rfl (.tmp 16) (.tmp 20) 60 5 (.int .u8 0) 1 rfl Try.underlying60 info5 rfl (by decide) (by omega) u3 x1 (bt a0 x0) [.int .u8 (bt a0 x0)] (fun _ => True) (fun _ => False) rfl rfl ?aP (fun _ hk => hk.elim) ?aF ?aO ?aB ?aS ?aL ?_; (case aP => exact rfl); (case aB => exact bel_); (case aF => exact (fun _ _ => trivial)); (case aO => exact (kdU_ HO_0.out)); (case aS => exact (below_size bel_)); (case aL => have := LMc0.out; omega); intro v3 w1 ho hb hg hat; rw [← Ny1.out] at ho; replace HB := a_ (hb); have HO1 := a_ (ho); clear HO_0; clear ho hb hg hat))
     go_roundg k1
     case measure => have := HK1.out; omega
     case rel => exact ⟨(y1), (wrap64 (x0 + 1)), rl_, H', ⟨by have := HK1.out; omega⟩, ⟨kdU_ HO1.out⟩, ⟨bel_⟩⟩
   ·rw [if_neg c4] at H
    have c0 := decide_eq_false c4
    clear c4
    obtain rfl := Option.some.inj H
    have hcv0 := own_string (P := Try.prog) Try.underlying60 Try.underlying5 Try.underlying9 (Kd.own_of_R HO_0.out)
    go_wp2
    go_ret
    exact ⟨rfl_, bel_⟩
end
section
def spec_l1Zeros.l0 : Nat → Int → List Int → Int → Option (ByteArray)
 | 0, _, _, _ => none
 | k + 1, x1, x0, x2 => if x2 < x1 then (if x0.length < 140737488355328 then (spec_l1Zeros.l0 k x1 (x0 ++ [0]) (wrap64 (x2 + 1))) else (none)) else (some (strOfNums x0))
def spec_l1Zeros.f (k : Nat) (a0 : Int) : Option (ByteArray) := spec_l1Zeros.l0 k a0 (([] : List Int)) 0
theorem spec_l1Zeros.calls (k : Nat) (a0 : Int) (r : ByteArray) (w : World) (h : spec_l1Zeros.f k a0 = some r) :
  Calls Try.prog 115 #[.int .i64 a0] w fun e w' => e = .returned (.string r) ∧ Below w.heap.size w w' := by
 have HB := rB_ w
 have H := h
 unfold spec_l1Zeros.f at H
 clear h
 obtain ⟨y0, hy0⟩ : ∃ y_ : List Int, y_ = (([] : List Int)) := ⟨_, rfl⟩
 replace H : (spec_l1Zeros.l0 k a0 y0 0) = some r := rpl_ hy0 H
 have Ny0 := a_ hy0
 clear hy0
 have H' := a_ H
 clear H
 go_enter Try.func115, Try.ntmps115
 go_wp2_with (first | ((with_reducible refine gate_dst (N := 5) rfl ?_); refine Kd.R_lit (Kd.int .u8) _ 5 ?hg (N := 5) ?hd (xs := ([] : List Int)) (inner := []) (ok := fun _ => True) (okp := fun _ => True) ?hr ?hp (fun _ hk => hk) trivial (Below.refl _ _) (Nat.le_refl _) (by simp) ?_; (case hd => rfl); (case hg => rfl); (case hr => first | (go_simp; done) | (go_simp; rfl)); (case hp => exact (Reps.none _ _)); intro v2 w1 ho0 hb hg_ hnew_; clear hg_ hnew_; (first | rw [← Ny0.out] at ho0 | (simp only [Int.reduceToNat] at ho0; rw [← Ny0.out] at ho0)); have HO0 := a_ (Kd.R_lower ho0 (below_size bel_)); replace HB := s_ hb; clear hb ho0))
 go_loopg [3, 4] k (fun kq v0 v1 w' => ∃ (x1 : List Int) (x0 : Int), v1 = .int .i64 x0 ∧ Aside0 (spec_l1Zeros.l0 kq a0 x1 x0 = some r) ∧ Aside0 (kq ≤ k) ∧ Aside0 (Kd.R (Kd.int .u8) 5 w' w.heap.size (fun _ => True) v0 x1) ∧ Aside0 (Below w.heap.size w w'))
 case atStart => exact ⟨(y0), (0), rl_, H', ⟨Nat.le_refl _⟩, ⟨kdU_ HO0.out⟩, ⟨bel_⟩⟩
 case round =>
  clear H'
  obtain ⟨x1, x0, rfl, HA, HK1, HO_0, HB⟩ := hrel
  cases gk with
  | zero => exact absurd HA.out (by simp [spec_l1Zeros.l0])
  | succ k1 =>
   have H := HA.out
   clear HA
   simp only [spec_l1Zeros.l0] at H
   by_cases c4 : x0 < a0
   ·rw [if_pos c4] at H
    have c0 := decide_eq_true c4
    clear c4
    obtain ⟨c5, H⟩ := ifn_ H
    have LMc0 := a_ c5
    clear c5
    obtain ⟨y1, hy1⟩ : ∃ y_ : List Int, y_ = (x1 ++ [0]) := ⟨_, rfl⟩
    replace H : (spec_l1Zeros.l0 k1 a0 y1 (wrap64 (x0 + 1))) = some r := rpl_ hy1 H
    have Ny1 := a_ hy1
    clear hy1
    have H' := a_ H
    clear H
    go_wp2_with (first | ((with_reducible refine gate_builtin (b := .append) (xs := #[.tmp 11, .tmp 12]) rfl ?_); at_builtin; refine Kd.R_append (Kd.int .u8) (w0 := w) w.heap.size rfl (.tmp 11) (.tmp 12) 60 5 (.int .u8 0) 1 rfl Try.underlying60 info5 rfl (by decide) (by omega) u3 x1 0 [.int .u8 0] (fun _ => True) (fun _ => False) rfl rfl ?aP (fun _ hk => hk.elim) ?aF ?aO ?aB ?aS ?aL ?_; (case aP => exact rfl); (case aB => exact bel_); (case aF => exact (fun _ _ => trivial)); (case aO => exact (kdU_ HO_0.out)); (case aS => exact (below_size bel_)); (case aL => have := LMc0.out; omega); intro v3 w2 ho hb hg hat; rw [← Ny1.out] at ho; replace HB := a_ (hb); have HO1 := a_ (ho); clear HO_0; clear ho hb hg hat))
    go_roundg k1
    case measure => have := HK1.out; omega
    case rel => exact ⟨(y1), (wrap64 (x0 + 1)), rl_, H', ⟨by have := HK1.out; omega⟩, ⟨kdU_ HO1.out⟩, ⟨bel_⟩⟩
   ·rw [if_neg c4] at H
    have c0 := decide_eq_false c4
    clear c4
    obtain rfl := Option.some.inj H
    have hcv0 := own_string (P := Try.prog) Try.underlying60 Try.underlying5 Try.underlying9 (Kd.own_of_R HO_0.out)
    go_wp2
    go_ret
    exact ⟨rfl_, bel_⟩
end
section
def spec_l1Bytes.l0 : Nat → Int → List Int → Int → Option (ByteArray)
 | 0, _, _, _ => none
 | k + 1, x2, x1, x0 => if x0 ≥ 0 then (if 0 ≤ (IntKind.u64.wrap (wrap64 (8 * x0))) then (if x1.length < 140737488355328 then (spec_l1Bytes.l0 k x2 (x1 ++ [(shr .u64 x2 (IntKind.u64.wrap (wrap64 (8 * x0)))) % 256]) (wrap64 (x0 - 1))) else (none)) else (none)) else (some (strOfNums x1))
def spec_l1Bytes.f (k : Nat) (a0 : Int) : Option (ByteArray) := spec_l1Bytes.l0 k a0 (([] : List Int)) 7
theorem spec_l1Bytes.calls (k : Nat) (a0 : Int) (r : ByteArray) (w : World) (h : spec_l1Bytes.f k a0 = some r) :
  Calls Try.prog 116 #[.int .u64 a0] w fun e w' => e = .returned (.string r) ∧ Below w.heap.size w w' := by
 have HB := rB_ w
 have H := h
 unfold spec_l1Bytes.f at H
 clear h
 obtain ⟨y0, hy0⟩ : ∃ y_ : List Int, y_ = (([] : List Int)) := ⟨_, rfl⟩
 replace H : (spec_l1Bytes.l0 k a0 y0 7) = some r := rpl_ hy0 H
 have Ny0 := a_ hy0
 clear hy0
 have H' := a_ H
 clear H
 go_enter Try.func116, Try.ntmps116
 go_wp2_with (first | ((with_reducible refine gate_dst (N := 5) rfl ?_); refine Kd.R_lit (Kd.int .u8) _ 5 ?hg (N := 5) ?hd (xs := ([] : List Int)) (inner := []) (ok := fun _ => True) (okp := fun _ => True) ?hr ?hp (fun _ hk => hk) trivial (Below.refl _ _) (Nat.le_refl _) (by simp) ?_; (case hd => rfl); (case hg => rfl); (case hr => first | (go_simp; done) | (go_simp; rfl)); (case hp => exact (Reps.none _ _)); intro v2 w1 ho0 hb hg_ hnew_; clear hg_ hnew_; (first | rw [← Ny0.out] at ho0 | (simp only [Int.reduceToNat] at ho0; rw [← Ny0.out] at ho0)); have HO0 := a_ (Kd.R_lower ho0 (below_size bel_)); replace HB := s_ hb; clear hb ho0))
 go_loopg [3, 4] k (fun kq v0 v1 w' => ∃ (x1 : List Int) (x0 : Int), v1 = .int .i64 x0 ∧ Aside0 (spec_l1Bytes.l0 kq a0 x1 x0 = some r) ∧ Aside0 (kq ≤ k) ∧ Aside0 (Kd.R (Kd.int .u8) 5 w' w.heap.size (fun _ => True) v0 x1) ∧ Aside0 (Below w.heap.size w w'))
 case atStart => exact ⟨(y0), (7), rl_, H', ⟨Nat.le_refl _⟩, ⟨kdU_ HO0.out⟩, ⟨bel_⟩⟩
 case round =>
  clear H'
  obtain ⟨x1, x0, rfl, HA, HK1, HO_0, HB⟩ := hrel
  cases gk with
  | zero => exact absurd HA.out (by simp [spec_l1Bytes.l0])
  | succ k1 =>
   have H := HA.out
   clear HA
   simp only [spec_l1Bytes.l0] at H
   by_cases c4 : x0 ≥ 0
   ·rw [if_pos c4] at H
    have c0 : decide (0 ≤ x0) = true := decide_eq_true c4
    clear c4
    obtain ⟨ji5, hji5⟩ : ∃ j_ : Int, (IntKind.u64.wrap (wrap64 (8 * x0))) = j_ := ⟨_, rfl⟩
    replace H : (if 0 ≤ (ji5) then (if x1.length < 140737488355328 then (spec_l1Bytes.l0 k1 a0 (x1 ++ [(shr .u64 a0 (ji5)) % 256]) (wrap64 (x0 - 1))) else (none)) else (none)) = some r := by first | (rw [hji5] at H; exact H) | (simp only [hji5] at H ⊢; exact H)
    obtain ⟨c6, H⟩ := ifn_ H
    have c1 := eq_true c6
    have c11 := decide_eq_true c6
    clear c6
    obtain ⟨ji7, hji7⟩ : ∃ j_ : Int, (shr .u64 a0 (ji5)) = j_ := ⟨_, rfl⟩
    replace H : (if x1.length < 140737488355328 then (spec_l1Bytes.l0 k1 a0 (x1 ++ [(ji7) % 256]) (wrap64 (x0 - 1))) else (none)) = some r := by first | (rw [hji7] at H; exact H) | (simp only [hji7] at H ⊢; exact H)
    have hji7_ : (a0 / 2 ^ min (ji5).toNat 64) = ji7 := hji7
    have hji7z : (ji5) ≤ 64 → (a0 / 2 ^ (ji5).toNat) = ji7 := shr_small hji7
    obtain ⟨c8, H⟩ := ifn_ H
    have LMc0 := a_ c8
    clear c8
    obtain ⟨y1, hy1⟩ : ∃ y_ : List Int, y_ = (x1 ++ [(ji7) % 256]) := ⟨_, rfl⟩
    replace H : (spec_l1Bytes.l0 k1 a0 y1 (wrap64 (x0 - 1))) = some r := rpl_ hy1 H
    have Ny1 := a_ hy1
    clear hy1
    have H' := a_ H
    clear H
    go_wp2_with (first | ((with_reducible refine gate_builtin (b := .append) (xs := #[.tmp 10, .tmp 17]) rfl ?_); at_builtin; refine Kd.R_append (Kd.int .u8) (w0 := w) w.heap.size rfl (.tmp 10) (.tmp 17) 60 5 (.int .u8 0) 1 rfl Try.underlying60 info5 rfl (by decide) (by omega) u3 x1 ((ji7) % 256) [.int .u8 ((ji7) % 256)] (fun _ => True) (fun _ => False) rfl rfl ?aP (fun _ hk => hk.elim) ?aF ?aO ?aB ?aS ?aL ?_; (case aP => exact rfl); (case aB => exact bel_); (case aF => exact (fun _ _ => trivial)); (case aO => exact (kdU_ HO_0.out)); (case aS => exact (below_size bel_)); (case aL => have := LMc0.out; omega); intro v3 w2 ho hb hg hat; rw [← Ny1.out] at ho; replace HB := a_ (hb); have HO1 := a_ (ho); clear HO_0; clear ho hb hg hat))
    go_roundg k1
    case measure => have := HK1.out; omega
    case rel => exact ⟨(y1), (wrap64 (x0 - 1)), rl_, H', ⟨by have := HK1.out; omega⟩, ⟨kdU_ HO1.out⟩, ⟨bel_⟩⟩
   ·rw [if_neg c4] at H
    have c0 : decide (0 ≤ x0) = false := decide_eq_false c4
    clear c4
    obtain rfl := Option.some.inj H
    have hcv0 := own_string (P := Try.prog) Try.underlying60 Try.underlying5 Try.underlying9 (Kd.own_of_R HO_0.out)
    go_wp2
    go_ret
    exact ⟨rfl_, bel_⟩
end
section
def spec_l1Turn.f (a1 a0 : Int) : Option (Int) := if 0 ≤ (IntKind.u64.wrap (a0)) then (if 0 ≤ (IntKind.u64.wrap (wrap64 (64 - a0))) then (some (Go.bits .or .u64 (shl .u64 a1 (IntKind.u64.wrap (a0))) (shr .u64 a1 (IntKind.u64.wrap (wrap64 (64 - a0)))))) else (none)) else (none)
theorem spec_l1Turn.calls (a0 a1 r : Int) (w : World) (h : spec_l1Turn.f a0 a1 = some r) :
  Calls Try.prog 130 #[.int .u64 a0, .int .i64 a1] w fun e w' => e = .returned (.int .u64 r) ∧ Drawn0 w w' := by
 have H := h
 unfold spec_l1Turn.f at H
 clear h
 obtain ⟨ji3, hji3⟩ : ∃ j_ : Int, (IntKind.u64.wrap (a1)) = j_ := ⟨_, rfl⟩
 replace H : (if 0 ≤ (ji3) then (if 0 ≤ (IntKind.u64.wrap (wrap64 (64 - a1))) then (some (Go.bits .or .u64 (shl .u64 a0 (ji3)) (shr .u64 a0 (IntKind.u64.wrap (wrap64 (64 - a1)))))) else (none)) else (none)) = some r := by first | (rw [hji3] at H; exact H) | (simp only [hji3] at H ⊢; exact H)
 obtain ⟨c4, H⟩ := ifn_ H
 have c0 := eq_true c4
 have c1 := decide_eq_true c4
 clear c4
 obtain ⟨ji5, hji5⟩ : ∃ j_ : Int, (shl .u64 a0 (ji3)) = j_ := ⟨_, rfl⟩
 replace H : (if 0 ≤ (IntKind.u64.wrap (wrap64 (64 - a1))) then (some (Go.bits .or .u64 (ji5) (shr .u64 a0 (IntKind.u64.wrap (wrap64 (64 - a1)))))) else (none)) = some r := by first | (rw [hji5] at H; exact H) | (simp only [hji5] at H ⊢; exact H)
 have hji5_ : (IntKind.u64.wrap (a0 * 2 ^ min (ji3).toNat 64)) = ji5 := hji5
 have hji5z : (ji3) ≤ 64 → (IntKind.u64.wrap (a0 * 2 ^ (ji3).toNat)) = ji5 := shl_small hji5
 obtain ⟨ji6, hji6⟩ : ∃ j_ : Int, (IntKind.u64.wrap (wrap64 (64 - a1))) = j_ := ⟨_, rfl⟩
 replace H : (if 0 ≤ (ji6) then (some (Go.bits .or .u64 (ji5) (shr .u64 a0 (ji6)))) else (none)) = some r := by first | (rw [hji6] at H; exact H) | (simp only [hji6] at H ⊢; exact H)
 obtain ⟨c7, H⟩ := ifn_ H
 have c11 := eq_true c7
 have c12 := decide_eq_true c7
 clear c7
 obtain ⟨ji8, hji8⟩ : ∃ j_ : Int, (shr .u64 a0 (ji6)) = j_ := ⟨_, rfl⟩
 replace H : (some (Go.bits .or .u64 (ji5) (ji8))) = some r := by first | (rw [hji8] at H; exact H) | (simp only [hji8] at H ⊢; exact H)
 have hji8_ : (a0 / 2 ^ min (ji6).toNat 64) = ji8 := hji8
 have hji8z : (ji6) ≤ 64 → (a0 / 2 ^ (ji6).toNat) = ji8 := shr_small hji8
 obtain rfl := Option.some.inj H
 go_enter Try.func130, Try.ntmps130
 go_wp2
 go_ret
 exact ⟨by first | rfl | (simp; done) | (simp only [← hji3, ← hji5, ← hji6, ← hji8] <;> (first | rfl | simp)) | (simp [*]; done), by repeat (first | exact Drawn0.refl _ | apply Drawn0.step)⟩
end
section
def spec_HashBlock.l0 : Nat → Int → Int → Int → Int → Int → Int → Int → Int → Int → Int → Option (Int × Int × Int × Int)
 | 0, _, _, _, _, _, _, _, _, _, _ => none
 | k + 1, x1, x0, x2, x9, x3, x4, x5, x6, x7, x8 => if x4 < 10 then ((spec_l1Turn.f (Go.bits .xor .u64 x9 (IntKind.u64.wrap ((IntKind.u64.wrap (x1 + x0)) + (IntKind.u64.wrap (x3 + 12620524952350641003))))) 39).bind fun t0 => ((spec_l1Turn.f (Go.bits .xor .u64 x0 (IntKind.u64.wrap (x2 + t0))) 21).bind fun t1 => (spec_HashBlock.l0 k t1 (IntKind.u64.wrap (x2 + t0)) t0 (IntKind.u64.wrap ((IntKind.u64.wrap (x1 + x0)) + (IntKind.u64.wrap (x3 + 12620524952350641003)))) (IntKind.u64.wrap (x3 + 12620524952350641003)) (wrap64 (x4 + 1)) x5 x6 x7 x8))) else (some (Go.bits .xor .u64 x1 x5, Go.bits .xor .u64 x0 x6, Go.bits .xor .u64 x2 x7, Go.bits .xor .u64 x9 x8))
def spec_HashBlock.f (k : Nat) (a0 a1 a2 a3 a4 a5 a6 a7 : Int) : Option (Int × Int × Int × Int) := spec_HashBlock.l0 k (Go.bits .xor .u64 a0 a4) (Go.bits .xor .u64 a1 a5) (Go.bits .xor .u64 a2 a6) (Go.bits .xor .u64 a3 a7) 0 0 a0 a1 a2 a3
theorem spec_HashBlock.calls (k : Nat) (a0 a1 a2 a3 a4 a5 a6 a7 r0 r1 r2 r3 : Int) (w : World) (h : spec_HashBlock.f k a0 a1 a2 a3 a4 a5 a6 a7 = some (r0, r1, r2, r3)) :
  Calls Try.prog 117 #[.agg #[.int .u64 a0, .int .u64 a1, .int .u64 a2, .int .u64 a3], .agg #[.int .u64 a4, .int .u64 a5, .int .u64 a6, .int .u64 a7]] w fun e w' => e = .returned (.agg #[.int .u64 r0, .int .u64 r1, .int .u64 r2, .int .u64 r3]) ∧ Below w.heap.size w w' := by
 have hu29 := Try.underlying29
 have HB := rB_ w
 have H := h
 unfold spec_HashBlock.f at H
 clear h
 have H' := a_ H
 clear H
 go_enter Try.func117, Try.ntmps117
 go_wp2_with (first | (refine bx_ 2 #[.int .u64 a0, .int .u64 a1, .int .u64 a2, .int .u64 a3] 29 ?_; intro gb1 w1 hg hb BK0 GW0; replace HB := s_ hb; clear hb hg) | (refine bx_ 3 #[.int .u64 a4, .int .u64 a5, .int .u64 a6, .int .u64 a7] 29 ?_; intro gb2 w2 hg hb BK1 GW1; replace HB := s_ hb; obtain ⟨NB0, NB2⟩ := ne2_ BK0.out hg; replace BK0 := bb_ BK0.out hb; clear hb hg) | (refine bx_ 4 #[.int .u64 0, .int .u64 0, .int .u64 0, .int .u64 0] 29 ?_; intro gb0 w3 hg hb BK2 GW2; replace HB := s_ hb; obtain ⟨NB1, NB4⟩ := ne2_ BK0.out hg; replace BK0 := bb_ BK0.out hb; obtain ⟨NB3, NB5⟩ := ne2_ BK1.out hg; replace BK1 := bb_ BK1.out hb; clear hb hg; have hnb3 := NB0.out; have hnc3 := NB2.out; have hnb4 := NB1.out; have hnc4 := NB4.out; obtain ⟨z4, z5, z6, z7, f4, f5, f6, f7⟩ := cz4_ BK0.out; have hnb5 := NB3.out; have hnc5 := NB5.out; obtain ⟨z0, z1, z2, z3, f0, f1, f2, f3⟩ := cz4_ BK1.out))
 go_loopg [5, 6, 7, 8, 9, 10] k (fun kq v1 v2 v3 v4 v5 v0 w' => ∃ (x1 x2 x3 x5 x4 x0 : Int), v1 = .int .u64 x1 ∧ v2 = .int .u64 x2 ∧ v3 = .int .u64 x3 ∧ v4 = .int .u64 x5 ∧ v5 = .int .u64 x4 ∧ v0 = .int .i64 x0 ∧ Aside0 (spec_HashBlock.l0 kq x1 x2 x3 x5 x4 x0 a0 a1 a2 a3 = some (r0, r1, r2, r3)) ∧ Aside0 (kq ≤ k) ∧ Aside0 (w'.heap[gb1]? = some (.cells #[.int .u64 a0, .int .u64 a1, .int .u64 a2, .int .u64 a3] 29 (0, 0))) ∧ Aside0 (w'.heap[gb2]? = some (.cells #[.int .u64 a4, .int .u64 a5, .int .u64 a6, .int .u64 a7] 29 (0, 0))) ∧ Aside0 (w'.heap[gb0]? = some (.cells #[.int .u64 0, .int .u64 0, .int .u64 0, .int .u64 0] 29 (0, 0))) ∧ Aside0 (Below w.heap.size w w'))
 case atStart => exact ⟨(Go.bits .xor .u64 a0 a4), (Go.bits .xor .u64 a1 a5), (Go.bits .xor .u64 a2 a6), (Go.bits .xor .u64 a3 a7), (0), (0), rl_, rl_, rl_, rl_, rl_, rl_, H', ⟨Nat.le_refl _⟩, ⟨blkU_ BK0.out⟩, ⟨blkU_ BK1.out⟩, ⟨blkU_ BK2.out⟩, ⟨bel_⟩⟩
 case round =>
  clear H'
  (try clear z0 z1 z2 z3); (try clear z4 z5 z6 z7); (try clear f0 f1 f2 f3); (try clear f4 f5 f6 f7)
  obtain ⟨x1, x2, x3, x5, x4, x0, rfl, rfl, rfl, rfl, rfl, rfl, HA, HK1, BK0, BK1, BK2, HB⟩ := hrel
  cases gk with
  | zero => exact absurd HA.out (by simp [spec_HashBlock.l0])
  | succ k1 =>
   have H := HA.out
   clear HA
   simp only [spec_HashBlock.l0] at H
   by_cases c0 : x0 < 10
   ·rw [if_pos c0] at H
    have c1 := decide_eq_true c0
    clear c0
    obtain ⟨t0, A0, H⟩ := bnd_ H
    obtain ⟨t1, A1, H⟩ := bnd_ H
    have H' := a_ H
    clear H
    go_wp2_with (first | (refine gcD_ 130 46 Try.func130 (spec_l1Turn.calls _ _ _ _ A0.out) ?_; intro nd) | (refine gcD_ 130 53 Try.func130 (spec_l1Turn.calls _ _ _ _ A1.out) ?_; intro nd))
    go_roundg k1
    case measure => have := HK1.out; omega
    case rel => exact ⟨(t1), (IntKind.u64.wrap (x3 + t0)), (t0), (IntKind.u64.wrap ((IntKind.u64.wrap (x1 + x2)) + (IntKind.u64.wrap (x4 + 12620524952350641003)))), (IntKind.u64.wrap (x4 + 12620524952350641003)), (wrap64 (x0 + 1)), rl_, rl_, rl_, rl_, rl_, rl_, H', ⟨by have := HK1.out; omega⟩, ⟨blkU_ BK0.out⟩, ⟨blkU_ BK1.out⟩, ⟨blkU_ BK2.out⟩, ⟨bel_⟩⟩
   ·rw [if_neg c0] at H
    have c1 := decide_eq_false c0
    clear c0
    simp only [Option.some.injEq, Prod.mk.injEq] at H
    obtain ⟨rfl, rfl, rfl, rfl⟩ := H
    have hnb0 := NB0.out
    have hnc0 := NB2.out
    have hnb1 := NB1.out
    have hnc1 := NB4.out
    obtain ⟨z8, z9, z10, z11, f8, f9, f10, f11⟩ := cz4_ BK0.out
    have hnb2 := NB5.out
    have hnc2 := NB3.out
    obtain ⟨z12, z13, z14, z15, f12, f13, f14, f15⟩ := cz4_ BK2.out
    go_wp2
    refine bodyPost_ret (results_cell_row rfl _ _ gb0 29 #[.int .u64 (Go.bits .xor .u64 x1 a0), .int .u64 (Go.bits .xor .u64 x2 a1), .int .u64 (Go.bits .xor .u64 x3 a2), .int .u64 (Go.bits .xor .u64 x5 a3)] (0, 0) _ rfl (blkF_ BK2.out) Try.underlying29 rfl (by kernel_rfl)) rfl ?_
    exact ⟨rfl_, bel_⟩
end
section
def spec_l1Word.l0 : Nat → ByteArray → Int → Int → Int → Option (Int)
 | 0, _, _, _, _ => none
 | k + 1, x1, x2, x3, x0 => if x0 < (wrap64 (x2 + 8)) then (if 0 ≤ x0 then (if x0 < (x1.size : Int) then (spec_l1Word.l0 k x1 x2 (Go.bits .or .u64 (IntKind.u64.wrap (x3 * 256)) (IntKind.u64.wrap (bt x1 x0))) (wrap64 (x0 + 1))) else (none)) else (none)) else (some x3)
def spec_l1Word.f (k : Nat) (a1 : ByteArray) (a0 : Int) : Option (Int) := spec_l1Word.l0 k a1 a0 0 a0
theorem spec_l1Word.calls (k : Nat) (a0 : ByteArray) (a1 r : Int) (w : World) (h : spec_l1Word.f k a0 a1 = some r) :
  Calls Try.prog 118 #[.string a0, .int .i64 a1] w fun e w' => e = .returned (.int .u64 r) ∧ Drawn0 w w' := by
 have H := h
 unfold spec_l1Word.f at H
 clear h
 have H' := a_ H
 clear H
 go_enter Try.func118, Try.ntmps118
 go_wp2
 go_loopg [5, 6] k (fun kq v0 v1 w' => ∃ (x1 x0 : Int), v0 = .int .u64 x1 ∧ v1 = .int .i64 x0 ∧ Aside0 (spec_l1Word.l0 kq a0 a1 x1 x0 = some r) ∧ Aside0 (kq ≤ k) ∧ Drawn0 w w')
 case atStart => exact ⟨(0), (a1), rl_, rl_, H', ⟨Nat.le_refl _⟩, by repeat (first | exact Drawn0.refl _ | apply Drawn0.step)⟩
 case round =>
  clear H'
  obtain ⟨x1, x0, rfl, rfl, HA, HK1, ⟨m1, rfl⟩⟩ := hrel
  cases gk with
  | zero => exact absurd HA.out (by simp [spec_l1Word.l0])
  | succ k1 =>
   have H := HA.out
   clear HA
   simp only [spec_l1Word.l0] at H
   by_cases c3 : x0 < (wrap64 (a1 + 8))
   ·rw [if_pos c3] at H
    have c0 := decide_eq_true c3
    clear c3
    obtain ⟨c1, H⟩ := ifd_ H
    obtain ⟨c11, H⟩ := ifd_ H
    have H' := a_ H
    clear H
    have p0 : 0 ≤ (x0 : Int) := ofd_
    have q0 : x0 < (a0.size : Int) := ofd_
    have hx0 := bt_at a0 x0
    replace p0 := eq_true p0
    replace q0 := eq_true q0
    go_wp2
    go_roundg k1
    case measure => have := HK1.out; omega
    case rel => exact ⟨(Go.bits .or .u64 (IntKind.u64.wrap (x1 * 256)) (IntKind.u64.wrap (bt a0 x0))), (wrap64 (x0 + 1)), rl_, rl_, H', ⟨by have := HK1.out; omega⟩, by repeat (first | exact Drawn0.refl _ | apply Drawn0.step)⟩
   ·rw [if_neg c3] at H
    have c0 := decide_eq_false c3
    clear c3
    obtain rfl := Option.some.inj H
    go_wp2
    go_ret
    exact ⟨rl_, dr_⟩
end
section
def spec_HashOf.l0 : Nat → ByteArray → Int → Int → Int → Int → Int → Option (Int × Int × Int × Int)
 | 0, _, _, _, _, _, _ => none
 | k + 1, x0, x1, x2, x3, x4, x5 => if x1 < (x0.size : Int) then ((spec_l1Word.f k x0 x1).bind fun t0 => ((spec_l1Word.f k x0 (wrap64 (x1 + 8))).bind fun t1 => ((spec_l1Word.f k x0 (wrap64 (x1 + 16))).bind fun t2 => ((spec_l1Word.f k x0 (wrap64 (x1 + 24))).bind fun t3 => ((spec_HashBlock.f k x2 x3 x4 x5 t0 t1 t2 t3).bind fun bt0 => (spec_HashOf.l0 k x0 (wrap64 (x1 + 32)) bt0.1 bt0.2.1 bt0.2.2.1 bt0.2.2.2)))))) else (some (x2, x3, x4, x5))
def spec_HashOf.f (k : Nat) (a0 : ByteArray) : Option (Int × Int × Int × Int) := if (a0.size : Int) > 20000 then (some (0, 0, 0, 0)) else ((spec_l1Bare.f k a0).bind fun t0 => ((some (([128] : List Int) : List Int)).bind fun y0 => (if t0.size + (strOfNums y0).size ≤ 9223372036854775807 then ((spec_l1Zeros.f k (Int.tmod (wrap64 (32 - (Int.tmod (wrap64 ((t0.size : Int) + 9)) 32))) 32)).bind fun t1 => (if (t0 ++ (strOfNums y0)).size + t1.size ≤ 9223372036854775807 then ((spec_l1Bytes.f k (IntKind.u64.wrap ((t0.size : Int)))).bind fun t2 => (if ((t0 ++ (strOfNums y0)) ++ t1).size + t2.size ≤ 9223372036854775807 then (spec_HashOf.l0 k (((t0 ++ (strOfNums y0)) ++ t1) ++ t2) 0 13971524466476933880 3286059910148148165 8210247237615983910 11412903256176698835) else (none))) else (none))) else (none))))
def spec_HashOf.T5 : TT_ := (true, [([], []), ([], []), ([1], [1]), ([0, 2], [0, 2]), ([], []), ([4], [4]), ([3, 5], [3, 5]), ([], []), ([7], [7]), ([8], [8]), ([9, 5], [9]), ([6, 10], [6, 10]), ([11, 10, 0, 1, 2, 3, 4, 5, 6, 7, 8, 9, 10, 11], [11])])
def spec_HashOf.B5 : List Nat := [0, 0, 2, 7, 0, 16, 63, 0, 128, 384, 944, 2047, 4095]
theorem spec_HashOf.tab5 : rtab .any (opsOf Try.f72 5) = spec_HashOf.T5 := by kernel_rfl
theorem spec_HashOf.bits5 : waitsOk spec_HashOf.T5.2 spec_HashOf.B5 = true := by kernel_rfl
def spec_HashOf.T10 : TT_ := (true, [([], []), ([], []), ([], []), ([1, 2], [1, 2]), ([], []), ([], []), ([5], [5]), ([4, 6, 3], [4, 6]), ([], []), ([], []), ([9], [9]), ([8, 10, 7], [8, 10]), ([], []), ([], []), ([13], [13]), ([12, 14, 11], [12, 14]), ([3, 7, 11, 15], [3, 7, 11, 15]), ([0, 16, 15], [0, 16]), ([17, 17, 0, 1, 2, 3, 4, 5, 6, 7, 8, 9, 10, 11, 12, 13, 14, 15, 16, 17], [17])])
def spec_HashOf.B10 : List Nat := [0, 0, 0, 6, 0, 0, 32, 126, 0, 0, 512, 2046, 0, 0, 8192, 32766, 65534, 131071, 262143]
theorem spec_HashOf.tab10 : rtab .any (opsOf Try.f72 10) = spec_HashOf.T10 := by kernel_rfl
theorem spec_HashOf.bits10 : waitsOk spec_HashOf.T10.2 spec_HashOf.B10 = true := by kernel_rfl
theorem spec_HashOf.calls (k : Nat) (a0 : ByteArray) (r0 r1 r2 r3 : Int) (w : World) (h : spec_HashOf.f k a0 = some (r0, r1, r2, r3)) :
  Calls Try.prog 72 #[.string a0] w fun e w' => e = .returned (.agg #[.int .u64 r0, .int .u64 r1, .int .u64 r2, .int .u64 r3]) ∧ Below w.heap.size w w' := by
 have hu29 := Try.underlying29
 have HB := rB_ w
 have H := h
 unfold spec_HashOf.f at H
 clear h
 by_cases c2 : (a0.size : Int) > 20000
 ·rw [if_pos c2] at H
  have c12 : decide (20000 < (a0.size : Int)) = true := decide_eq_true c2
  have c13 : decide (20000 < a0.size) = true := decide_eq_true (by omega)
  clear c2
  simp only [Option.some.injEq, Prod.mk.injEq] at H
  obtain ⟨rfl, rfl, rfl, rfl⟩ := H
  go_enter Try.func72, Try.ntmps72
  go_wp2_with (first | (refine bx_ 2 #[.int .u64 0, .int .u64 0, .int .u64 0, .int .u64 0] 29 ?_; intro gb0 w14 hg hb BK0 GW0; replace HB := s_ hb; clear hb hg; obtain ⟨z4, z5, z6, z7, f4, f5, f6, f7⟩ := cz4_ BK0.out))
  refine bodyPost_ret (results_cell_row rfl _ _ gb0 29 #[.int .u64 0, .int .u64 0, .int .u64 0, .int .u64 0] (0, 0) _ rfl (blkF_ BK0.out) Try.underlying29 rfl (by kernel_rfl)) rfl ?_
  exact ⟨rfl_, bel_⟩
 ·rw [if_neg c2] at H
  have c12 : decide (20000 < (a0.size : Int)) = false := decide_eq_false c2
  have c13 : decide (20000 < a0.size) = false := decide_eq_false (by omega)
  clear c2
  obtain ⟨t0, A7, H⟩ := bnd_ H
  obtain ⟨y0, hy0⟩ : ∃ y_ : List Int, y_ = (([128] : List Int)) := ⟨_, rfl⟩
  replace H : (if t0.size + (strOfNums y0).size ≤ 9223372036854775807 then ((spec_l1Zeros.f k (Int.tmod (wrap64 (32 - (Int.tmod (wrap64 ((t0.size : Int) + 9)) 32))) 32)).bind fun t1 => (if (t0 ++ (strOfNums y0)).size + t1.size ≤ 9223372036854775807 then ((spec_l1Bytes.f k (IntKind.u64.wrap ((t0.size : Int)))).bind fun t2 => (if ((t0 ++ (strOfNums y0)) ++ t1).size + t2.size ≤ 9223372036854775807 then (spec_HashOf.l0 k (((t0 ++ (strOfNums y0)) ++ t1) ++ t2) 0 13971524466476933880 3286059910148148165 8210247237615983910 11412903256176698835) else (none))) else (none))) else (none)) = some (r0, r1, r2, r3) := rpl_ hy0 H
  have Ny0 := a_ hy0
  clear hy0
  obtain ⟨c6, H⟩ := ifn_ H
  have c17 := eq_true c6
  have c18 := decide_eq_true c6
  try have c19 : (9223372036854775807 < t0.size + (strOfNums y0).size) = False := eq_false (Nat.not_lt.2 c6)
  obtain ⟨t1, A0, H⟩ := bnd_ H
  obtain ⟨c8, H⟩ := ifn_ H
  have c20 := eq_true c8
  have c14 := decide_eq_true c8
  try (have c8b1n := c14; simp only [ByteArray.size_append, Int.natCast_add] at c8b1n)
  try have c21 : (9223372036854775807 < (t0 ++ (strOfNums y0)).size + t1.size) = False := eq_false (Nat.not_lt.2 c8)
  obtain ⟨t2, A1, H⟩ := bnd_ H
  obtain ⟨c10, H⟩ := ifn_ H
  have c15 := eq_true c10
  have c11 := decide_eq_true c10
  try (have c10b1n := c11; simp only [ByteArray.size_append, Int.natCast_add] at c10b1n)
  try have c16 : (9223372036854775807 < ((t0 ++ (strOfNums y0)) ++ t1).size + t2.size) = False := eq_false (Nat.not_lt.2 c10)
  have H' := a_ H
  clear H
  go_enter Try.func72, Try.ntmps72
  try go_wp2_with (first | (refine bx_ 2 #[.int .u64 0, .int .u64 0, .int .u64 0, .int .u64 0] 29 ?_; intro gb0 w10 hg hb BK0 GW0; replace HB := s_ hb; clear hb hg) | (refine gcB_ 114 12 Try.func114 (spec_l1Bare.calls _ _ _ _ A7.out) ?_; intro w7 hb; replace BK0 := bb_ BK0.out hb; replace HB := s_ hb; clear hb))
  replace BK0 := a_ (blk_drew BK0.out)
  replace HB := a_ (below_drew1 HB.out)
  refine start_ (n := 13) (S := fun w' => True) (ds := []) #[false, false, false, false, false, false, false, false, false, false, false, false, false] (by kernel_rfl) rfl rfl trivial (fun hHeld => ?_); refine with_tabW spec_HashOf.tab5 spec_HashOf.bits5 (fun HT HW_ => ?_)
  generalize w7.drew = w11 at BK0 HB hHeld ⊢
  refine pureZ_ 0 (some 19) (b_ 13 1) HT ?_
  refine pureZ_ 4 (some 23) (b_ 13 17) HT ?_
  refine pureZ_ 7 (some 26) (b_ 13 145) HT ?_
  refine pureZ_ 8 (some 27) (b_ 13 401) HT ?_
  refine pureZ_ 9 (some 28) (b_ 13 913) HT ?_
  refine join_ (σ := Value) 2 (b_ 13 2047) (fun s_ => [(20, s_), (21, .string (strOfNums y0)), (24, .string t1), (29, .string t2), (22, .string (t0 ++ (strOfNums y0))), (25, .string ((t0 ++ (strOfNums y0)) ++ t1))]) (fun s_ w' => (Kd.R (Kd.int .u8) 5 w' w.heap.size (fun _ => True) s_ y0) ∧ (w'.heap[gb0]? = some (.cells #[.int .u64 0, .int .u64 0, .int .u64 0, .int .u64 0] 29 (0, 0))) ∧ (Below w.heap.size w w')) ?_ ?_
  rotate_left
  ·intro hJ1_2_5_10
   refine join_ (σ := Value) 3 (b_ 13 1023) (fun s_ => [(20, s_), (21, .string (strOfNums y0)), (24, .string t1), (22, .string (t0 ++ (strOfNums y0))), (25, .string ((t0 ++ (strOfNums y0)) ++ t1))]) (fun s_ w' => (Kd.R (Kd.int .u8) 5 w' w.heap.size (fun _ => True) s_ y0) ∧ (w'.heap[gb0]? = some (.cells #[.int .u64 0, .int .u64 0, .int .u64 0, .int .u64 0] 29 (0, 0))) ∧ (Below w.heap.size w w')) ?_ ?_
   rotate_left
   ·intro hJ1_2_5
    refine join_ (σ := Value) 5 (b_ 13 1971) (fun s_ => [(20, s_), (24, .string t1), (29, .string t2)]) (fun s_ w' => (Kd.R (Kd.int .u8) 5 w' w.heap.size (fun _ => True) s_ y0) ∧ (w'.heap[gb0]? = some (.cells #[.int .u64 0, .int .u64 0, .int .u64 0, .int .u64 0] 29 (0, 0))) ∧ (Below w.heap.size w w')) ?_ ?_
    rotate_left
    ·intro hJ1_5_10
     refine join_ (σ := Value) 5 (b_ 13 927) (fun s_ => [(20, s_), (21, .string (strOfNums y0)), (22, .string (t0 ++ (strOfNums y0)))]) (fun s_ w' => (Kd.R (Kd.int .u8) 5 w' w.heap.size (fun _ => True) s_ y0) ∧ (w'.heap[gb0]? = some (.cells #[.int .u64 0, .int .u64 0, .int .u64 0, .int .u64 0] 29 (0, 0))) ∧ (Below w.heap.size w w')) ?_ ?_
     rotate_left
     ·intro hJ1_2
      refine join_ (σ := Value) 6 (b_ 13 947) (fun s_ => [(20, s_), (24, .string t1)]) (fun s_ w' => (Kd.R (Kd.int .u8) 5 w' w.heap.size (fun _ => True) s_ y0) ∧ (w'.heap[gb0]? = some (.cells #[.int .u64 0, .int .u64 0, .int .u64 0, .int .u64 0] 29 (0, 0))) ∧ (Below w.heap.size w w')) ?_ ?_
      rotate_left
      ·intro hJ1_5
       refine join_ (σ := Unit) 6 (b_ 13 1969) (fun s_ => [(24, .string t1), (29, .string t2)]) (fun s_ w' => (w'.heap[gb0]? = some (.cells #[.int .u64 0, .int .u64 0, .int .u64 0, .int .u64 0] 29 (0, 0))) ∧ (Below w.heap.size w w')) ?_ ?_
       rotate_left
       ·intro hJ5_10
        refine join_ (σ := Value) 7 (b_ 13 915) (fun s_ => [(20, s_)]) (fun s_ w' => (Kd.R (Kd.int .u8) 5 w' w.heap.size (fun _ => True) s_ y0) ∧ (w'.heap[gb0]? = some (.cells #[.int .u64 0, .int .u64 0, .int .u64 0, .int .u64 0] 29 (0, 0))) ∧ (Below w.heap.size w w')) ?_ ?_
        rotate_left
        ·intro hJ1
         refine join_ (σ := Unit) 7 (b_ 13 945) (fun s_ => [(24, .string t1)]) (fun s_ w' => (w'.heap[gb0]? = some (.cells #[.int .u64 0, .int .u64 0, .int .u64 0, .int .u64 0] 29 (0, 0))) ∧ (Below w.heap.size w w')) ?_ ?_
         rotate_left
         ·intro hJ5
          refine two_ (i := 1) (j := 5) (Ni := some 20) (Nj := some 24) (b_ 13 915) (b_ 13 945) rfl rfl rfl rfl (two_of HT.out (by kernel_rfl)) (by decide) (by decide) (fun K hK => ?_) (fun K hK => ?_)
          ·skip
           refine Kd.R_lit_step (Kd.int .u8) _ 5 ?hg (N := 20) ?hd (xs := ([128] : List Int)) (inner := [.int .u8 128]) (ok := fun _ => True) (okp := fun _ => True) ?hr ?hp (fun _ hk => hk) trivial (Below.refl _ _) (Nat.le_refl _) (by simp) ?_; (case hd => rfl); (case hg => rfl); (case hr => first | (go_simp; done) | (go_simp; rfl)); (case hp => exact (Reps.one (show Kd.M (Kd.int .u8) _ _ _ 128 [.int .u8 128] from rfl) (Reps.none _ _)))
           intro v0 w9 ho0 hb hg_ hnew_
           clear hg_ hnew_
           (first | rw [← Ny0.out] at ho0 | (simp only [Int.reduceToNat] at ho0; rw [← Ny0.out] at ho0))
           have HO0 := a_ (Kd.R_lower ho0 (below_size bel_))
           replace BK0 := bb_ BK0.out hb
           replace HB := s_ hb
           clear hb ho0
           refine hK.out _ _ trivial (fun hHeld => ?_)
           clear hK K
           refine normP_ (some 20) ?_
           exact jn_ (hJ1 (v0) _ ⟨(kdU_ HO0.out), (blkU_ BK0.out), bel_⟩)
          ·skip
           refine goN_ Try.func115 #[.int .i64 (Int.tmod (wrap64 (32 - (Int.tmod (wrap64 ((t0.size : Int) + 9)) 32))) 32)] ?_
           with_reducible refine (spec_l1Zeros.calls _ _ _ _ A0.out).mono ?_
           rintro e w9 ⟨rfl, hb⟩
           refine ⟨_, rfl, ?_⟩
           replace BK0 := bb_ BK0.out hb
           replace HB := s_ hb
           (try clear hb)
           refine hK.out _ _ trivial (fun hHeld => ?_)
           clear hK K
           refine normP_ (some 24) ?_
           exact jn_ (hJ5 () _ ⟨(blkU_ BK0.out), bel_⟩)
         ·skip
          rintro _ w6 ⟨h0_, h1_⟩
          have n0_ : Aside0 (w6.heap[gb0]? = some (.cells #[.int .u64 0, .int .u64 0, .int .u64 0, .int .u64 0] 29 (0, 0))) := ⟨h0_⟩
          have n1_ : Aside0 (Below w.heap.size w w6) := ⟨h1_⟩
          clear BK0
          clear HB
          clear h0_ h1_
          have BK0 := n0_
          have HB := n1_
          clear n0_ n1_
          have hHeld := trivial
          refine norm_ (a' := ?_) ?_ ?_
          rotate_left
          ·simp only [putAll, Act.put, List.setIfInBounds_toArray, List.set_cons_zero, List.set_cons_succ]
           rfl
          refine two_ (i := 1) (j := 10) (Ni := some 20) (Nj := some 29) (b_ 13 947) (b_ 13 1969) rfl rfl rfl rfl (two_of HT.out (by kernel_rfl)) (by decide) (by decide) (fun K hK => ?_) (fun K hK => ?_)
          ·skip
           refine Kd.R_lit_step (Kd.int .u8) _ 5 ?hg (N := 20) ?hd (xs := ([128] : List Int)) (inner := [.int .u8 128]) (ok := fun _ => True) (okp := fun _ => True) ?hr ?hp (fun _ hk => hk) trivial (Below.refl _ _) (Nat.le_refl _) (by simp) ?_; (case hd => rfl); (case hg => rfl); (case hr => first | (go_simp; done) | (go_simp; rfl)); (case hp => exact (Reps.one (show Kd.M (Kd.int .u8) _ _ _ 128 [.int .u8 128] from rfl) (Reps.none _ _)))
           intro v0 w3 ho1 hb hg_ hnew_
           clear hg_ hnew_
           (first | rw [← Ny0.out] at ho1 | (simp only [Int.reduceToNat] at ho1; rw [← Ny0.out] at ho1))
           have HO0 := a_ (Kd.R_lower ho1 (below_size bel_))
           replace BK0 := bb_ BK0.out hb
           replace HB := s_ hb
           clear hb ho1
           refine hK.out _ _ trivial (fun hHeld => ?_)
           clear hK K
           refine normP_ (some 20) ?_
           exact jn_ (hJ1_5 (v0) _ ⟨(kdU_ HO0.out), (blkU_ BK0.out), bel_⟩)
          ·skip
           refine goN_ Try.func116 #[.int .u64 (IntKind.u64.wrap ((t0.size : Int)))] ?_
           with_reducible refine (spec_l1Bytes.calls _ _ _ _ A1.out).mono ?_
           rintro e w3 ⟨rfl, hb⟩
           refine ⟨_, rfl, ?_⟩
           replace BK0 := bb_ BK0.out hb
           replace HB := s_ hb
           (try clear hb)
           refine hK.out _ _ trivial (fun hHeld => ?_)
           clear hK K
           refine normP_ (some 29) ?_
           exact jn_ (hJ5_10 () _ ⟨(blkU_ BK0.out), bel_⟩)
        ·skip
         rintro v0 w3 ⟨h0_, h1_, h2_⟩
         have n0_ : Aside0 (Kd.R (Kd.int .u8) 5 w3 w.heap.size (fun _ => True) v0 y0) := ⟨h0_⟩
         have n1_ : Aside0 (w3.heap[gb0]? = some (.cells #[.int .u64 0, .int .u64 0, .int .u64 0, .int .u64 0] 29 (0, 0))) := ⟨h1_⟩
         have n2_ : Aside0 (Below w.heap.size w w3) := ⟨h2_⟩
         clear BK0
         clear HB
         clear h0_ h1_ h2_
         have HO0 := n0_
         have BK0 := n1_
         have HB := n2_
         clear n0_ n1_ n2_
         have hHeld := trivial
         refine norm_ (a' := ?_) ?_ ?_
         rotate_left
         ·simp only [putAll, Act.put, List.setIfInBounds_toArray, List.set_cons_zero, List.set_cons_succ]
          rfl
         refine two_ (i := 2) (j := 5) (Ni := some 21) (Nj := some 24) (b_ 13 919) (b_ 13 947) rfl rfl rfl rfl (two_of HT.out (by kernel_rfl)) (by decide) (by decide) (fun K hK => ?_) (fun K hK => ?_)
         ·skip
          have hcv0 := own_string (P := Try.prog) Try.underlying60 Try.underlying5 Try.underlying9 (Kd.own_of_R HO0.out)
          refine value_ (w1 := ?_) (v := ?_) (by rfl) rfl ?_ ?_
          rotate_left 2
          ·go_simp
           constructor
           ·rfl
           ·rfl
          clear hcv0
          refine hK.out _ _ trivial (fun hHeld => ?_)
          clear hK K
          refine normP_ (some 21) ?_
          refine pureZ_ 3 (some 22) (b_ 13 927) HT ?_
          exact jn_ (hJ1_2 (v0) _ ⟨(kdU_ HO0.out), (blkU_ BK0.out), bel_⟩)
         ·skip
          refine goN_ Try.func115 #[.int .i64 (Int.tmod (wrap64 (32 - (Int.tmod (wrap64 ((t0.size : Int) + 9)) 32))) 32)] ?_
          with_reducible refine (spec_l1Zeros.calls _ _ _ _ A0.out).mono ?_
          rintro e w1 ⟨rfl, hb⟩
          refine ⟨_, rfl, ?_⟩
          replace HO0 := rb_ HO0.out hb
          replace BK0 := bb_ BK0.out hb
          replace HB := s_ hb
          (try clear hb)
          refine hK.out _ _ trivial (fun hHeld => ?_)
          clear hK K
          refine normP_ (some 24) ?_
          exact jn_ (hJ1_5 (v0) _ ⟨(kdU_ HO0.out), (blkU_ BK0.out), bel_⟩)
       ·skip
        rintro _ w3 ⟨h0_, h1_⟩
        have n0_ : Aside0 (w3.heap[gb0]? = some (.cells #[.int .u64 0, .int .u64 0, .int .u64 0, .int .u64 0] 29 (0, 0))) := ⟨h0_⟩
        have n1_ : Aside0 (Below w.heap.size w w3) := ⟨h1_⟩
        clear BK0
        clear HB
        clear h0_ h1_
        have BK0 := n0_
        have HB := n1_
        clear n0_ n1_
        have hHeld := trivial
        refine norm_ (a' := ?_) ?_ ?_
        rotate_left
        ·simp only [putAll, Act.put, List.setIfInBounds_toArray, List.set_cons_zero, List.set_cons_succ]
         rfl
        refine oneP_ 1 (some 20) (b_ 13 1971) HT (fun K hK => ?_)
        refine Kd.R_lit_step (Kd.int .u8) _ 5 ?hg (N := 20) ?hd (xs := ([128] : List Int)) (inner := [.int .u8 128]) (ok := fun _ => True) (okp := fun _ => True) ?hr ?hp (fun _ hk => hk) trivial (Below.refl _ _) (Nat.le_refl _) (by simp) ?_; (case hd => rfl); (case hg => rfl); (case hr => first | (go_simp; done) | (go_simp; rfl)); (case hp => exact (Reps.one (show Kd.M (Kd.int .u8) _ _ _ 128 [.int .u8 128] from rfl) (Reps.none _ _)))
        intro v0 w1 ho2 hb hg_ hnew_
        clear hg_ hnew_
        (first | rw [← Ny0.out] at ho2 | (simp only [Int.reduceToNat] at ho2; rw [← Ny0.out] at ho2))
        have HO0 := a_ (Kd.R_lower ho2 (below_size bel_))
        replace BK0 := bb_ BK0.out hb
        replace HB := s_ hb
        clear hb ho2
        refine hK.out _ _ trivial (fun hHeld => ?_)
        clear hK K
        refine normP_ (some 20) ?_
        exact jn_ (hJ1_5_10 (v0) _ ⟨(kdU_ HO0.out), (blkU_ BK0.out), bel_⟩)
      ·skip
       rintro v0 w1 ⟨h0_, h1_, h2_⟩
       have n0_ : Aside0 (Kd.R (Kd.int .u8) 5 w1 w.heap.size (fun _ => True) v0 y0) := ⟨h0_⟩
       have n1_ : Aside0 (w1.heap[gb0]? = some (.cells #[.int .u64 0, .int .u64 0, .int .u64 0, .int .u64 0] 29 (0, 0))) := ⟨h1_⟩
       have n2_ : Aside0 (Below w.heap.size w w1) := ⟨h2_⟩
       clear BK0
       clear HB
       clear h0_ h1_ h2_
       have HO0 := n0_
       have BK0 := n1_
       have HB := n2_
       clear n0_ n1_ n2_
       have hHeld := trivial
       refine norm_ (a' := ?_) ?_ ?_
       rotate_left
       ·simp only [putAll, Act.put, List.setIfInBounds_toArray, List.set_cons_zero, List.set_cons_succ]
        rfl
       refine two_ (i := 2) (j := 10) (Ni := some 21) (Nj := some 29) (b_ 13 951) (b_ 13 1971) rfl rfl rfl rfl (two_of HT.out (by kernel_rfl)) (by decide) (by decide) (fun K hK => ?_) (fun K hK => ?_)
       ·skip
        have hcv1 := own_string (P := Try.prog) Try.underlying60 Try.underlying5 Try.underlying9 (Kd.own_of_R HO0.out)
        refine value_ (w1 := ?_) (v := ?_) (by rfl) rfl ?_ ?_
        rotate_left 2
        ·go_simp
         constructor
         ·rfl
         ·rfl
        clear hcv1
        refine hK.out _ _ trivial (fun hHeld => ?_)
        clear hK K
        refine normP_ (some 21) ?_
        refine pureZ_ 3 (some 22) (b_ 13 959) HT ?_
        refine pureZ_ 6 (some 25) (b_ 13 1023) HT ?_
        exact jn_ (hJ1_2_5 (v0) _ ⟨(kdU_ HO0.out), (blkU_ BK0.out), bel_⟩)
       ·skip
        refine goN_ Try.func116 #[.int .u64 (IntKind.u64.wrap ((t0.size : Int)))] ?_
        with_reducible refine (spec_l1Bytes.calls _ _ _ _ A1.out).mono ?_
        rintro e w2 ⟨rfl, hb⟩
        refine ⟨_, rfl, ?_⟩
        replace HO0 := rb_ HO0.out hb
        replace BK0 := bb_ BK0.out hb
        replace HB := s_ hb
        (try clear hb)
        refine hK.out _ _ trivial (fun hHeld => ?_)
        clear hK K
        refine normP_ (some 29) ?_
        exact jn_ (hJ1_5_10 (v0) _ ⟨(kdU_ HO0.out), (blkU_ BK0.out), bel_⟩)
     ·skip
      rintro v0 w1 ⟨h0_, h1_, h2_⟩
      have n0_ : Aside0 (Kd.R (Kd.int .u8) 5 w1 w.heap.size (fun _ => True) v0 y0) := ⟨h0_⟩
      have n1_ : Aside0 (w1.heap[gb0]? = some (.cells #[.int .u64 0, .int .u64 0, .int .u64 0, .int .u64 0] 29 (0, 0))) := ⟨h1_⟩
      have n2_ : Aside0 (Below w.heap.size w w1) := ⟨h2_⟩
      clear BK0
      clear HB
      clear h0_ h1_ h2_
      have HO0 := n0_
      have BK0 := n1_
      have HB := n2_
      clear n0_ n1_ n2_
      have hHeld := trivial
      refine norm_ (a' := ?_) ?_ ?_
      rotate_left
      ·simp only [putAll, Act.put, List.setIfInBounds_toArray, List.set_cons_zero, List.set_cons_succ]
       rfl
      refine oneP_ 5 (some 24) (b_ 13 959) HT (fun K hK => ?_)
      refine goN_ Try.func115 #[.int .i64 (Int.tmod (wrap64 (32 - (Int.tmod (wrap64 ((t0.size : Int) + 9)) 32))) 32)] ?_
      with_reducible refine (spec_l1Zeros.calls _ _ _ _ A0.out).mono ?_
      rintro e w2 ⟨rfl, hb⟩
      refine ⟨_, rfl, ?_⟩
      replace HO0 := rb_ HO0.out hb
      replace BK0 := bb_ BK0.out hb
      replace HB := s_ hb
      (try clear hb)
      refine hK.out _ _ trivial (fun hHeld => ?_)
      clear hK K
      refine normP_ (some 24) ?_
      refine pureZ_ 6 (some 25) (b_ 13 1023) HT ?_
      exact jn_ (hJ1_2_5 (v0) _ ⟨(kdU_ HO0.out), (blkU_ BK0.out), bel_⟩)
    ·skip
     rintro v0 w2 ⟨h0_, h1_, h2_⟩
     have n0_ : Aside0 (Kd.R (Kd.int .u8) 5 w2 w.heap.size (fun _ => True) v0 y0) := ⟨h0_⟩
     have n1_ : Aside0 (w2.heap[gb0]? = some (.cells #[.int .u64 0, .int .u64 0, .int .u64 0, .int .u64 0] 29 (0, 0))) := ⟨h1_⟩
     have n2_ : Aside0 (Below w.heap.size w w2) := ⟨h2_⟩
     clear BK0
     clear HB
     clear h0_ h1_ h2_
     have HO0 := n0_
     have BK0 := n1_
     have HB := n2_
     clear n0_ n1_ n2_
     have hHeld := trivial
     refine norm_ (a' := ?_) ?_ ?_
     rotate_left
     ·simp only [putAll, Act.put, List.setIfInBounds_toArray, List.set_cons_zero, List.set_cons_succ]
      rfl
     refine oneP_ 2 (some 21) (b_ 13 1975) HT (fun K hK => ?_)
     have hcv2 := own_string (P := Try.prog) Try.underlying60 Try.underlying5 Try.underlying9 (Kd.own_of_R HO0.out)
     refine value_ (w1 := ?_) (v := ?_) (by rfl) rfl ?_ ?_
     rotate_left 2
     ·go_simp
      constructor
      ·rfl
      ·rfl
     clear hcv2
     refine hK.out _ _ trivial (fun hHeld => ?_)
     clear hK K
     refine normP_ (some 21) ?_
     refine pureZ_ 3 (some 22) (b_ 13 1983) HT ?_
     refine pureZ_ 6 (some 25) (b_ 13 2047) HT ?_
     exact jn_ (hJ1_2_5_10 (v0) _ ⟨(kdU_ HO0.out), (blkU_ BK0.out), bel_⟩)
   ·skip
    rintro v0 w2 ⟨h0_, h1_, h2_⟩
    have n0_ : Aside0 (Kd.R (Kd.int .u8) 5 w2 w.heap.size (fun _ => True) v0 y0) := ⟨h0_⟩
    have n1_ : Aside0 (w2.heap[gb0]? = some (.cells #[.int .u64 0, .int .u64 0, .int .u64 0, .int .u64 0] 29 (0, 0))) := ⟨h1_⟩
    have n2_ : Aside0 (Below w.heap.size w w2) := ⟨h2_⟩
    clear BK0
    clear HB
    clear h0_ h1_ h2_
    have HO0 := n0_
    have BK0 := n1_
    have HB := n2_
    clear n0_ n1_ n2_
    have hHeld := trivial
    refine norm_ (a' := ?_) ?_ ?_
    rotate_left
    ·simp only [putAll, Act.put, List.setIfInBounds_toArray, List.set_cons_zero, List.set_cons_succ]
     rfl
    refine oneP_ 10 (some 29) (b_ 13 2047) HT (fun K hK => ?_)
    refine goN_ Try.func116 #[.int .u64 (IntKind.u64.wrap ((t0.size : Int)))] ?_
    with_reducible refine (spec_l1Bytes.calls _ _ _ _ A1.out).mono ?_
    rintro e w4 ⟨rfl, hb⟩
    refine ⟨_, rfl, ?_⟩
    replace HO0 := rb_ HO0.out hb
    replace BK0 := bb_ BK0.out hb
    replace HB := s_ hb
    (try clear hb)
    refine hK.out _ _ trivial (fun hHeld => ?_)
    clear hK K
    refine normP_ (some 29) ?_
    exact jn_ (hJ1_2_5_10 (v0) _ ⟨(kdU_ HO0.out), (blkU_ BK0.out), bel_⟩)
  rintro v0 w4 ⟨h0_, h1_, h2_⟩
  have n0_ : Aside0 (Kd.R (Kd.int .u8) 5 w4 w.heap.size (fun _ => True) v0 y0) := ⟨h0_⟩
  have n1_ : Aside0 (w4.heap[gb0]? = some (.cells #[.int .u64 0, .int .u64 0, .int .u64 0, .int .u64 0] 29 (0, 0))) := ⟨h1_⟩
  have n2_ : Aside0 (Below w.heap.size w w4) := ⟨h2_⟩
  clear BK0
  clear HB
  clear h0_ h1_ h2_
  have HO0 := n0_
  have BK0 := n1_
  have HB := n2_
  clear n0_ n1_ n2_
  have hHeld := trivial
  refine norm_ (a' := ?_) ?_ ?_
  rotate_left
  ·simp only [putAll, Act.put, List.setIfInBounds_toArray, List.set_cons_zero, List.set_cons_succ]
   rfl
  refine pureZ_ 11 (some 30) (b_ 13 4095) HT ?_
  refine pureZ_ 12 (some 4) (b_ 13 8191) HT ?_
  refine done_ (done_of HT.out (by kernel_rfl)) ?_
  try go_wp2_with (first | (refine bx_ 5 #[.int .u64 0, .int .u64 0, .int .u64 0, .int .u64 0] 29 ?_; intro gb1 w12 hg hb BK1 GW1; replace HO0 := rb_ HO0.out hb; replace HB := s_ hb; obtain ⟨NB0, NB1⟩ := ne2_ BK0.out hg; replace BK0 := bb_ BK0.out hb; clear hb hg; have hnb0 := NB1.out; have hnc0 := NB0.out; obtain ⟨z0, z1, z2, z3, f0, f1, f2, f3⟩ := cz4_ BK1.out))
  go_loopg [6] k (fun kq v1 w' => ∃ (x0 x1 x2 x3 x4 : Int), v1 = .int .i64 x0 ∧ Aside0 (spec_HashOf.l0 kq (((t0 ++ (strOfNums y0)) ++ t1) ++ t2) x0 x1 x2 x3 x4 = some (r0, r1, r2, r3)) ∧ Aside0 (kq ≤ k) ∧ Aside0 (w'.heap[gb0]? = some (.cells #[.int .u64 0, .int .u64 0, .int .u64 0, .int .u64 0] 29 (0, 0))) ∧ Aside0 (w'.heap[gb1]? = some (.cells #[.int .u64 x1, .int .u64 x2, .int .u64 x3, .int .u64 x4] 29 (0, 0))) ∧ Aside0 (Below w.heap.size w w'))
  case atStart => exact ⟨(0), (13971524466476933880), (3286059910148148165), (8210247237615983910), (11412903256176698835), rl_, H', ⟨Nat.le_refl _⟩, ⟨blkU_ BK0.out⟩, ⟨blkF_ BK1.out⟩, ⟨bel_⟩⟩
  case round =>
   clear H'
   (try clear c2); (try clear c12); (try clear c13); (try clear c6); (try clear c17); (try clear c18); (try clear c19); (try clear c8); (try clear c20); (try clear c14); (try clear c21); (try clear c10); (try clear c15); (try clear c11); (try clear c16); (try clear hcv0); (try clear hcv1); (try clear hcv2); (try clear z0 z1 z2 z3); (try clear z4 z5 z6 z7); (try clear f0 f1 f2 f3); (try clear f4 f5 f6 f7)
   obtain ⟨x0, x1, x2, x3, x4, rfl, HA, HK1, BK0, BK1, HB⟩ := hrel
   cases gk with
   | zero => exact absurd HA.out (by simp [spec_HashOf.l0])
   | succ k1 =>
    have H := HA.out
    clear HA
    simp only [spec_HashOf.l0] at H
    by_cases c0 : x0 < ((((t0 ++ (strOfNums y0)) ++ t1) ++ t2).size : Int)
    ·rw [if_pos c0] at H
     have c1 := decide_eq_true c0
     try (have c23b0n := c1; simp only [ByteArray.size_append, Int.natCast_add] at c23b0n)
     clear c0
     obtain ⟨t3, A2, H⟩ := bnd_ H
     obtain ⟨t4, A3, H⟩ := bnd_ H
     obtain ⟨t5, A4, H⟩ := bnd_ H
     obtain ⟨t6, A5, H⟩ := bnd_ H
     obtain ⟨⟨t7, t8, t9, t10⟩, A6, H⟩ := bnd_ H
     dsimp only at H
     have H' := a_ H
     clear H
     try go_wp2
     replace BK0 := a_ (blk_drew BK0.out)
     replace BK1 := a_ (blk_drew BK1.out)
     replace HB := a_ (below_drew1 HB.out)
     refine start_ (n := 19) (S := fun w' => hd4_ w' gb1 (.int .u64 x1) (.int .u64 x2) (.int .u64 x3) (.int .u64 x4)) (ds := [18]) #[false, false, false, false, false, false, false, false, false, false, false, false, false, false, false, false, false, false, false] (by kernel_rfl) rfl rfl (hc4_ BK1.out) (fun hHeld => ?_); refine with_tabW spec_HashOf.tab10 spec_HashOf.bits10 (fun HT HW_ => ?_)
     generalize wr.drew = w13 at BK0 BK1 HB hHeld ⊢
     refine pureZ_ 1 (some 39) (b_ 19 2) HT ?_
     refine pureZ_ 2 (some 40) (b_ 19 6) HT ?_
     refine pureZ_ 4 (some 42) (b_ 19 22) HT ?_
     refine pureZ_ 5 (some 43) (b_ 19 54) HT ?_
     refine pureZ_ 6 (some 44) (b_ 19 118) HT ?_
     refine pureZ_ 8 (some 46) (b_ 19 374) HT ?_
     refine pureZ_ 9 (some 47) (b_ 19 886) HT ?_
     refine pureZ_ 10 (some 48) (b_ 19 1910) HT ?_
     refine pureZ_ 12 (some 50) (b_ 19 6006) HT ?_
     refine pureZ_ 13 (some 51) (b_ 19 14198) HT ?_
     refine pureZ_ 14 (some 52) (b_ 19 30582) HT ?_
     refine qT_ 0 38 19 30583 ?_
     refine oneP_ 3 (some 41) (b_ 19 30591) HT (fun K hK => ?_)
     refine goN_ Try.func118 #[.string (((t0 ++ (strOfNums y0)) ++ t1) ++ t2), .int .i64 x0] ?_
     with_reducible refine (spec_l1Word.calls _ _ _ _ _ A2.out).mono ?_
     rintro e w' ⟨rfl, ⟨nd, rfl⟩⟩
     refine ⟨_, rfl, ?_⟩
     refine hK.out _ _ (hc4_ BK1.out) (fun hHeld => ?_)
     clear hK K
     refine normP_ (some 41) ?_
     refine oneP_ 7 (some 45) (b_ 19 30719) HT (fun K hK => ?_)
     refine goN_ Try.func118 #[.string (((t0 ++ (strOfNums y0)) ++ t1) ++ t2), .int .i64 (wrap64 (x0 + 8))] ?_
     with_reducible refine (spec_l1Word.calls _ _ _ _ _ A3.out).mono ?_
     rintro e w' ⟨rfl, ⟨nd, rfl⟩⟩
     refine ⟨_, rfl, ?_⟩
     refine hK.out _ _ (hc4_ BK1.out) (fun hHeld => ?_)
     clear hK K
     refine normP_ (some 45) ?_
     refine oneP_ 11 (some 49) (b_ 19 32767) HT (fun K hK => ?_)
     refine goN_ Try.func118 #[.string (((t0 ++ (strOfNums y0)) ++ t1) ++ t2), .int .i64 (wrap64 (x0 + 16))] ?_
     with_reducible refine (spec_l1Word.calls _ _ _ _ _ A4.out).mono ?_
     rintro e w' ⟨rfl, ⟨nd, rfl⟩⟩
     refine ⟨_, rfl, ?_⟩
     refine hK.out _ _ (hc4_ BK1.out) (fun hHeld => ?_)
     clear hK K
     refine normP_ (some 49) ?_
     refine oneP_ 15 (some 53) (b_ 19 65535) HT (fun K hK => ?_)
     refine goN_ Try.func118 #[.string (((t0 ++ (strOfNums y0)) ++ t1) ++ t2), .int .i64 (wrap64 (x0 + 24))] ?_
     with_reducible refine (spec_l1Word.calls _ _ _ _ _ A5.out).mono ?_
     rintro e w' ⟨rfl, ⟨nd, rfl⟩⟩
     refine ⟨_, rfl, ?_⟩
     refine hK.out _ _ (hc4_ BK1.out) (fun hHeld => ?_)
     clear hK K
     refine normP_ (some 53) ?_
     refine pureZ_ 16 (some 54) (b_ 19 131071) HT ?_
     refine oneP_ 17 (some 55) (b_ 19 262143) HT (fun K hK => ?_)
     refine goN_ Try.func117 #[.agg #[.int .u64 x1, .int .u64 x2, .int .u64 x3, .int .u64 x4], .agg #[.int .u64 t3, .int .u64 t4, .int .u64 t5, .int .u64 t6]] ?_
     with_reducible refine (spec_HashBlock.calls _ _ _ _ _ _ _ _ _ _ _ _ _ _ A6.out).mono ?_
     rintro e w5 ⟨rfl, hb⟩
     refine ⟨_, rfl, ?_⟩
     replace BK0 := bb_ BK0.out hb
     replace BK1 := bb_ BK1.out hb
     replace HB := s_ hb
     (try clear hb)
     refine hK.out _ _ (hc4_ BK1.out) (fun hHeld => ?_)
     clear hK K
     refine normP_ (some 55) ?_
     refine last_ (i := 18) (N := none) (b_ 19 524287) rfl rfl (one_of HT.out (by kernel_rfl)) (by decide) (fun K hK => ?_)
     have hs0 : w5.cell? ⟨gb1, 0, none⟩ = some (.int .u64 x1) := (blk_cell BK1.out 0).trans rfl
     have hfs31 := blk_frozen BK1.out 0
     have hns31_0 := NB0.out
     have hms31_0 := NB1.out
     have hs1 : w5.cell? ⟨gb1, 1, none⟩ = some (.int .u64 x2) := (blk_cell BK1.out 1).trans rfl
     have hfs32 := blk_frozen BK1.out 1
     have hns32_0 := NB0.out
     have hms32_0 := NB1.out
     have hs2 : w5.cell? ⟨gb1, 2, none⟩ = some (.int .u64 x3) := (blk_cell BK1.out 2).trans rfl
     have hfs33 := blk_frozen BK1.out 2
     have hns33_0 := NB0.out
     have hms33_0 := NB1.out
     have hs3 : w5.cell? ⟨gb1, 3, none⟩ = some (.int .u64 x4) := (blk_cell BK1.out 3).trans rfl
     have hfs34 := blk_frozen BK1.out 3
     have hns34_0 := NB0.out
     have hms34_0 := NB1.out
     refine skip_ (w1 := ?_) (by rfl) rfl ?_ ?_
     rotate_left
     ·go_simp
      rfl
     refine hK.out _ _ ?_
     clear hK K
     refine done_ (done_of HT.out (by kernel_rfl)) ?_
     try go_wp2
     go_roundg k1
     case measure => have := HK1.out; omega
     case rel => exact ⟨(wrap64 (x0 + 32)), (t7), (t8), (t9), (t10), rl_, H', ⟨by have := HK1.out; omega⟩, ⟨blkU_ BK0.out⟩, ⟨blkF_ BK1.out⟩, ⟨bel_⟩⟩
    ·rw [if_neg c0] at H
     have c1 := decide_eq_false c0
     try (have c23b0n := c1; simp only [ByteArray.size_append, Int.natCast_add] at c23b0n)
     clear c0
     simp only [Option.some.injEq, Prod.mk.injEq] at H
     obtain ⟨rfl, rfl, rfl, rfl⟩ := H
     have hnb1 := NB1.out
     have hnc1 := NB0.out
     obtain ⟨z8, z9, z10, z11, f8, f9, f10, f11⟩ := cz4_ BK1.out
     obtain ⟨z12, z13, z14, z15, f12, f13, f14, f15⟩ := cz4_ BK0.out
     go_wp2
     refine bodyPost_ret (results_cell_row rfl _ _ gb0 29 #[.int .u64 x1, .int .u64 x2, .int .u64 x3, .int .u64 x4] (0, 0) _ rfl (blkF_ BK0.out) Try.underlying29 rfl (by kernel_rfl)) rfl ?_
     exact ⟨rfl_, bel_⟩
end
end Go.Proofs.Ytflckegggopdnaa.B
