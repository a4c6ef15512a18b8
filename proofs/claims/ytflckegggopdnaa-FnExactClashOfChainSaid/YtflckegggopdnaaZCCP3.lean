/- Texts that this claim's law leans on, without what nothing names. What each says stands at its theorems; conditions stand in them. (Put together by the session's program shake.py; Lean checks it.) -/
import Derived.Test.YtflckegggopdnaaZCCP0
import Derived.Test.YtflckegggopdnaaZCCP2
set_option linter.unusedVariables false
set_option maxHeartbeats 8000000
set_option maxRecDepth 100000
set_option linter.unusedSimpArgs false
namespace Go.Proofs.Ytflckegggopdnaa.B
section
open Go.RowKit Go.Proofs.YtflckegggopdnaaW
section
def binary_bigEndian_AppendUint64.f  (l1 : List Int) (a0 : Int) : Option (List Int) := (some (([(a0 / 72057594037927936) % 256, (a0 / 281474976710656) % 256, (a0 / 1099511627776) % 256, (a0 / 4294967296) % 256, (a0 / 16777216) % 256, (a0 / 65536) % 256, (a0 / 256) % 256, (a0) % 256] : List Int) : List Int)).bind fun y0 => (if l1.length + y0.length < 140737488355328 then (some (l1 ++ y0)) else (none))
theorem binary_bigEndian_AppendUint64.calls  (P1_ : Nat → Prop) (u9000_ : Value) (l1 : List Int) (a0 : Int) (r : List Int) (w0 w : World) (hB : Below w0.heap.size w0 w) (ho1 : Kd.R (Kd.int .u8) 5 w w0.heap.size P1_ u9000_ l1) (h : binary_bigEndian_AppendUint64.f l1 a0 = some r) :
  Calls Try.prog 111 #[.agg #[], u9000_, .int .u64 a0] w fun e w' => ∃ v0_ : Value, e = .returned (v0_) ∧ Kd.R (Kd.int .u8) 5 w' w0.heap.size (fun k_ => (P1_ k_ ∨ w.heap.size ≤ k_)) v0_ r ∧ Below w0.heap.size w0 w' ∧ Kept w w' (fun k_ => P1_ k_) := by
 have hu141 := Try.underlying141
 have HO0 := a_ (show Kd.R (Kd.int .u8) 5 w w0.heap.size (fun k_ => (P1_ k_ ∨ w.heap.size ≤ k_)) u9000_ l1 from Kd.R_mono ho1 (fun k_ hk => (.inl hk)))
 have HK := a_ (Kept.refl w (fun k_ => P1_ k_))
 have HW0 := a_ hB.size
 have HB := a_ hB
 clear hB
 have H : ((some (([(a0 / 72057594037927936) % 256, (a0 / 281474976710656) % 256, (a0 / 1099511627776) % 256, (a0 / 4294967296) % 256, (a0 / 16777216) % 256, (a0 / 65536) % 256, (a0 / 256) % 256, (a0) % 256] : List Int) : List Int)).bind fun y0 => (if l1.length + y0.length < 140737488355328 then (some (l1 ++ y0)) else (none))) = some r := h
 clear h
 obtain ⟨y0, hy0⟩ : ∃ y_ : List Int, y_ = (([(a0 / 72057594037927936) % 256, (a0 / 281474976710656) % 256, (a0 / 1099511627776) % 256, (a0 / 4294967296) % 256, (a0 / 16777216) % 256, (a0 / 65536) % 256, (a0 / 256) % 256, (a0) % 256] : List Int)) := ⟨_, rfl⟩
 replace H : (if l1.length + y0.length < 140737488355328 then (some (l1 ++ y0)) else (none)) = some r := rpl_ hy0 H
 have Ny0 := a_ hy0
 clear hy0
 obtain ⟨c4, H⟩ := ifn_ H
 have LMc0 := a_ c4
 clear c4
 obtain ⟨y1, hy1⟩ : ∃ y_ : List Int, y_ = (l1 ++ y0) := ⟨_, rfl⟩
 replace H : (some y1) = some r := rpl_ hy1 H
 have Ny1 := a_ hy1
 clear hy1
 obtain rfl := Option.some.inj H
 go_enter Try.func111, Try.ntmps111
 go_wp2_with (first | ((with_reducible refine gate_dst (N := 3) rfl ?_); refine boxE_ (cs := #[]) (t := 141) ?_; intro gb0 hg w1 hbox hb; replace HO0 := rb_ HO0.out hb; have BK0 := a_ (hbox); have GW0 := a_ ((by rw [hg]; exact (by first | exact HK.out.1 | exact (show Kept w _ (fun k_ => P1_ k_) from by repeat (first | (with_reducible first | exact HK.out | apply Kept.alloc | apply Kept.drewN | apply Kept.drew) | exact HK.out)).1) : w.heap.size ≤ gb0)); replace HK := a_ (Kept.below (S := (fun k_ => P1_ k_)) (by repeat (first | (with_reducible first | exact HK.out | apply Kept.alloc | apply Kept.drewN | apply Kept.drew) | exact HK.out)) hb); have GE0 := sizeB_ hg; replace HB := s_ hb; clear hb hbox hg) | ((with_reducible refine gate_dst (N := 31) rfl ?_); refine Kd.R_lit (Kd.int .u8) _ 5 ?hg (N := 31) ?hd (xs := ([(a0 / 72057594037927936) % 256, (a0 / 281474976710656) % 256, (a0 / 1099511627776) % 256, (a0 / 4294967296) % 256, (a0 / 16777216) % 256, (a0 / 65536) % 256, (a0 / 256) % 256, (a0) % 256] : List Int)) (inner := [.int .u8 ((a0 / 72057594037927936) % 256), .int .u8 ((a0 / 281474976710656) % 256), .int .u8 ((a0 / 1099511627776) % 256), .int .u8 ((a0 / 4294967296) % 256), .int .u8 ((a0 / 16777216) % 256), .int .u8 ((a0 / 65536) % 256), .int .u8 ((a0 / 256) % 256), .int .u8 ((a0) % 256)]) (ok := fun _ => True) (okp := fun _ => True) ?hr ?hp (fun _ hk => hk) trivial (Below.refl _ _) (Nat.le_refl _) (by simp) ?_; (case hd => rfl); (case hg => rfl); (case hr => first | (go_simp; done) | (go_simp; rfl)); (case hp => exact (Reps.one (show Kd.M (Kd.int .u8) _ _ _ ((a0 / 72057594037927936) % 256) [.int .u8 ((a0 / 72057594037927936) % 256)] from rfl) (Reps.one (show Kd.M (Kd.int .u8) _ _ _ ((a0 / 281474976710656) % 256) [.int .u8 ((a0 / 281474976710656) % 256)] from rfl) (Reps.one (show Kd.M (Kd.int .u8) _ _ _ ((a0 / 1099511627776) % 256) [.int .u8 ((a0 / 1099511627776) % 256)] from rfl) (Reps.one (show Kd.M (Kd.int .u8) _ _ _ ((a0 / 4294967296) % 256) [.int .u8 ((a0 / 4294967296) % 256)] from rfl) (Reps.one (show Kd.M (Kd.int .u8) _ _ _ ((a0 / 16777216) % 256) [.int .u8 ((a0 / 16777216) % 256)] from rfl) (Reps.one (show Kd.M (Kd.int .u8) _ _ _ ((a0 / 65536) % 256) [.int .u8 ((a0 / 65536) % 256)] from rfl) (Reps.one (show Kd.M (Kd.int .u8) _ _ _ ((a0 / 256) % 256) [.int .u8 ((a0 / 256) % 256)] from rfl) (Reps.one (show Kd.M (Kd.int .u8) _ _ _ ((a0) % 256) [.int .u8 ((a0) % 256)] from rfl) (Reps.none _ _)))))))))); intro v0 w2 ho0 hb hg_ hnew_; clear hg_ hnew_; (first | rw [← Ny0.out] at ho0 | (simp only [Int.reduceToNat] at ho0; rw [← Ny0.out] at ho0)); have HO1 := a_ (Kd.R_lower (Kd.R_new' (Kd.R_newM (M := fun k_ => (P1_ k_ ∨ w.heap.size ≤ k_)) ho0 (by first | exact HK.out.1 | exact (show Kept w _ (fun k_ => P1_ k_) from by repeat (first | (with_reducible first | exact HK.out | apply Kept.alloc | apply Kept.drewN | apply Kept.drew | refine Kept.setCell ?_ (.inr GW0.out) _) | exact HK.out)).1) (fun k_ h_ => .inr h_)) (Kd.R_lt (kdU_ HO0.out))) (below_size bel_)); replace HO0 := a_ (Kd.R_elder' (kdU_ HO0.out) (Kd.R_base ho0) hb); replace BK0 := bb_ BK0.out hb; replace HK := a_ (Kept.below (S := (fun k_ => P1_ k_)) (by repeat (first | (with_reducible first | exact HK.out | apply Kept.alloc | apply Kept.drewN | apply Kept.drew | refine Kept.setCell ?_ (.inr GW0.out) _) | exact HK.out)) hb); replace HB := s_ hb; clear hb ho0; obtain ⟨Ao0, co0, eo0⟩ := Kd.R_slice HO1.out; subst eo0) | ((with_reducible refine gate_builtin (b := .append) (xs := #[.tmp 7, .tmp 31]) rfl ?_); at_builtin; refine Kd.R_append_rows (Kd.int .u8) (w0 := w0) w0.heap.size rfl (.tmp 7) (.tmp 31) 60 5 (.int .u8 0) 1 rfl Try.underlying60 info5 rfl (by decide) (by omega) u9000_ l1 y0 _ _ _ (fun k_ => (P1_ k_ ∨ w.heap.size ≤ k_) ∧ some k_ ≠ (.slice Ao0 y0.length co0 : Value).ownBlock) (fun _ => False) rfl rfl ?aO ?aR (fun _ _ h => h) (fun _ h => h.elim) ?aF ?aB ?aS ?aL ?_; (case aR => repeat (first | exact (Kd.R_reads' HO1.out).2.2 | (with_reducible refine Kd.C_alloc ?_ _) | (with_reducible refine Kd.C_drewN ?_ _) | (with_reducible refine Kd.C_drew ?_))); (case aB => exact bel_); (case aF => exact (fun k_ hk => ⟨(.inr (Nat.le_trans (by first | exact HK.out.1 | exact (show Kept w _ (fun k_ => P1_ k_) from by repeat (first | (with_reducible first | exact HK.out | apply Kept.alloc | apply Kept.drewN | apply Kept.drew | refine Kept.setCell ?_ (.inr GW0.out) _) | exact HK.out)).1) hk)), Kd.fresh' (Kd.R_lt (kdU_ HO1.out)) k_ hk⟩)); (case aO => exact (kdU_ HO0.out)); (case aS => exact (below_size bel_)); (case aL => have := LMc0.out; omega); intro v1 w8 ho hb hg hat; rw [← Ny1.out] at ho; replace BK0 := a_ (blk_grown (g := gb0) (o := .cells #[] 141 (0, 0)) (blkU_ BK0.out) hg (Kd.R_ne HO0.out BK0.out (by decide))); replace HO1 := a_ (Kd.R_after (ok := (fun k_ => (P1_ k_ ∨ w.heap.size ≤ k_))) (uR_ (Kd.R_mono HO1.out (fun _ hk => ⟨hk.1.1, hk.2⟩))) hg hat); replace HB := a_ (hb); replace HK := a_ (Kept.of_grown (S := (fun k_ => P1_ k_)) hg (by repeat (first | (with_reducible first | exact HK.out | apply Kept.alloc | apply Kept.drewN | apply Kept.drew | refine Kept.setCell ?_ (.inr GW0.out) _) | exact HK.out)) (fun k_ e_ => (HO0.out.1 k_ e_).1)); have HO2 := a_ (ho); clear HO0; clear ho hb hg hat))
 go_ret
 exact ⟨_, rfl_, uR_ (Kd.R_mono HO2.out (fun _ hk => hk.1)), bel_, by repeat (first | (with_reducible first | exact HK.out | apply Kept.alloc | apply Kept.drewN | apply Kept.drew | refine Kept.setCell ?_ (.inr GW0.out) _) | exact HK.out)⟩
end
section
def bits_RotateLeft64.f (a1 a0 : Int) : Option (Int) := if 0 ≤ (Go.bits .and .u64 (IntKind.u64.wrap (a0)) 63) then (if 0 ≤ (IntKind.u64.wrap (64 - (Go.bits .and .u64 (IntKind.u64.wrap (a0)) 63))) then (some (Go.bits .or .u64 (shl .u64 a1 (Go.bits .and .u64 (IntKind.u64.wrap (a0)) 63)) (shr .u64 a1 (IntKind.u64.wrap (64 - (Go.bits .and .u64 (IntKind.u64.wrap (a0)) 63)))))) else (none)) else (none)
theorem bits_RotateLeft64.calls (a0 a1 r : Int) (w : World) (h : bits_RotateLeft64.f a0 a1 = some r) :
  Calls Try.prog 128 #[.int .u64 a0, .int .i64 a1] w fun e w' => e = .returned (.int .u64 r) ∧ Drawn0 w w' := by
 have H := h
 unfold bits_RotateLeft64.f at H
 clear h
 obtain ⟨ji3, hji3⟩ : ∃ j_ : Int, (Go.bits .and .u64 (IntKind.u64.wrap (a1)) 63) = j_ := ⟨_, rfl⟩
 replace H : (if 0 ≤ (ji3) then (if 0 ≤ (IntKind.u64.wrap (64 - (ji3))) then (some (Go.bits .or .u64 (shl .u64 a0 (ji3)) (shr .u64 a0 (IntKind.u64.wrap (64 - (ji3)))))) else (none)) else (none)) = some r := by first | (rw [hji3] at H; exact H) | (simp only [hji3] at H ⊢; exact H)
 obtain ⟨c4, H⟩ := ifn_ H
 have c0 := eq_true c4
 have c1 := decide_eq_true c4
 clear c4
 obtain ⟨ji5, hji5⟩ : ∃ j_ : Int, (shl .u64 a0 (ji3)) = j_ := ⟨_, rfl⟩
 replace H : (if 0 ≤ (IntKind.u64.wrap (64 - (ji3))) then (some (Go.bits .or .u64 (ji5) (shr .u64 a0 (IntKind.u64.wrap (64 - (ji3)))))) else (none)) = some r := by first | (rw [hji5] at H; exact H) | (simp only [hji5] at H ⊢; exact H)
 have hji5_ : (IntKind.u64.wrap (a0 * 2 ^ min (ji3).toNat 64)) = ji5 := hji5
 have hji5z : (ji3) ≤ 64 → (IntKind.u64.wrap (a0 * 2 ^ (ji3).toNat)) = ji5 := shl_small hji5
 obtain ⟨ji6, hji6⟩ : ∃ j_ : Int, (IntKind.u64.wrap (64 - (ji3))) = j_ := ⟨_, rfl⟩
 replace H : (if 0 ≤ (ji6) then (some (Go.bits .or .u64 (ji5) (shr .u64 a0 (ji6)))) else (none)) = some r := by first | (rw [hji6] at H; exact H) | (simp only [hji6] at H ⊢; exact H)
 obtain ⟨c7, H⟩ := ifn_ H
 have c11 := eq_true c7
 have c12 := decide_eq_true c7
 clear c7
 obtain ⟨ji8, hji8⟩ : ∃ j_ : Int, (shr .u64 a0 (ji6)) = j_ := ⟨_, rfl⟩
 replace H : (some (Go.bits .or .u64 (ji5) (ji8))) = some r := by first | (rw [hji8] at H; exact H) | (simp only [hji8] at H ⊢; exact H)
 have hji8_ : (a0 / 2 ^ min (ji6).toNat 64) = ji8 := hji8
 have hji8z : (ji6) ≤ 64 → (a0 / 2 ^ (ji6).toNat) = ji8 := shr_small hji8
 obtain rfl := Option.some.inj H
 go_enter Try.func128, Try.ntmps128
 go_wp2
 go_ret
 exact ⟨by first | rfl | (simp; done) | (simp only [← hji3, ← hji5, ← hji6, ← hji8] <;> (first | rfl | simp)) | (simp [*]; done), by repeat (first | exact Drawn0.refl _ | apply Drawn0.step)⟩
end
section
def binary_bigEndian_Uint64.f  (l1 : List Int) : Option (Int) := if 7 < (l1.length : Int) then (if 6 < (l1.length : Int) then (if 5 < (l1.length : Int) then (if 4 < (l1.length : Int) then (if 3 < (l1.length : Int) then (if 2 < (l1.length : Int) then (if 1 < (l1.length : Int) then (if 0 < (l1.length : Int) then (some (Go.bits .or .u64 (Go.bits .or .u64 (Go.bits .or .u64 (Go.bits .or .u64 (Go.bits .or .u64 (Go.bits .or .u64 (Go.bits .or .u64 (IntKind.u64.wrap (rd l1 7)) (IntKind.u64.wrap ((IntKind.u64.wrap (rd l1 6)) * 256))) (IntKind.u64.wrap ((IntKind.u64.wrap (rd l1 5)) * 65536))) (IntKind.u64.wrap ((IntKind.u64.wrap (rd l1 4)) * 16777216))) (IntKind.u64.wrap ((IntKind.u64.wrap (rd l1 3)) * 4294967296))) (IntKind.u64.wrap ((IntKind.u64.wrap (rd l1 2)) * 1099511627776))) (IntKind.u64.wrap ((IntKind.u64.wrap (rd l1 1)) * 281474976710656))) (IntKind.u64.wrap ((IntKind.u64.wrap (rd l1 0)) * 72057594037927936)))) else (none)) else (none)) else (none)) else (none)) else (none)) else (none)) else (none)) else (none)
theorem binary_bigEndian_Uint64.calls  (A0 : Option Addr) (c0 : Nat) (l1 : List Int) (r : Int) (w : World) (hr1 : Kd.C (Kd.int .u8) w A0 l1.length l1) (hc1 : l1.length ≤ c0) (h : binary_bigEndian_Uint64.f l1 = some r) :
  Calls Try.prog 129 #[.agg #[], .slice A0 l1.length c0] w fun e w' => e = .returned (.int .u64 r) ∧ Below w.heap.size w w' := by
 have hu141 := Try.underlying141
 have HR1 := a_ hr1
 have HC1 := a_ hc1
 clear hr1 hc1
 have HB := rB_ w
 have H : (if 7 < (l1.length : Int) then (if 6 < (l1.length : Int) then (if 5 < (l1.length : Int) then (if 4 < (l1.length : Int) then (if 3 < (l1.length : Int) then (if 2 < (l1.length : Int) then (if 1 < (l1.length : Int) then (if 0 < (l1.length : Int) then (some (Go.bits .or .u64 (Go.bits .or .u64 (Go.bits .or .u64 (Go.bits .or .u64 (Go.bits .or .u64 (Go.bits .or .u64 (Go.bits .or .u64 (IntKind.u64.wrap (rd l1 7)) (IntKind.u64.wrap ((IntKind.u64.wrap (rd l1 6)) * 256))) (IntKind.u64.wrap ((IntKind.u64.wrap (rd l1 5)) * 65536))) (IntKind.u64.wrap ((IntKind.u64.wrap (rd l1 4)) * 16777216))) (IntKind.u64.wrap ((IntKind.u64.wrap (rd l1 3)) * 4294967296))) (IntKind.u64.wrap ((IntKind.u64.wrap (rd l1 2)) * 1099511627776))) (IntKind.u64.wrap ((IntKind.u64.wrap (rd l1 1)) * 281474976710656))) (IntKind.u64.wrap ((IntKind.u64.wrap (rd l1 0)) * 72057594037927936)))) else (none)) else (none)) else (none)) else (none)) else (none)) else (none)) else (none)) else (none)) = some r := h
 clear h
 obtain ⟨c3, H⟩ := ifn_ H
 have c12 := decide_eq_true c3
 have c13 : decide (7 < l1.length) = true := decide_eq_true (by omega)
 clear c3
 obtain ⟨c4, H⟩ := ifn_ H
 have c14 := decide_eq_true c4
 have c15 : decide (6 < l1.length) = true := decide_eq_true (by omega)
 clear c4
 obtain ⟨c5, H⟩ := ifn_ H
 have c16 := decide_eq_true c5
 have c17 : decide (5 < l1.length) = true := decide_eq_true (by omega)
 clear c5
 obtain ⟨c6, H⟩ := ifn_ H
 have c18 := decide_eq_true c6
 have c19 : decide (4 < l1.length) = true := decide_eq_true (by omega)
 clear c6
 obtain ⟨c7, H⟩ := ifn_ H
 have c20 := decide_eq_true c7
 have c21 : decide (3 < l1.length) = true := decide_eq_true (by omega)
 clear c7
 obtain ⟨c8, H⟩ := ifn_ H
 have c22 := decide_eq_true c8
 have c23 : decide (2 < l1.length) = true := decide_eq_true (by omega)
 clear c8
 obtain ⟨c9, H⟩ := ifn_ H
 have c24 := decide_eq_true c9
 have c25 : decide (1 < l1.length) = true := decide_eq_true (by omega)
 clear c9
 obtain ⟨c10, H⟩ := ifn_ H
 have c1 := decide_eq_true c10
 have c11 : decide (0 < l1.length) = true := decide_eq_true (by omega)
 clear c10
 obtain rfl := Option.some.inj H
 go_enter Try.func129, Try.ntmps129
 go_wp2_with (first | (refine bx_ 2 #[] 141 ?_; intro gb0 w1 hg hb BK0 GW0; replace HB := s_ hb; clear hb hg; have p0 : 0 ≤ (7 : Int) := (by omega); have q0 : 7 < (l1.length : Int) := ofd_; obtain ⟨ad0, e0, hx0⟩ := Kd.at_int HR1.out 7 p0 q0; cases e0; (try simp only [show (7 : Int).toNat = 7 from rfl, Nat.reduceMul, Nat.reduceEqDiff, Go.Addr.add, ↓reduceIte] at hx0); have qi337 : (7 < l1.length) = True := eq_true (by omega); (try rw [show ((7 : Int)).toNat = 7 from rfl] at hx0); replace hx0 := pc_ HB.out hx0; replace p0 := eq_true p0; replace q0 := eq_true q0; have p1 : 0 ≤ (7 : Int) := (by omega); have q1 : 7 < (l1.length : Int) := ofd_; obtain ⟨ad1, e1, hx1⟩ := Kd.at_int HR1.out 7 p1 q1; obtain rfl : ad0 = ad1 := (by injection e1); (try simp only [show (7 : Int).toNat = 7 from rfl, Nat.reduceMul, Nat.reduceEqDiff, Go.Addr.add, ↓reduceIte] at hx1); have qi338 : (7 < l1.length) = True := eq_true (by omega); (try rw [show ((7 : Int)).toNat = 7 from rfl] at hx1); replace hx1 := pc_ HB.out hx1; replace p1 := eq_true p1; replace q1 := eq_true q1; have p2 : 0 ≤ (6 : Int) := (by omega); have q2 : 6 < (l1.length : Int) := ofd_; obtain ⟨ad2, e2, hx2⟩ := Kd.at_int HR1.out 6 p2 q2; obtain rfl : ad0 = ad2 := (by injection e2); (try simp only [show (6 : Int).toNat = 6 from rfl, Nat.reduceMul, Nat.reduceEqDiff, Go.Addr.add, ↓reduceIte] at hx2); have qi339 : (6 < l1.length) = True := eq_true (by omega); (try rw [show ((6 : Int)).toNat = 6 from rfl] at hx2); replace hx2 := pc_ HB.out hx2; replace p2 := eq_true p2; replace q2 := eq_true q2; have p3 : 0 ≤ (5 : Int) := (by omega); have q3 : 5 < (l1.length : Int) := ofd_; obtain ⟨ad3, e3, hx3⟩ := Kd.at_int HR1.out 5 p3 q3; obtain rfl : ad0 = ad3 := (by injection e3); (try simp only [show (5 : Int).toNat = 5 from rfl, Nat.reduceMul, Nat.reduceEqDiff, Go.Addr.add, ↓reduceIte] at hx3); have qi340 : (5 < l1.length) = True := eq_true (by omega); (try rw [show ((5 : Int)).toNat = 5 from rfl] at hx3); replace hx3 := pc_ HB.out hx3; replace p3 := eq_true p3; replace q3 := eq_true q3; have p4 : 0 ≤ (4 : Int) := (by omega); have q4 : 4 < (l1.length : Int) := ofd_; obtain ⟨ad4, e4, hx4⟩ := Kd.at_int HR1.out 4 p4 q4; obtain rfl : ad0 = ad4 := (by injection e4); (try simp only [show (4 : Int).toNat = 4 from rfl, Nat.reduceMul, Nat.reduceEqDiff, Go.Addr.add, ↓reduceIte] at hx4); have qi341 : (4 < l1.length) = True := eq_true (by omega); (try rw [show ((4 : Int)).toNat = 4 from rfl] at hx4); replace hx4 := pc_ HB.out hx4; replace p4 := eq_true p4; replace q4 := eq_true q4; have p5 : 0 ≤ (3 : Int) := (by omega); have q5 : 3 < (l1.length : Int) := ofd_; obtain ⟨ad5, e5, hx5⟩ := Kd.at_int HR1.out 3 p5 q5; obtain rfl : ad0 = ad5 := (by injection e5); (try simp only [show (3 : Int).toNat = 3 from rfl, Nat.reduceMul, Nat.reduceEqDiff, Go.Addr.add, ↓reduceIte] at hx5); have qi342 : (3 < l1.length) = True := eq_true (by omega); (try rw [show ((3 : Int)).toNat = 3 from rfl] at hx5); replace hx5 := pc_ HB.out hx5; replace p5 := eq_true p5; replace q5 := eq_true q5; have p6 : 0 ≤ (2 : Int) := (by omega); have q6 : 2 < (l1.length : Int) := ofd_; obtain ⟨ad6, e6, hx6⟩ := Kd.at_int HR1.out 2 p6 q6; obtain rfl : ad0 = ad6 := (by injection e6); (try simp only [show (2 : Int).toNat = 2 from rfl, Nat.reduceMul, Nat.reduceEqDiff, Go.Addr.add, ↓reduceIte] at hx6); have qi343 : (2 < l1.length) = True := eq_true (by omega); (try rw [show ((2 : Int)).toNat = 2 from rfl] at hx6); replace hx6 := pc_ HB.out hx6; replace p6 := eq_true p6; replace q6 := eq_true q6; have p7 : 0 ≤ (1 : Int) := (by omega); have q7 : 1 < (l1.length : Int) := ofd_; obtain ⟨ad7, e7, hx7⟩ := Kd.at_int HR1.out 1 p7 q7; obtain rfl : ad0 = ad7 := (by injection e7); (try simp only [show (1 : Int).toNat = 1 from rfl, Nat.reduceMul, Nat.reduceEqDiff, Go.Addr.add, ↓reduceIte] at hx7); have qi344 : (1 < l1.length) = True := eq_true (by omega); (try rw [show ((1 : Int)).toNat = 1 from rfl] at hx7); replace hx7 := pc_ HB.out hx7; replace p7 := eq_true p7; replace q7 := eq_true q7; have p8 : 0 ≤ (0 : Int) := (by omega); have q8 : 0 < (l1.length : Int) := ofd_; obtain ⟨ad8, e8, hx8⟩ := Kd.at_int HR1.out 0 p8 q8; obtain rfl : ad0 = ad8 := (by injection e8); have qi345 : (0 < l1.length) = True := eq_true (by omega); (try rw [show ((0 : Int)).toNat = 0 from rfl] at hx8); (try rw [Addr.add_zero'] at hx8); replace hx8 := pc_ HB.out hx8; replace p8 := eq_true p8; replace q8 := eq_true q8))
 repeat (go_quiet (first | (refine bx_ 2 #[] 141 ?_; intro gb0 w1 hg hb BK0 GW0; replace HB := s_ hb; clear hb hg; have p0 : 0 ≤ (7 : Int) := (by omega); have q0 : 7 < (l1.length : Int) := ofd_; obtain ⟨ad0, e0, hx0⟩ := Kd.at_int HR1.out 7 p0 q0; cases e0; (try simp only [show (7 : Int).toNat = 7 from rfl, Nat.reduceMul, Nat.reduceEqDiff, Go.Addr.add, ↓reduceIte] at hx0); have qi337 : (7 < l1.length) = True := eq_true (by omega); (try rw [show ((7 : Int)).toNat = 7 from rfl] at hx0); replace hx0 := pc_ HB.out hx0; replace p0 := eq_true p0; replace q0 := eq_true q0; have p1 : 0 ≤ (7 : Int) := (by omega); have q1 : 7 < (l1.length : Int) := ofd_; obtain ⟨ad1, e1, hx1⟩ := Kd.at_int HR1.out 7 p1 q1; obtain rfl : ad0 = ad1 := (by injection e1); (try simp only [show (7 : Int).toNat = 7 from rfl, Nat.reduceMul, Nat.reduceEqDiff, Go.Addr.add, ↓reduceIte] at hx1); have qi338 : (7 < l1.length) = True := eq_true (by omega); (try rw [show ((7 : Int)).toNat = 7 from rfl] at hx1); replace hx1 := pc_ HB.out hx1; replace p1 := eq_true p1; replace q1 := eq_true q1; have p2 : 0 ≤ (6 : Int) := (by omega); have q2 : 6 < (l1.length : Int) := ofd_; obtain ⟨ad2, e2, hx2⟩ := Kd.at_int HR1.out 6 p2 q2; obtain rfl : ad0 = ad2 := (by injection e2); (try simp only [show (6 : Int).toNat = 6 from rfl, Nat.reduceMul, Nat.reduceEqDiff, Go.Addr.add, ↓reduceIte] at hx2); have qi339 : (6 < l1.length) = True := eq_true (by omega); (try rw [show ((6 : Int)).toNat = 6 from rfl] at hx2); replace hx2 := pc_ HB.out hx2; replace p2 := eq_true p2; replace q2 := eq_true q2; have p3 : 0 ≤ (5 : Int) := (by omega); have q3 : 5 < (l1.length : Int) := ofd_; obtain ⟨ad3, e3, hx3⟩ := Kd.at_int HR1.out 5 p3 q3; obtain rfl : ad0 = ad3 := (by injection e3); (try simp only [show (5 : Int).toNat = 5 from rfl, Nat.reduceMul, Nat.reduceEqDiff, Go.Addr.add, ↓reduceIte] at hx3); have qi340 : (5 < l1.length) = True := eq_true (by omega); (try rw [show ((5 : Int)).toNat = 5 from rfl] at hx3); replace hx3 := pc_ HB.out hx3; replace p3 := eq_true p3; replace q3 := eq_true q3; have p4 : 0 ≤ (4 : Int) := (by omega); have q4 : 4 < (l1.length : Int) := ofd_; obtain ⟨ad4, e4, hx4⟩ := Kd.at_int HR1.out 4 p4 q4; obtain rfl : ad0 = ad4 := (by injection e4); (try simp only [show (4 : Int).toNat = 4 from rfl, Nat.reduceMul, Nat.reduceEqDiff, Go.Addr.add, ↓reduceIte] at hx4); have qi341 : (4 < l1.length) = True := eq_true (by omega); (try rw [show ((4 : Int)).toNat = 4 from rfl] at hx4); replace hx4 := pc_ HB.out hx4; replace p4 := eq_true p4; replace q4 := eq_true q4; have p5 : 0 ≤ (3 : Int) := (by omega); have q5 : 3 < (l1.length : Int) := ofd_; obtain ⟨ad5, e5, hx5⟩ := Kd.at_int HR1.out 3 p5 q5; obtain rfl : ad0 = ad5 := (by injection e5); (try simp only [show (3 : Int).toNat = 3 from rfl, Nat.reduceMul, Nat.reduceEqDiff, Go.Addr.add, ↓reduceIte] at hx5); have qi342 : (3 < l1.length) = True := eq_true (by omega); (try rw [show ((3 : Int)).toNat = 3 from rfl] at hx5); replace hx5 := pc_ HB.out hx5; replace p5 := eq_true p5; replace q5 := eq_true q5; have p6 : 0 ≤ (2 : Int) := (by omega); have q6 : 2 < (l1.length : Int) := ofd_; obtain ⟨ad6, e6, hx6⟩ := Kd.at_int HR1.out 2 p6 q6; obtain rfl : ad0 = ad6 := (by injection e6); (try simp only [show (2 : Int).toNat = 2 from rfl, Nat.reduceMul, Nat.reduceEqDiff, Go.Addr.add, ↓reduceIte] at hx6); have qi343 : (2 < l1.length) = True := eq_true (by omega); (try rw [show ((2 : Int)).toNat = 2 from rfl] at hx6); replace hx6 := pc_ HB.out hx6; replace p6 := eq_true p6; replace q6 := eq_true q6; have p7 : 0 ≤ (1 : Int) := (by omega); have q7 : 1 < (l1.length : Int) := ofd_; obtain ⟨ad7, e7, hx7⟩ := Kd.at_int HR1.out 1 p7 q7; obtain rfl : ad0 = ad7 := (by injection e7); (try simp only [show (1 : Int).toNat = 1 from rfl, Nat.reduceMul, Nat.reduceEqDiff, Go.Addr.add, ↓reduceIte] at hx7); have qi344 : (1 < l1.length) = True := eq_true (by omega); (try rw [show ((1 : Int)).toNat = 1 from rfl] at hx7); replace hx7 := pc_ HB.out hx7; replace p7 := eq_true p7; replace q7 := eq_true q7; have p8 : 0 ≤ (0 : Int) := (by omega); have q8 : 0 < (l1.length : Int) := ofd_; obtain ⟨ad8, e8, hx8⟩ := Kd.at_int HR1.out 0 p8 q8; obtain rfl : ad0 = ad8 := (by injection e8); have qi345 : (0 < l1.length) = True := eq_true (by omega); (try rw [show ((0 : Int)).toNat = 0 from rfl] at hx8); (try rw [Addr.add_zero'] at hx8); replace hx8 := pc_ HB.out hx8; replace p8 := eq_true p8; replace q8 := eq_true q8)); try go_wp2_with (first | (refine bx_ 2 #[] 141 ?_; intro gb0 w1 hg hb BK0 GW0; replace HB := s_ hb; clear hb hg; have p0 : 0 ≤ (7 : Int) := (by omega); have q0 : 7 < (l1.length : Int) := ofd_; obtain ⟨ad0, e0, hx0⟩ := Kd.at_int HR1.out 7 p0 q0; cases e0; (try simp only [show (7 : Int).toNat = 7 from rfl, Nat.reduceMul, Nat.reduceEqDiff, Go.Addr.add, ↓reduceIte] at hx0); have qi337 : (7 < l1.length) = True := eq_true (by omega); (try rw [show ((7 : Int)).toNat = 7 from rfl] at hx0); replace hx0 := pc_ HB.out hx0; replace p0 := eq_true p0; replace q0 := eq_true q0; have p1 : 0 ≤ (7 : Int) := (by omega); have q1 : 7 < (l1.length : Int) := ofd_; obtain ⟨ad1, e1, hx1⟩ := Kd.at_int HR1.out 7 p1 q1; obtain rfl : ad0 = ad1 := (by injection e1); (try simp only [show (7 : Int).toNat = 7 from rfl, Nat.reduceMul, Nat.reduceEqDiff, Go.Addr.add, ↓reduceIte] at hx1); have qi338 : (7 < l1.length) = True := eq_true (by omega); (try rw [show ((7 : Int)).toNat = 7 from rfl] at hx1); replace hx1 := pc_ HB.out hx1; replace p1 := eq_true p1; replace q1 := eq_true q1; have p2 : 0 ≤ (6 : Int) := (by omega); have q2 : 6 < (l1.length : Int) := ofd_; obtain ⟨ad2, e2, hx2⟩ := Kd.at_int HR1.out 6 p2 q2; obtain rfl : ad0 = ad2 := (by injection e2); (try simp only [show (6 : Int).toNat = 6 from rfl, Nat.reduceMul, Nat.reduceEqDiff, Go.Addr.add, ↓reduceIte] at hx2); have qi339 : (6 < l1.length) = True := eq_true (by omega); (try rw [show ((6 : Int)).toNat = 6 from rfl] at hx2); replace hx2 := pc_ HB.out hx2; replace p2 := eq_true p2; replace q2 := eq_true q2; have p3 : 0 ≤ (5 : Int) := (by omega); have q3 : 5 < (l1.length : Int) := ofd_; obtain ⟨ad3, e3, hx3⟩ := Kd.at_int HR1.out 5 p3 q3; obtain rfl : ad0 = ad3 := (by injection e3); (try simp only [show (5 : Int).toNat = 5 from rfl, Nat.reduceMul, Nat.reduceEqDiff, Go.Addr.add, ↓reduceIte] at hx3); have qi340 : (5 < l1.length) = True := eq_true (by omega); (try rw [show ((5 : Int)).toNat = 5 from rfl] at hx3); replace hx3 := pc_ HB.out hx3; replace p3 := eq_true p3; replace q3 := eq_true q3; have p4 : 0 ≤ (4 : Int) := (by omega); have q4 : 4 < (l1.length : Int) := ofd_; obtain ⟨ad4, e4, hx4⟩ := Kd.at_int HR1.out 4 p4 q4; obtain rfl : ad0 = ad4 := (by injection e4); (try simp only [show (4 : Int).toNat = 4 from rfl, Nat.reduceMul, Nat.reduceEqDiff, Go.Addr.add, ↓reduceIte] at hx4); have qi341 : (4 < l1.length) = True := eq_true (by omega); (try rw [show ((4 : Int)).toNat = 4 from rfl] at hx4); replace hx4 := pc_ HB.out hx4; replace p4 := eq_true p4; replace q4 := eq_true q4; have p5 : 0 ≤ (3 : Int) := (by omega); have q5 : 3 < (l1.length : Int) := ofd_; obtain ⟨ad5, e5, hx5⟩ := Kd.at_int HR1.out 3 p5 q5; obtain rfl : ad0 = ad5 := (by injection e5); (try simp only [show (3 : Int).toNat = 3 from rfl, Nat.reduceMul, Nat.reduceEqDiff, Go.Addr.add, ↓reduceIte] at hx5); have qi342 : (3 < l1.length) = True := eq_true (by omega); (try rw [show ((3 : Int)).toNat = 3 from rfl] at hx5); replace hx5 := pc_ HB.out hx5; replace p5 := eq_true p5; replace q5 := eq_true q5; have p6 : 0 ≤ (2 : Int) := (by omega); have q6 : 2 < (l1.length : Int) := ofd_; obtain ⟨ad6, e6, hx6⟩ := Kd.at_int HR1.out 2 p6 q6; obtain rfl : ad0 = ad6 := (by injection e6); (try simp only [show (2 : Int).toNat = 2 from rfl, Nat.reduceMul, Nat.reduceEqDiff, Go.Addr.add, ↓reduceIte] at hx6); have qi343 : (2 < l1.length) = True := eq_true (by omega); (try rw [show ((2 : Int)).toNat = 2 from rfl] at hx6); replace hx6 := pc_ HB.out hx6; replace p6 := eq_true p6; replace q6 := eq_true q6; have p7 : 0 ≤ (1 : Int) := (by omega); have q7 : 1 < (l1.length : Int) := ofd_; obtain ⟨ad7, e7, hx7⟩ := Kd.at_int HR1.out 1 p7 q7; obtain rfl : ad0 = ad7 := (by injection e7); (try simp only [show (1 : Int).toNat = 1 from rfl, Nat.reduceMul, Nat.reduceEqDiff, Go.Addr.add, ↓reduceIte] at hx7); have qi344 : (1 < l1.length) = True := eq_true (by omega); (try rw [show ((1 : Int)).toNat = 1 from rfl] at hx7); replace hx7 := pc_ HB.out hx7; replace p7 := eq_true p7; replace q7 := eq_true q7; have p8 : 0 ≤ (0 : Int) := (by omega); have q8 : 0 < (l1.length : Int) := ofd_; obtain ⟨ad8, e8, hx8⟩ := Kd.at_int HR1.out 0 p8 q8; obtain rfl : ad0 = ad8 := (by injection e8); have qi345 : (0 < l1.length) = True := eq_true (by omega); (try rw [show ((0 : Int)).toNat = 0 from rfl] at hx8); (try rw [Addr.add_zero'] at hx8); replace hx8 := pc_ HB.out hx8; replace p8 := eq_true p8; replace q8 := eq_true q8)))
 go_ret
 exact ⟨rfl_, bel_⟩
end
section
def impl_node_halves.f (k : Nat) (a0 a1 : Int) : Option (Int × Int × Int × Int) := (impl_TreeSplit.f k (wrap64 (a1 - a0))).bind fun t0 => (some (a0, wrap64 (a0 + t0), wrap64 (a0 + t0), a1))
def impl_node_halves.T1 : TT_ := (true, [([], []), ([0], [0]), ([], []), ([2], [2]), ([], []), ([4], [4]), ([3, 5], [3, 5]), ([6], [6]), ([1, 7], [1, 7]), ([8, 7, 0, 1, 2, 3, 4, 5, 6, 7, 8], [8])])
def impl_node_halves.B1 : List Nat := [0, 1, 0, 4, 0, 16, 60, 124, 255, 511]
theorem impl_node_halves.tab1 : rtab .any (opsOf Try.f77 1) = impl_node_halves.T1 := by kernel_rfl
theorem impl_node_halves.bits1 : waitsOk impl_node_halves.T1.2 impl_node_halves.B1 = true := by kernel_rfl
def impl_node_halves.T2 : TT_ := (true, [([], []), ([0], [0]), ([], []), ([1, 2], [1, 2]), ([], []), ([], []), ([5], [5]), ([4, 6], [4, 6]), ([3, 0, 1, 2, 3], [3]), ([7, 8, 0, 1, 2, 3, 4, 5, 6, 7, 8], [7])])
def impl_node_halves.B2 : List Nat := [0, 1, 0, 7, 0, 0, 32, 112, 15, 511]
theorem impl_node_halves.tab2 : rtab .any (opsOf Try.f77 2) = impl_node_halves.T2 := by kernel_rfl
theorem impl_node_halves.bits2 : waitsOk impl_node_halves.T2.2 impl_node_halves.B2 = true := by kernel_rfl
theorem impl_node_halves.calls (k : Nat) (a0 a1 r0 r1 r2 r3 : Int) (w : World) (h : impl_node_halves.f k a0 a1 = some (r0, r1, r2, r3)) :
  Calls Try.prog 77 #[.agg #[.int .i64 a0, .int .i64 a1]] w fun e w' => e = .returned (.tuple #[.agg #[.int .i64 r0, .int .i64 r1], .agg #[.int .i64 r2, .int .i64 r3]]) ∧ Below w.heap.size w w' := by
 have hu100 := Try.underlying100
 have HB := rB_ w
 have H := h
 unfold impl_node_halves.f at H
 clear h
 obtain ⟨t0, A0, H⟩ := bnd_ H
 simp only [Option.some.injEq, Prod.mk.injEq] at H
 obtain ⟨rfl, rfl, rfl, rfl⟩ := H
 go_enter Try.func77, Try.ntmps77
 try go_wp2_with (first | (refine bx_ 1 #[.int .i64 a0, .int .i64 a1] 100 ?_; intro gb0 w4 hg hb BK0 GW0; replace HB := s_ hb; clear hb hg) | (refine bx_ 2 #[.int .i64 0, .int .i64 0] 100 ?_; intro gb1 w5 hg hb BK1 GW1; replace HB := s_ hb; obtain ⟨NB0, NB4⟩ := ne2_ BK0.out hg; replace BK0 := bb_ BK0.out hb; clear hb hg) | (refine bx_ 3 #[.int .i64 0, .int .i64 0] 100 ?_; intro gb2 w3 hg hb BK2 GW2; replace HB := s_ hb; obtain ⟨NB1, NB5⟩ := ne2_ BK0.out hg; replace BK0 := bb_ BK0.out hb; obtain ⟨NB2, NB3⟩ := ne2_ BK1.out hg; replace BK1 := bb_ BK1.out hb; clear hb hg))
 replace BK0 := a_ (blk_drew BK0.out)
 replace BK1 := a_ (blk_drew BK1.out)
 replace BK2 := a_ (blk_drew BK2.out)
 replace HB := a_ (below_drew1 HB.out)
 refine start_ (n := 10) (S := fun w' => w'.cell? ⟨gb0, 0, none⟩ = some (.int .i64 a0) ∧ w'.cell? ⟨gb0, 1, none⟩ = some (.int .i64 a1)) (ds := []) #[false, false, false, false, false, false, false, false, false, false] (by kernel_rfl) rfl rfl (hc2_ BK0.out) (fun hHeld => ?_); refine with_tabW impl_node_halves.tab1 impl_node_halves.bits1 (fun HT HW_ => ?_)
 generalize w3.drew = w1 at BK0 BK1 BK2 HB hHeld ⊢
 refine qP_ 0 5 10 1 ?_
 refine qP_ 2 7 10 5 ?_
 refine qP_ 4 9 10 21 ?_
 refine qT_ 1 6 10 23 ?_
 refine qT_ 3 8 10 31 ?_
 refine qT_ 5 10 10 63 ?_
 refine qP_ 6 11 10 127 ?_
 refine oneP_ 7 (some 12) (b_ 10 255) HT (fun K hK => ?_)
 refine goN_ Try.func109 #[.int .i64 (wrap64 (a1 - a0))] ?_
 with_reducible refine (impl_TreeSplit.calls _ _ _ _ A0.out).mono ?_
 rintro e w' ⟨rfl, ⟨nd, rfl⟩⟩
 refine ⟨_, rfl, ?_⟩
 refine hK.out _ _ (hc2_ BK0.out) (fun hHeld => ?_)
 clear hK K
 refine normP_ (some 12) ?_
 refine qP_ 8 13 10 511 ?_
 refine qP_ 9 4 10 1023 ?_
 refine done_ (done_of HT.out (by kernel_rfl)) ?_
 try go_wp2
 (try (rw [drewN_self w1]; generalize hq_ : World.drewN w1 _ = w1; have n0_ : Aside0 (w1.heap[gb0]? = some (.cells #[.int .i64 a0, .int .i64 a1] 100 (0, 0))) := ⟨by rw [← hq_]; exact (blkU_ BK0.out)⟩; have n1_ : Aside0 (w1.heap[gb1]? = some (.cells #[.int .i64 0, .int .i64 0] 100 (0, 0))) := ⟨by rw [← hq_]; exact (blkU_ BK1.out)⟩; have n2_ : Aside0 (w1.heap[gb2]? = some (.cells #[.int .i64 0, .int .i64 0] 100 (0, 0))) := ⟨by rw [← hq_]; exact (blkU_ BK2.out)⟩; have n3_ : Aside0 (Below w.heap.size w w1) := ⟨by rw [← hq_]; exact bel_⟩; clear BK0 BK1 BK2 HB hq_; have BK0 := n0_; have BK1 := n1_; have BK2 := n2_; have HB := n3_; clear n0_ n1_ n2_ n3_))
 replace BK0 := a_ (blk_drew BK0.out)
 replace BK1 := a_ (blk_drew BK1.out)
 replace BK2 := a_ (blk_drew BK2.out)
 replace HB := a_ (below_drew1 HB.out)
 refine start_ (n := 10) (S := fun w' => w'.cell? ⟨gb0, 0, none⟩ = some (.int .i64 a0) ∧ w'.cell? ⟨gb0, 1, none⟩ = some (.int .i64 a1)) (ds := []) #[false, false, false, false, false, false, false, false, false, false] (by kernel_rfl) rfl rfl (hc2_ BK0.out) (fun hHeld => ?_); refine with_tabW impl_node_halves.tab2 impl_node_halves.bits2 (fun HT HW_ => ?_)
 generalize w1.drew = w2 at BK0 BK1 BK2 HB hHeld ⊢
 refine qP_ 0 14 10 1 ?_
 refine qP_ 2 16 10 5 ?_
 refine qP_ 4 18 10 21 ?_
 refine qP_ 5 19 10 53 ?_
 refine qT_ 1 15 10 55 ?_
 refine qP_ 3 17 10 63 ?_
 refine qT_ 6 20 10 127 ?_
 refine qP_ 7 21 10 255 ?_
 refine oneP_ 8 none (b_ 10 511) HT (fun K hK => ?_)
 have hs2 : w2.cell? ⟨gb1, 0, none⟩ = some (.int .i64 0) := (blk_cell BK1.out 0).trans rfl
 have hfs8 := blk_frozen BK1.out 0
 have hns8_0 := NB0.out
 have hns8_2 := NB3.out
 have hms8_0 := NB4.out
 have hms8_2 := NB2.out
 have hs3 : w2.cell? ⟨gb1, 1, none⟩ = some (.int .i64 0) := (blk_cell BK1.out 1).trans rfl
 have hfs9 := blk_frozen BK1.out 1
 have hns9_0 := NB0.out
 have hns9_2 := NB3.out
 have hms9_0 := NB4.out
 have hms9_2 := NB2.out
 refine skip_ (w1 := ?_) (by rfl) rfl ?_ ?_
 rotate_left
 ·go_simp
  rfl
 refine hK.out _ _ ⟨(cf2_ NB0.out hHeld.1), (cf2_ NB0.out hHeld.2)⟩ (fun hHeld => ?_)
 clear hK K
 refine oneP_ 9 none (b_ 10 1023) HT (fun K hK => ?_)
 have hs0 : w2.cell? ⟨gb2, 0, none⟩ = some (.int .i64 0) := (blk_cell BK2.out 0).trans rfl
 have hfs10 := blk_frozen BK2.out 0
 have hns10_0 := NB1.out
 have hns10_1 := NB2.out
 have hms10_0 := NB5.out
 have hms10_1 := NB3.out
 have hs1 : w2.cell? ⟨gb2, 1, none⟩ = some (.int .i64 0) := (blk_cell BK2.out 1).trans rfl
 have hfs11 := blk_frozen BK2.out 1
 have hns11_0 := NB1.out
 have hns11_1 := NB2.out
 have hms11_0 := NB5.out
 have hms11_1 := NB3.out
 refine skip_ (w1 := ?_) (by rfl) rfl ?_ ?_
 rotate_left
 ·go_simp
  rfl
 refine hK.out _ _ ⟨(cf2_ NB1.out hHeld.1), (cf2_ NB1.out hHeld.2)⟩ (fun hHeld => ?_)
 clear hK K
 refine done_ (done_of HT.out (by kernel_rfl)) ?_
 try go_wp2
 refine bodyPost_ret (results_cc rfl _ _ gb1 gb2 100 100 #[.int .i64 a0, .int .i64 (wrap64 (a0 + t0))] #[.int .i64 (wrap64 (a0 + t0)), .int .i64 a1] (0, 0) (0, 0) _ _ rfl (blkF_ BK1.out) Try.underlying100 rfl (by kernel_rfl) rfl (blkF_ BK2.out) Try.underlying100 rfl (by kernel_rfl)) rfl ?_
 exact ⟨rfl_, bel_⟩
end
section
def spec_l3Place.f (a0 a1 : Int) : Option (Bool) := (spec_l1In.f a0 1 256).bind fun t0 => (if t0 = true then ((spec_l1In.f a1 0 (wrap64 (a0 - 1))).bind fun t1 => (some t1)) else (some false))
theorem spec_l3Place.calls (a0 a1 : Int) (r : Bool) (w : World) (h : spec_l3Place.f a0 a1 = some r) :
  Calls Try.prog 79 #[.int .i64 a0, .int .i64 a1] w fun e w' => e = .returned (.bool r) ∧ Drawn0 w w' := by
 have H := h
 unfold spec_l3Place.f at H
 clear h
 obtain ⟨t0, A0, H⟩ := bnd_ H
 by_cases c4 : t0 = true
 ·subst c4
  rw [if_pos rfl] at H
  obtain ⟨t1, A1, H⟩ := bnd_ H
  obtain rfl := Option.some.inj H
  go_enter Try.func79, Try.ntmps79
  go_wp2_with (first | (refine gcD_ 94 6 Try.func94 (spec_l1In.calls _ _ _ _ _ A0.out) ?_; intro nd) | (go_at_call 94; (with_reducible refine (spec_l1In.calls _ _ _ _ _ A1.out).mono ?_); rintro e w' ⟨rfl, ⟨nd, rfl⟩⟩))
  go_ret
  exact ⟨rl_, dr_⟩
 ·replace c4 := Bool.eq_false_iff.mpr c4
  subst c4
  rw [if_neg (show ¬ (false = true) by decide)] at H
  obtain rfl := Option.some.inj H
  go_enter Try.func79, Try.ntmps79
  go_wp2_with (first | (refine gcD_ 94 6 Try.func94 (spec_l1In.calls _ _ _ _ _ A0.out) ?_; intro nd))
  go_ret
  exact ⟨rl_, dr_⟩
end
section
def spec_PathLen.l0 : Nat → Int → Int → Int → Option (Int)
 | 0, _, _, _ => none
 | k + 1, x0, x1, x2 => if x0 > 1 then ((spec_TreeSplit.f k x0).bind fun t0 => (if x1 < t0 then (spec_PathLen.l0 k t0 x1 (wrap64 (x2 + 1))) else (spec_PathLen.l0 k (wrap64 (x0 - t0)) (wrap64 (x1 - t0)) (wrap64 (x2 + 1))))) else (some x2)
def spec_PathLen.f (k : Nat) (a0 a1 : Int) : Option (Int) := (spec_l3Place.f a0 a1).bind fun t0 => (if t0 = true then (spec_PathLen.l0 k a0 a1 0) else (some (-1)))
theorem spec_PathLen.calls (k : Nat) (a0 a1 r : Int) (w : World) (h : spec_PathLen.f k a0 a1 = some r) :
  Calls Try.prog 81 #[.int .i64 a0, .int .i64 a1] w fun e w' => e = .returned (.int .i64 r) ∧ Drawn0 w w' := by
 have H := h
 unfold spec_PathLen.f at H
 clear h
 obtain ⟨t1, A0, H⟩ := bnd_ H
 by_cases c4 : t1 = true
 ·subst c4
  rw [if_pos rfl] at H
  have H' := a_ H
  clear H
  go_enter Try.func81, Try.ntmps81
  go_wp2_with (first | (refine gcD_ 79 9 Try.func79 (spec_l3Place.calls _ _ _ _ A0.out) ?_; intro nd))
  go_loopg [0, 1, 5] k (fun kq v0 v1 v2 w' => ∃ (x0 x1 x2 : Int), v0 = .int .i64 x0 ∧ v1 = .int .i64 x1 ∧ v2 = .int .i64 x2 ∧ Aside0 (spec_PathLen.l0 kq x0 x1 x2 = some r) ∧ Aside0 (kq ≤ k) ∧ Drawn0 w w')
  case atStart => exact ⟨(a0), (a1), (0), rl_, rl_, rl_, H', ⟨Nat.le_refl _⟩, by repeat (first | exact Drawn0.refl _ | apply Drawn0.step)⟩
  case round =>
   clear H'
   (try clear c4)
   obtain ⟨x0, x1, x2, rfl, rfl, rfl, HA, HK1, ⟨m1, rfl⟩⟩ := hrel
   cases gk with
   | zero => exact absurd HA.out (by simp [spec_PathLen.l0])
   | succ k1 =>
    have H := HA.out
    clear HA
    simp only [spec_PathLen.l0] at H
    by_cases c5 : x0 > 1
    ·rw [if_pos c5] at H
     have c0 : decide (1 < x0) = true := decide_eq_true c5
     clear c5
     obtain ⟨t0, A1, H⟩ := bnd_ H
     by_cases c7 : x1 < t0
     ·rw [if_pos c7] at H
      have c1 := decide_eq_true c7
      clear c7
      have H' := a_ H
      clear H
      go_wp2_with (first | (refine gcD_ 88 14 Try.func88 (spec_TreeSplit.calls _ _ _ _ A1.out) ?_; intro nd))
      go_roundg k1
      case measure => have := HK1.out; omega
      case rel => exact ⟨(t0), (x1), (wrap64 (x2 + 1)), rl_, rl_, rl_, H', ⟨by have := HK1.out; omega⟩, by repeat (first | exact Drawn0.refl _ | apply Drawn0.step)⟩
     ·rw [if_neg c7] at H
      have c1 := decide_eq_false c7
      clear c7
      have H' := a_ H
      clear H
      go_wp2_with (first | (refine gcD_ 88 14 Try.func88 (spec_TreeSplit.calls _ _ _ _ A1.out) ?_; intro nd))
      go_roundg k1
      case measure => have := HK1.out; omega
      case rel => exact ⟨(wrap64 (x0 - t0)), (wrap64 (x1 - t0)), (wrap64 (x2 + 1)), rl_, rl_, rl_, H', ⟨by have := HK1.out; omega⟩, by repeat (first | exact Drawn0.refl _ | apply Drawn0.step)⟩
    ·rw [if_neg c5] at H
     have c0 : decide (1 < x0) = false := decide_eq_false c5
     clear c5
     obtain rfl := Option.some.inj H
     go_wp2
     go_ret
     exact ⟨rl_, dr_⟩
 ·replace c4 := Bool.eq_false_iff.mpr c4
  subst c4
  rw [if_neg (show ¬ (false = true) by decide)] at H
  obtain rfl := Option.some.inj H
  go_enter Try.func81, Try.ntmps81
  go_wp2_with (first | (refine gcD_ 79 9 Try.func79 (spec_l3Place.calls _ _ _ _ A0.out) ?_; intro nd))
  go_ret
  exact ⟨rl_, dr_⟩
end
section
def impl_way.l0 : Nat → Int → List (S100) → Int → Int → Option ((List (S100)))
 | 0, _, _, _, _ => none
 | k + 1, x0, x1, x2, x3 => if (wrap64 (x3 - x2)) > 1 then (if x1.length < 8796093022208 then ((some (x1 ++ [(⟨x2, x3⟩ : S100)] : List (S100))).bind fun y0 => ((impl_node_halves.f k x2 x3).bind fun bt0 => (if x0 < bt0.2.1 then (impl_way.l0 k x0 y0 bt0.1 bt0.2.1) else (impl_way.l0 k x0 y0 bt0.2.2.1 bt0.2.2.2)))) else (none)) else (some x1)
def impl_way.f (k : Nat) (a0 a1 : Int) : Option ((List (S100))) := impl_way.l0 k a1 ([] : List (S100)) 0 a0
theorem impl_way.calls (k : Nat) (a1 a0 : Int) (r : List (S100)) (w : World) (h : impl_way.f k a1 a0 = some r) :
  Calls Try.prog 76 #[.int .i64 a1, .int .i64 a0] w fun e w' => ∃ v0_ : Value, e = .returned (v0_) ∧ Kd.R k100 100 w' w.heap.size (fun _ => True) v0_ r ∧ Below w.heap.size w w' := by
 have hu100 := Try.underlying100
 have HB := rB_ w
 have H := h
 unfold impl_way.f at H
 clear h
 have H' := a_ H
 clear H
 go_enter Try.func76, Try.ntmps76
 go_wp2_with (first | (refine bx_ 6 #[.int .i64 0, .int .i64 0] 100 ?_; intro gb0 w10 hg hb BK0 GW2; replace HB := s_ hb; clear hb hg; obtain ⟨z0, z1, f0, f1⟩ := cz2_ BK0.out))
 go_loopg [5] k (fun kq v0 w' => ∃ (x2 : List (S100)) (x0 x1 : Int), Aside0 (impl_way.l0 kq a0 x2 x0 x1 = some r) ∧ Aside0 (kq ≤ k) ∧ Aside0 (Kd.R k100 100 w' w.heap.size (fun k_ => k_ ≠ gb0) v0 x2) ∧ Aside0 (w'.heap[gb0]? = some (.cells #[.int .i64 x0, .int .i64 x1] 100 (0, 0))) ∧ Aside0 (Below w.heap.size w w'))
 case atStart => exact ⟨(([] : List (S100))), (0), (a1), H', ⟨Nat.le_refl _⟩, ⟨by first | exact Kd.R_nil _ _ _ _ _ | exact Kd.N_nil _ _ _ _ _ | exact Kd.V_nil _ _ _ _ _ | exact Kd.Q_nil _ _ _ _ _ | exact Kd.S_nil _ _ _ _ _⟩, ⟨blkF_ BK0.out⟩, ⟨bel_⟩⟩
 case round =>
  clear H'
  (try clear z0 z1); (try clear f0 f1)
  obtain ⟨x2, x0, x1, HA, HK1, HO_0, BK0, HB⟩ := hrel
  cases gk with
  | zero => exact absurd HA.out (by simp [impl_way.l0])
  | succ k1 =>
   have H := HA.out
   clear HA
   simp only [impl_way.l0] at H
   by_cases c5 : (wrap64 (x1 - x0)) > 1
   ·rw [if_pos c5] at H
    have c0 : decide (1 < (wrap64 (x1 - x0))) = true := decide_eq_true c5
    clear c5
    obtain ⟨c6, H⟩ := ifn_ H
    have LMc0 := a_ c6
    clear c6
    obtain ⟨y0, hy0⟩ : ∃ y_ : List (S100), y_ = (x2 ++ [(⟨x0, x1⟩ : S100)]) := ⟨_, rfl⟩
    replace H : ((impl_node_halves.f k1 x0 x1).bind fun bt0 => (if a0 < bt0.2.1 then (impl_way.l0 k1 a0 y0 bt0.1 bt0.2.1) else (impl_way.l0 k1 a0 y0 bt0.2.2.1 bt0.2.2.2))) = some r := rpl_ hy0 H
    have Ny0 := a_ hy0
    clear hy0
    obtain ⟨⟨t3, t0, t1, t2⟩, A0, H⟩ := bnd_ H
    dsimp only at H
    by_cases c8 : a0 < t0
    ·rw [if_pos c8] at H
     have c1 := decide_eq_true c8
     clear c8
     have H' := a_ H
     clear H
     obtain ⟨z22, z23, f22, f23⟩ := cz2_ BK0.out
     go_wp2_with (first | ((with_reducible refine gate_builtin (b := .append) (xs := #[.tmp 17, .tmp 19]) rfl ?_); at_builtin; refine Kd.R_append k100 (w0 := w) w.heap.size rfl (.tmp 17) (.tmp 19) 96 100 (.agg #[(.int .i64 0), (.int .i64 0)]) 16 rfl Try.underlying96 info100 rfl (by decide) (by omega) u5 x2 (⟨x0, x1⟩ : S100) [.int .i64 x0, .int .i64 x1] (fun k_ => k_ ≠ gb0) (fun _ => False) rfl rfl ?aP (fun _ hk => hk.elim) ?aF ?aO ?aB ?aS ?aL ?_; (case aP => exact k100_mkM _ _ _ (⟨x0, x1⟩ : S100)); (case aB => exact bel_); (case aF => exact (fun k_ hk => Kd.freshB (g := gb0) (o := .cells #[.int .i64 x0, .int .i64 x1] 100 (0, 0)) (blkU_ BK0.out) k_ hk)); (case aO => exact (kdU_ HO_0.out)); (case aS => exact (below_size bel_)); (case aL => have := LMc0.out; omega); intro v1 w1 ho hb hg hat; rw [← Ny0.out] at ho; replace BK0 := a_ (blk_grown (g := gb0) (o := .cells #[.int .i64 x0, .int .i64 x1] 100 (0, 0)) (blkU_ BK0.out) hg (Kd.R_away HO_0.out (fun _ hk => hk))); replace HB := a_ (hb); have HO0 := a_ (ho); clear HO_0; clear ho hb hg hat; obtain ⟨z2, z3, f2, f3⟩ := cz2_ BK0.out) | (refine gcB_ 77 23 Try.func77 (impl_node_halves.calls _ _ _ _ _ _ _ _ A0.out) ?_; intro w2 hb; replace HO0 := rb_ HO0.out hb; replace BK0 := bb_ BK0.out hb; replace HB := s_ hb; clear hb) | (refine bx_ 7 #[.int .i64 0, .int .i64 0] 100 ?_; intro gb1 w3 hg hb BK1 GW0; replace HO0 := a_ (Kd.R_below (Kd.R_elderB (kdU_ HO0.out) gb1 (Nat.le_of_eq hg.symm)) hb); replace HB := s_ hb; obtain ⟨NB0, NB2⟩ := ne2_ BK0.out hg; replace BK0 := bb_ BK0.out hb; clear hb hg) | (refine bx_ 8 #[.int .i64 0, .int .i64 0] 100 ?_; intro gb2 w4 hg hb BK2 GW1; replace HO0 := a_ (Kd.R_below (Kd.R_elderB (kdU_ HO0.out) gb2 (Nat.le_of_eq hg.symm)) hb); replace HB := s_ hb; obtain ⟨NB1, NB4⟩ := ne2_ BK0.out hg; replace BK0 := bb_ BK0.out hb; obtain ⟨NB3, NB5⟩ := ne2_ BK1.out hg; replace BK1 := bb_ BK1.out hb; clear hb hg; have hnb0 := NB2.out; have hnc0 := NB0.out; have hnb1 := NB3.out; have hnc1 := NB5.out; obtain ⟨z4, z5, f4, f5⟩ := cz2_ BK1.out; have hnb2 := NB4.out; have hnc2 := NB1.out; obtain ⟨z6, z7, f6, f7⟩ := cz2_ BK2.out; obtain ⟨z8, z9, f8, f9⟩ := cz2_ BK0.out))
     go_roundg k1
     case measure => have := HK1.out; omega
     case rel => exact ⟨(y0), (t3), (t0), H', ⟨by have := HK1.out; omega⟩, ⟨uR_ (Kd.R_mono (Kd.R_far (p := ⟨gb0, 1, none⟩) (Kd.R_far (p := ⟨gb0, 0, none⟩) (Kd.R_far (p := ⟨gb0, 1, none⟩) (Kd.R_far (p := ⟨gb0, 0, none⟩) (Kd.R_far (p := ⟨gb2, 1, none⟩) (Kd.R_far (p := ⟨gb2, 0, none⟩) (Kd.R_far (p := ⟨gb1, 1, none⟩) (Kd.R_far (p := ⟨gb1, 0, none⟩) (Kd.R_mono (Kd.R_mono (Kd.R_mono HO0.out (fun k_ hk => (⟨hk, hk.1.2⟩ : _ ∧ k_ ≠ gb1))) (fun k_ hk => (⟨hk, hk.1.2⟩ : _ ∧ k_ ≠ gb2))) (fun k_ hk => (⟨hk, hk.1.1.1.1⟩ : _ ∧ k_ ≠ gb0))) (fun _ hk => hk.1.1.2) (.int .i64 t3)) (fun _ hk => hk.1.1.2) (.int .i64 t0)) (fun _ hk => hk.1.2) (.int .i64 t1)) (fun _ hk => hk.1.2) (.int .i64 t2)) (fun _ hk => hk.2) (.int .i64 t1)) (fun _ hk => hk.2) (.int .i64 t2)) (fun _ hk => hk.2) (.int .i64 t3)) (fun _ hk => hk.2) (.int .i64 t0)) (fun _ hk => hk.1.1.1.1.1))⟩, ⟨blkF_ BK0.out⟩, ⟨bel_⟩⟩
    ·rw [if_neg c8] at H
     have c1 := decide_eq_false c8
     clear c8
     have H' := a_ H
     clear H
     obtain ⟨z10, z11, f10, f11⟩ := cz2_ BK0.out
     go_wp2_with (first | ((with_reducible refine gate_builtin (b := .append) (xs := #[.tmp 17, .tmp 19]) rfl ?_); at_builtin; refine Kd.R_append k100 (w0 := w) w.heap.size rfl (.tmp 17) (.tmp 19) 96 100 (.agg #[(.int .i64 0), (.int .i64 0)]) 16 rfl Try.underlying96 info100 rfl (by decide) (by omega) u5 x2 (⟨x0, x1⟩ : S100) [.int .i64 x0, .int .i64 x1] (fun k_ => k_ ≠ gb0) (fun _ => False) rfl rfl ?aP (fun _ hk => hk.elim) ?aF ?aO ?aB ?aS ?aL ?_; (case aP => exact k100_mkM _ _ _ (⟨x0, x1⟩ : S100)); (case aB => exact bel_); (case aF => exact (fun k_ hk => Kd.freshB (g := gb0) (o := .cells #[.int .i64 x0, .int .i64 x1] 100 (0, 0)) (blkU_ BK0.out) k_ hk)); (case aO => exact (kdU_ HO_0.out)); (case aS => exact (below_size bel_)); (case aL => have := LMc0.out; omega); intro v1 w5 ho hb hg hat; rw [← Ny0.out] at ho; replace BK0 := a_ (blk_grown (g := gb0) (o := .cells #[.int .i64 x0, .int .i64 x1] 100 (0, 0)) (blkU_ BK0.out) hg (Kd.R_away HO_0.out (fun _ hk => hk))); replace HB := a_ (hb); have HO0 := a_ (ho); clear HO_0; clear ho hb hg hat; obtain ⟨z12, z13, f12, f13⟩ := cz2_ BK0.out) | (refine gcB_ 77 23 Try.func77 (impl_node_halves.calls _ _ _ _ _ _ _ _ A0.out) ?_; intro w6 hb; replace HO0 := rb_ HO0.out hb; replace BK0 := bb_ BK0.out hb; replace HB := s_ hb; clear hb) | (refine bx_ 7 #[.int .i64 0, .int .i64 0] 100 ?_; intro gb1 w7 hg hb BK1 GW0; replace HO0 := a_ (Kd.R_below (Kd.R_elderB (kdU_ HO0.out) gb1 (Nat.le_of_eq hg.symm)) hb); replace HB := s_ hb; obtain ⟨NB0, NB2⟩ := ne2_ BK0.out hg; replace BK0 := bb_ BK0.out hb; clear hb hg) | (refine bx_ 8 #[.int .i64 0, .int .i64 0] 100 ?_; intro gb2 w9 hg hb BK2 GW1; replace HO0 := a_ (Kd.R_below (Kd.R_elderB (kdU_ HO0.out) gb2 (Nat.le_of_eq hg.symm)) hb); replace HB := s_ hb; obtain ⟨NB1, NB4⟩ := ne2_ BK0.out hg; replace BK0 := bb_ BK0.out hb; obtain ⟨NB3, NB5⟩ := ne2_ BK1.out hg; replace BK1 := bb_ BK1.out hb; clear hb hg; have hnb3 := NB2.out; have hnc3 := NB0.out; have hnb4 := NB3.out; have hnc4 := NB5.out; obtain ⟨z14, z15, f14, f15⟩ := cz2_ BK1.out; have hnb5 := NB4.out; have hnc5 := NB1.out; obtain ⟨z16, z17, f16, f17⟩ := cz2_ BK2.out; obtain ⟨z18, z19, f18, f19⟩ := cz2_ BK0.out))
     go_roundg k1
     case measure => have := HK1.out; omega
     case rel => exact ⟨(y0), (t1), (t2), H', ⟨by have := HK1.out; omega⟩, ⟨uR_ (Kd.R_mono (Kd.R_far (p := ⟨gb0, 1, none⟩) (Kd.R_far (p := ⟨gb0, 0, none⟩) (Kd.R_far (p := ⟨gb2, 1, none⟩) (Kd.R_far (p := ⟨gb2, 0, none⟩) (Kd.R_far (p := ⟨gb1, 1, none⟩) (Kd.R_far (p := ⟨gb1, 0, none⟩) (Kd.R_mono (Kd.R_mono (Kd.R_mono HO0.out (fun k_ hk => (⟨hk, hk.1.2⟩ : _ ∧ k_ ≠ gb1))) (fun k_ hk => (⟨hk, hk.1.2⟩ : _ ∧ k_ ≠ gb2))) (fun k_ hk => (⟨hk, hk.1.1.1.1⟩ : _ ∧ k_ ≠ gb0))) (fun _ hk => hk.1.1.2) (.int .i64 t3)) (fun _ hk => hk.1.1.2) (.int .i64 t0)) (fun _ hk => hk.1.2) (.int .i64 t1)) (fun _ hk => hk.1.2) (.int .i64 t2)) (fun _ hk => hk.2) (.int .i64 t1)) (fun _ hk => hk.2) (.int .i64 t2)) (fun _ hk => hk.1.1.1.1.1))⟩, ⟨blkF_ BK0.out⟩, ⟨bel_⟩⟩
   ·rw [if_neg c5] at H
    have c0 : decide (1 < (wrap64 (x1 - x0))) = false := decide_eq_false c5
    clear c5
    obtain rfl := Option.some.inj H
    obtain ⟨z20, z21, f20, f21⟩ := cz2_ BK0.out
    go_wp2
    go_ret
    exact ⟨_, rfl_, uR_ (Kd.R_mono HO_0.out (fun _ hk => trivial)), bel_⟩
end
section
def impl_PathLen.f (k : Nat) (a0 a1 : Int) : Option (Int) := (impl_in.f a0 1 256).bind fun t0 => (if t0 = true then ((impl_in.f a1 0 (wrap64 (a0 - 1))).bind fun t1 => (if t1 = true then ((impl_way.f k a0 a1).bind fun t2 => (some (t2.length : Int))) else (some (-1)))) else (some (-1)))
theorem impl_PathLen.calls (k : Nat) (a0 a1 r : Int) (w : World) (h : impl_PathLen.f k a0 a1 = some r) :
  Calls Try.prog 78 #[.int .i64 a0, .int .i64 a1] w fun e w' => e = .returned (.int .i64 r) ∧ Below w.heap.size w w' := by
 have HB := rB_ w
 have H := h
 unfold impl_PathLen.f at H
 clear h
 obtain ⟨t0, A0, H⟩ := bnd_ H
 by_cases c4 : t0 = true
 ·subst c4
  rw [if_pos rfl] at H
  obtain ⟨t1, A1, H⟩ := bnd_ H
  by_cases c6 : t1 = true
  ·subst c6
   rw [if_pos rfl] at H
   obtain ⟨t2, A2, H⟩ := bnd_ H
   obtain rfl := Option.some.inj H
   go_enter Try.func78, Try.ntmps78
   go_wp2_with (first | (refine gcD_ 75 6 Try.func75 (impl_in.calls _ _ _ _ _ A0.out) ?_; intro nd) | (go_at_call 75; (with_reducible refine (impl_in.calls _ _ _ _ _ A1.out).mono ?_); rintro e w' ⟨rfl, ⟨nd, rfl⟩⟩) | (refine gcL_ 76 (some 17) Try.func76 #[.int .i64 a0, .int .i64 a1] ?_; (with_reducible refine (impl_way.calls _ _ _ _ _ A2.out).mono ?_); rintro e w8 ⟨v0, rfl, ho0, hb⟩; refine ⟨_, rfl, ?_⟩; have HO0 := a_ (Kd.R_lower ho0 (below_size bel_)); replace HB := s_ hb; clear hb; (try clear ho0); obtain ⟨Ao0, co0, eo0⟩ := Kd.R_slice HO0.out; subst eo0))
   go_ret
   exact ⟨rfl_, bel_⟩
  ·replace c6 := Bool.eq_false_iff.mpr c6
   subst c6
   rw [if_neg (show ¬ (false = true) by decide)] at H
   obtain rfl := Option.some.inj H
   go_enter Try.func78, Try.ntmps78
   go_wp2_with (first | (refine gcD_ 75 6 Try.func75 (impl_in.calls _ _ _ _ _ A0.out) ?_; intro nd) | (go_at_call 75; (with_reducible refine (impl_in.calls _ _ _ _ _ A1.out).mono ?_); rintro e w' ⟨rfl, ⟨nd, rfl⟩⟩))
   go_ret
   exact ⟨rfl_, bel_⟩
 ·replace c4 := Bool.eq_false_iff.mpr c4
  subst c4
  rw [if_neg (show ¬ (false = true) by decide)] at H
  obtain rfl := Option.some.inj H
  go_enter Try.func78, Try.ntmps78
  go_wp2_with (first | (refine gcD_ 75 6 Try.func75 (impl_in.calls _ _ _ _ _ A0.out) ?_; intro nd))
  go_ret
  exact ⟨rfl_, bel_⟩
end
def impl_Digest.f (l0 : List S29) : Option (List S29) := if (l0.length : Int) ≤ 8796093022208 then some l0 else none
theorem impl_Digest.calls (A0 : Option Addr) (c0 : Nat) (l0 : List S29) (r : List S29) (w : World) (hr0 : Kd.C k29 w A0 l0.length l0) (hc0 : l0.length ≤ c0) (h : impl_Digest.f l0 = some r) :
  Calls Try.prog 65 #[.slice A0 l0.length c0] w fun e w' => ∃ v0_ : Value, e = .returned (v0_) ∧ Kd.R k29 29 w' w.heap.size (fun _ => True) v0_ r ∧ Below w.heap.size w w' := by
 have HR0 := a_ hr0
 clear hr0
 have HB := rB_ w
 unfold impl_Digest.f at h
 by_cases c1 : (l0.length : Int) ≤ 8796093022208
 ·rw [if_pos c1] at h
  obtain rfl := Option.some.inj h
  by_cases c2 : (l0.length : Int) = 0
  ·have c11 : ((l0.length : Int) == 0) = true := beq_iff_eq.mpr c2
   obtain rfl : l0 = [] := List.eq_nil_of_length_eq_zero (by omega)
   go_enter Try.func65, Try.ntmps65
   go_wp2
   go_ret
   exact ⟨_, rfl, Kd.R_nil _ _ _ _ _, bel_⟩
  ·have c11 : ((l0.length : Int) == 0) = false := beq_eq_false_iff_ne.mpr c2
   have hp : 0 < l0.length := by omega
   go_enter Try.func65, Try.ntmps65
   go_wp2_with (first
    | ((with_reducible refine gate_dst (N := 9) rfl ?_); refine Kd.R_make k29 _ 29 rfl (N := 9) rfl 49 _ _ rfl (l0.length : Int) rfl rfl Try.underlying49 (.agg #[(.int .u64 0), (.int .u64 0), (.int .u64 0), (.int .u64 0)]) 32 info29 rfl (by decide) (by omega) z29 (ok := fun _ => True) (okp := fun _ => True) (k29_mkM _ _ _ z29) (fun _ hk => hk) trivial (by omega) (Nat.le_trans (Nat.mul_le_mul_right _ (by omega : (l0.length : Int).toNat ≤ 8796093022208)) (by omega)) (Below.refl _ _) (Nat.le_refl _) ?_; intro v0 w1 ho0 hb hg_ hnew_; clear hg_ hnew_; have HO := a_ (Kd.R_lower ho0 (below_size bel_)); have HR1 := a_ (Kd.C_below HR0.out HB.out); have HR2 := a_ (Kd.C_below HR0.out (s_ hb).out); replace HB := s_ hb; clear hb ho0 HR1)
    | ((with_reducible refine gate_dst (N := 12) rfl ?_); refine R_copy k29 (w0 := w) w.heap.size 29 rfl (.tmp 10) (.tmp 11) 49 49 rfl Try.underlying49 (by rw [show ((Try.prog.info? 29).map (·.size)) = some 4 from by kernel_rfl]; rfl) (by decide) (fun _ _ _ _ _ _ h_ => h_) (v := v0) (A := A0) (c := c0) (ys := l0) rfl rfl HO.out HR2.out (by simp) hp HB.out ?_; intro w2 ho1 hb6; clear HO HR2 HB; have HO := a_ ho1; have HB := a_ hb6; clear ho1 hb6))
   go_ret
   exact ⟨_, rfl, HO.out, HB.out⟩
 ·rw [if_neg c1] at h
  exact absurd h (by simp)
def impl_copied_string.f (l0 : List ByteArray) : Option (List ByteArray) := if (l0.length : Int) ≤ 8796093022208 then some l0 else none
theorem impl_copied_string.calls (A0 : Option Addr) (c0 : Nat) (l0 r : List ByteArray) (w : World) (hr0 : Kd.C Kd.string w A0 l0.length l0) (hc0 : l0.length ≤ c0) (h : impl_copied_string.f l0 = some r) :
  Calls Try.prog 99 #[.slice A0 l0.length c0] w fun e w' => ∃ v0_ : Value, e = .returned (v0_) ∧ Kd.R Kd.string 9 w' w.heap.size (fun _ => True) v0_ r ∧ Below w.heap.size w w' := by
 have HR0 := a_ hr0
 clear hr0
 have HB := rB_ w
 unfold impl_copied_string.f at h
 by_cases c1 : (l0.length : Int) ≤ 8796093022208
 ·rw [if_pos c1] at h
  obtain rfl := Option.some.inj h
  by_cases c2 : (l0.length : Int) = 0
  ·have c11 : ((l0.length : Int) == 0) = true := beq_iff_eq.mpr c2
   obtain rfl : l0 = [] := List.eq_nil_of_length_eq_zero (by omega)
   go_enter Try.func99, Try.ntmps99
   go_wp2
   go_ret
   exact ⟨_, rfl, Kd.R_nil _ _ _ _ _, bel_⟩
  ·have c11 : ((l0.length : Int) == 0) = false := beq_eq_false_iff_ne.mpr c2
   have hp : 0 < l0.length := by omega
   go_enter Try.func99, Try.ntmps99
   go_wp2_with (first
    | ((with_reducible refine gate_dst (N := 9) rfl ?_); refine Kd.R_make Kd.string _ 9 rfl (N := 9) rfl 61 _ _ rfl (l0.length : Int) rfl rfl Try.underlying61 (.string ⟨#[]⟩) 16 info9 rfl (by decide) (by omega) (⟨#[]⟩ : ByteArray) (ok := fun _ => True) (okp := fun _ => True) rfl (fun _ hk => hk) trivial (by omega) (Nat.le_trans (Nat.mul_le_mul_right _ (by omega : (l0.length : Int).toNat ≤ 8796093022208)) (by omega)) (Below.refl _ _) (Nat.le_refl _) ?_; intro v0 w1 ho0 hb hg_ hnew_; clear hg_ hnew_; have HO := a_ (Kd.R_lower ho0 (below_size bel_)); have HR1 := a_ (Kd.C_below HR0.out HB.out); have HR2 := a_ (Kd.C_below HR0.out (s_ hb).out); replace HB := s_ hb; clear hb ho0 HR1)
    | ((with_reducible refine gate_dst (N := 12) rfl ?_); refine R_copy Kd.string (w0 := w) w.heap.size 9 rfl (.tmp 10) (.tmp 11) 61 61 rfl Try.underlying61 (by rw [show ((Try.prog.info? 9).map (·.size)) = some 1 from by kernel_rfl]; rfl) (by decide) (fun _ _ _ _ _ _ h_ => h_) (v := v0) (A := A0) (c := c0) (ys := l0) rfl rfl HO.out HR2.out (by simp) hp HB.out ?_; intro w2 ho1 hb6; clear HO HR2 HB; have HO := a_ ho1; have HB := a_ hb6; clear ho1 hb6))
   go_ret
   exact ⟨_, rfl, HO.out, HB.out⟩
 ·rw [if_neg c1] at h
  exact absurd h (by simp)
section
def laws_eqClash.f (a0 a1 a2 a3 : ByteArray) : Option (Bool) := if a0.toList = a2.toList then (if a1.toList = a3.toList then (some true) else (some false)) else (some false)
theorem laws_eqClash.calls (a0 a1 a2 a3 : ByteArray) (r : Bool) (w : World) (h : laws_eqClash.f a0 a1 a2 a3 = some r) :
  Calls Try.prog 23 #[.agg #[.string a0, .string a1], .agg #[.string a2, .string a3]] w fun e w' => e = .returned (.bool r) ∧ Below w.heap.size w w' := by
 have hu46 := Try.underlying46
 have HB := rB_ w
 have H := h
 unfold laws_eqClash.f at H
 clear h
 by_cases c3 : a0.toList = a2.toList
 ·rw [if_pos c3] at H
  have c0 := beq_iff_eq.mpr c3
  have c1 := bne_eq_false_iff_eq.mpr c3
  clear c3
  by_cases c4 : a1.toList = a3.toList
  ·rw [if_pos c4] at H
   have c11 := beq_iff_eq.mpr c4
   have c12 := bne_eq_false_iff_eq.mpr c4
   clear c4
   obtain rfl := Option.some.inj H
   go_enter Try.func23, Try.ntmps23
   go_wp2_with (first | (refine bx_ 2 #[.string a0, .string a1] 46 ?_; intro gb0 w5 hg hb BK0 GW0; replace HB := s_ hb; clear hb hg) | (refine bx_ 3 #[.string a2, .string a3] 46 ?_; intro gb1 w6 hg hb BK1 GW1; replace HB := s_ hb; obtain ⟨NB0, NB1⟩ := ne2_ BK0.out hg; replace BK0 := bb_ BK0.out hb; clear hb hg; have hnb2 := NB0.out; have hnc2 := NB1.out; obtain ⟨z8, z9, f8, f9⟩ := cz2_ BK0.out; obtain ⟨z10, z11, f10, f11⟩ := cz2_ BK1.out))
   go_ret
   exact ⟨rfl_, bel_⟩
  ·rw [if_neg c4] at H
   have c11 := beq_eq_false_iff_ne.mpr c4
   have c12 := bne_iff_ne.mpr c4
   obtain rfl := Option.some.inj H
   go_enter Try.func23, Try.ntmps23
   go_wp2_with (first | (refine bx_ 2 #[.string a0, .string a1] 46 ?_; intro gb0 w1 hg hb BK0 GW0; replace HB := s_ hb; clear hb hg) | (refine bx_ 3 #[.string a2, .string a3] 46 ?_; intro gb1 w2 hg hb BK1 GW1; replace HB := s_ hb; obtain ⟨NB0, NB1⟩ := ne2_ BK0.out hg; replace BK0 := bb_ BK0.out hb; clear hb hg; have hnb0 := NB0.out; have hnc0 := NB1.out; obtain ⟨z0, z1, f0, f1⟩ := cz2_ BK0.out; obtain ⟨z2, z3, f2, f3⟩ := cz2_ BK1.out))
   go_ret
   exact ⟨rfl_, bel_⟩
 ·rw [if_neg c3] at H
  have c0 := beq_eq_false_iff_ne.mpr c3
  have c1 := bne_iff_ne.mpr c3
  obtain rfl := Option.some.inj H
  go_enter Try.func23, Try.ntmps23
  go_wp2_with (first | (refine bx_ 2 #[.string a0, .string a1] 46 ?_; intro gb0 w3 hg hb BK0 GW0; replace HB := s_ hb; clear hb hg) | (refine bx_ 3 #[.string a2, .string a3] 46 ?_; intro gb1 w4 hg hb BK1 GW1; replace HB := s_ hb; obtain ⟨NB0, NB1⟩ := ne2_ BK0.out hg; replace BK0 := bb_ BK0.out hb; clear hb hg; have hnb1 := NB0.out; have hnc1 := NB1.out; obtain ⟨z4, z5, f4, f5⟩ := cz2_ BK0.out; obtain ⟨z6, z7, f6, f7⟩ := cz2_ BK1.out))
  go_ret
  exact ⟨rfl_, bel_⟩
end
end
end Go.Proofs.Ytflckegggopdnaa.B
