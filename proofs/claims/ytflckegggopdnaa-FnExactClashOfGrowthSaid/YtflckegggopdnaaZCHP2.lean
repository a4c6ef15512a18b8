/- Texts that this claim's law leans on, without what nothing names. What each says stands at its theorems; conditions stand in them. (Put together by the session's program shake.py; Lean checks it.) -/
import Derived.Maps.OwnSet
import Derived.DeepKeys4
import Derived.Test.YtflckegggopdnaaZCHP0
namespace Go.Proofs.Ytflckegggopdnaa.B
section
open Go.RowKit Go.Proofs.YtflckegggopdnaaW.PrintWords Go.Proofs.YtflckegggopdnaaW.PrintLast Go.Proofs.YtflckegggopdnaaW.PrintMore
attribute [local go_sem] max2_int min2_int max_two min_two max_three min_three max_four min_four
set_option linter.unusedVariables false
set_option maxHeartbeats 8000000
set_option maxRecDepth 100000
set_option linter.unusedSimpArgs false
section
def binary_bigEndian_AppendUint64.f  (l1 : List Int) (a2 : Int) : Option (List Int) := (some (([(a2 / 72057594037927936) % 256, (a2 / 281474976710656) % 256, (a2 / 1099511627776) % 256, (a2 / 4294967296) % 256, (a2 / 16777216) % 256, (a2 / 65536) % 256, (a2 / 256) % 256, (a2) % 256] : List Int) : List Int)).bind fun y325 => (if l1.length + y325.length < 140737488355328 then (some (l1 ++ y325)) else (none))
theorem binary_bigEndian_AppendUint64.calls  (P1_ : Nat → Prop) (u9000_ : Value) (l1 : List Int) (a2 : Int) (r : List Int) (w0 w : World) (hB : Below w0.heap.size w0 w) (ho1 : Kd.R (Kd.int .u8) 5 w w0.heap.size P1_ u9000_ l1) (h : binary_bigEndian_AppendUint64.f l1 a2 = some r) :
  Calls Try.prog 111 #[.agg #[], u9000_, .int .u64 a2] w fun e w' => ∃ v0_ : Value, e = .returned (v0_) ∧ Kd.R (Kd.int .u8) 5 w' w0.heap.size (fun k_ => (P1_ k_ ∨ w.heap.size ≤ k_)) v0_ r ∧ Below w0.heap.size w0 w' ∧ Kept w w' (fun k_ => P1_ k_) := by
 have hu141 := Try.underlying141
 have HO1 := a_ (show Kd.R (Kd.int .u8) 5 w w0.heap.size (fun k_ => (P1_ k_ ∨ w.heap.size ≤ k_)) u9000_ l1 from Kd.R_mono ho1 (fun k_ hk => (.inl hk)))
 have HK := a_ (Kept.refl w (fun k_ => P1_ k_))
 have HW0 := Aside0.mk hB.size
 have HB := Aside0.mk hB
 clear hB
 have H : ((some (([(a2 / 72057594037927936) % 256, (a2 / 281474976710656) % 256, (a2 / 1099511627776) % 256, (a2 / 4294967296) % 256, (a2 / 16777216) % 256, (a2 / 65536) % 256, (a2 / 256) % 256, (a2) % 256] : List Int) : List Int)).bind fun y325 => (if l1.length + y325.length < 140737488355328 then (some (l1 ++ y325)) else (none))) = some r := h
 clear h
 obtain ⟨y325, hy325⟩ : ∃ y_ : List Int, y_ = (([(a2 / 72057594037927936) % 256, (a2 / 281474976710656) % 256, (a2 / 1099511627776) % 256, (a2 / 4294967296) % 256, (a2 / 16777216) % 256, (a2 / 65536) % 256, (a2 / 256) % 256, (a2) % 256] : List Int)) := ⟨_, rfl⟩
 replace H : (if l1.length + y325.length < 140737488355328 then (some (l1 ++ y325)) else (none)) = some r := rpl_ hy325 H
 have Ny325 := Aside0.mk hy325
 clear hy325
 by_cases c4 : l1.length + y325.length < 140737488355328
 ·rw [if_pos c4] at H
  have LMc4 := Aside0.mk c4
  clear c4
  obtain ⟨y328, hy328⟩ : ∃ y_ : List Int, y_ = (l1 ++ y325) := ⟨_, rfl⟩
  replace H : (some y328) = some r := rpl_ hy328 H
  have Ny328 := Aside0.mk hy328
  clear hy328
  obtain rfl := Option.some.inj H
  go_enter Try.func111, Try.ntmps111
  go_wp2_with (first | ((with_reducible refine gate_dst (N := 3) rfl ?_); refine boxE_ (cs := #[]) (t := 141) ?_; intro gb324 hg w5 hbox hb; replace HO1 := rb_ HO1.out hb; have BK324 := a_ (hbox); have GW324 := a_ ((by rw [hg]; exact (by first | exact HK.out.1 | exact (show Kept w _ (fun k_ => P1_ k_) from by repeat (first | (with_reducible first | exact HK.out | apply Kept.alloc | apply Kept.drewN | apply Kept.drew) | exact HK.out)).1) : w.heap.size ≤ gb324)); replace HK := a_ (Kept.below (S := (fun k_ => P1_ k_)) (by repeat (first | (with_reducible first | exact HK.out | apply Kept.alloc | apply Kept.drewN | apply Kept.drew) | exact HK.out)) hb); have GE324 := sizeB_ hg; replace HB := stepB_ hb; clear hb hbox hg) | ((with_reducible refine gate_dst (N := 31) rfl ?_); refine Kd.R_lit (Kd.int .u8) _ 5 ?hg (N := 31) ?hd (xs := ([(a2 / 72057594037927936) % 256, (a2 / 281474976710656) % 256, (a2 / 1099511627776) % 256, (a2 / 4294967296) % 256, (a2 / 16777216) % 256, (a2 / 65536) % 256, (a2 / 256) % 256, (a2) % 256] : List Int)) (inner := [.int .u8 ((a2 / 72057594037927936) % 256), .int .u8 ((a2 / 281474976710656) % 256), .int .u8 ((a2 / 1099511627776) % 256), .int .u8 ((a2 / 4294967296) % 256), .int .u8 ((a2 / 16777216) % 256), .int .u8 ((a2 / 65536) % 256), .int .u8 ((a2 / 256) % 256), .int .u8 ((a2) % 256)]) (ok := fun _ => True) (okp := fun _ => True) ?hr ?hp (fun _ hk => hk) trivial (Below.refl _ _) (Nat.le_refl _) (by simp) ?_; (case hd => rfl); (case hg => rfl); (case hr => first | (go_simp; done) | (go_simp; rfl)); (case hp => exact (Reps.one (show Kd.M (Kd.int .u8) _ _ _ ((a2 / 72057594037927936) % 256) [.int .u8 ((a2 / 72057594037927936) % 256)] from rfl) (Reps.one (show Kd.M (Kd.int .u8) _ _ _ ((a2 / 281474976710656) % 256) [.int .u8 ((a2 / 281474976710656) % 256)] from rfl) (Reps.one (show Kd.M (Kd.int .u8) _ _ _ ((a2 / 1099511627776) % 256) [.int .u8 ((a2 / 1099511627776) % 256)] from rfl) (Reps.one (show Kd.M (Kd.int .u8) _ _ _ ((a2 / 4294967296) % 256) [.int .u8 ((a2 / 4294967296) % 256)] from rfl) (Reps.one (show Kd.M (Kd.int .u8) _ _ _ ((a2 / 16777216) % 256) [.int .u8 ((a2 / 16777216) % 256)] from rfl) (Reps.one (show Kd.M (Kd.int .u8) _ _ _ ((a2 / 65536) % 256) [.int .u8 ((a2 / 65536) % 256)] from rfl) (Reps.one (show Kd.M (Kd.int .u8) _ _ _ ((a2 / 256) % 256) [.int .u8 ((a2 / 256) % 256)] from rfl) (Reps.one (show Kd.M (Kd.int .u8) _ _ _ ((a2) % 256) [.int .u8 ((a2) % 256)] from rfl) (Reps.none _ _)))))))))); intro v326 w6 ho7 hb hg_ hnew_; clear hg_ hnew_; (first | rw [← Ny325.out] at ho7 | (simp only [Int.reduceToNat] at ho7; rw [← Ny325.out] at ho7)); have HO327 := a_ (Kd.R_lower (Kd.R_new' (Kd.R_newM (M := fun k_ => (P1_ k_ ∨ w.heap.size ≤ k_)) ho7 (by first | exact HK.out.1 | exact (show Kept w _ (fun k_ => P1_ k_) from by repeat (first | (with_reducible first | exact HK.out | apply Kept.alloc | apply Kept.drewN | apply Kept.drew | refine Kept.setCell ?_ (.inr GW324.out) _) | exact HK.out)).1) (fun k_ h_ => .inr h_)) (Kd.R_lt (kdU_ HO1.out))) (below_size bel_)); replace HO1 := a_ (Kd.R_elder' (kdU_ HO1.out) (Kd.R_base ho7) hb); replace BK324 := bb_ BK324.out hb; replace HK := a_ (Kept.below (S := (fun k_ => P1_ k_)) (by repeat (first | (with_reducible first | exact HK.out | apply Kept.alloc | apply Kept.drewN | apply Kept.drew | refine Kept.setCell ?_ (.inr GW324.out) _) | exact HK.out)) hb); replace HB := stepB_ hb; clear hb ho7; obtain ⟨Ao9, co9, eo9⟩ := Kd.R_slice HO327.out; subst eo9) | ((with_reducible refine gate_builtin (b := .append) (xs := #[.tmp 7, .tmp 31]) rfl ?_); at_builtin; refine Kd.R_append_rows (Kd.int .u8) (w0 := w0) w0.heap.size rfl (.tmp 7) (.tmp 31) 60 5 (.int .u8 0) 1 rfl Try.underlying60 info5 rfl (by decide) (by omega) u9000_ l1 y325 _ _ _ (fun k_ => (P1_ k_ ∨ w.heap.size ≤ k_) ∧ some k_ ≠ (.slice Ao9 y325.length co9 : Value).ownBlock) (fun _ => False) rfl rfl ?aO ?aR (fun _ _ h => h) (fun _ h => h.elim) ?aF ?aB ?aS ?aL ?_; (case aR => repeat (first | exact (Kd.R_reads' HO327.out).2.2 | (with_reducible refine Kd.C_alloc ?_ _) | (with_reducible refine Kd.C_drewN ?_ _) | (with_reducible refine Kd.C_drew ?_))); (case aB => exact bel_); (case aF => exact (fun k_ hk => ⟨(.inr (Nat.le_trans (by first | exact HK.out.1 | exact (show Kept w _ (fun k_ => P1_ k_) from by repeat (first | (with_reducible first | exact HK.out | apply Kept.alloc | apply Kept.drewN | apply Kept.drew | refine Kept.setCell ?_ (.inr GW324.out) _) | exact HK.out)).1) hk)), Kd.fresh' (Kd.R_lt (kdU_ HO327.out)) k_ hk⟩)); (case aO => exact (kdU_ HO1.out)); (case aS => exact (below_size bel_)); (case aL => have := LMc4.out; omega); intro v329 w8 ho hb hg hat; rw [← Ny328.out] at ho; replace BK324 := a_ (blk_grown (g := gb324) (o := .cells #[] 141 (0, 0)) (blkU_ BK324.out) hg (Kd.R_ne HO1.out BK324.out (by decide))); replace HO327 := a_ (Kd.R_after (ok := (fun k_ => (P1_ k_ ∨ w.heap.size ≤ k_))) (by (with_reducible repeat (first | apply Kd.R_alloc | apply Kd.R_drewN | apply Kd.R_drew)); exact Kd.R_mono HO327.out (fun _ hk => ⟨hk.1.1, hk.2⟩)) hg hat); replace HB := a_ (hb); replace HK := a_ (Kept.of_grown (S := (fun k_ => P1_ k_)) hg (by repeat (first | (with_reducible first | exact HK.out | apply Kept.alloc | apply Kept.drewN | apply Kept.drew | refine Kept.setCell ?_ (.inr GW324.out) _) | exact HK.out)) (fun k_ e_ => (HO1.out.1 k_ e_).1)); have HO330 := a_ (ho); clear HO1; clear ho hb hg hat))
  go_ret
  exact ⟨_, rfl_, by (with_reducible repeat (first | apply Kd.R_alloc | apply Kd.R_drewN | apply Kd.R_drew)); exact Kd.R_mono HO330.out (fun _ hk => hk.1), bel_, by repeat (first | (with_reducible first | exact HK.out | apply Kept.alloc | apply Kept.drewN | apply Kept.drew | refine Kept.setCell ?_ (.inr GW324.out) _) | exact HK.out)⟩
 ·rw [if_neg c4] at H
  exact absurd H (by simp)
end
section
def bits_RotateLeft64.f (a0 a1 : Int) : Option (Int) := if 0 ≤ (Go.bits .and .u64 (IntKind.u64.wrap (a1)) 63) then (if 0 ≤ (IntKind.u64.wrap (64 - (Go.bits .and .u64 (IntKind.u64.wrap (a1)) 63))) then (some (Go.bits .or .u64 (shl .u64 a0 (Go.bits .and .u64 (IntKind.u64.wrap (a1)) 63)) (shr .u64 a0 (IntKind.u64.wrap (64 - (Go.bits .and .u64 (IntKind.u64.wrap (a1)) 63)))))) else (none)) else (none)
theorem bits_RotateLeft64.calls (a0 a1 r : Int) (w : World) (h : bits_RotateLeft64.f a0 a1 = some r) :
  Calls Try.prog 128 #[.int .u64 a0, .int .i64 a1] w fun e w' => e = .returned (.int .u64 r) ∧ Drawn0 w w' := by
 have H := h
 unfold bits_RotateLeft64.f at H
 clear h
 obtain ⟨ji3, hji3⟩ : ∃ j_ : Int, (Go.bits .and .u64 (IntKind.u64.wrap (a1)) 63) = j_ := ⟨_, rfl⟩
 replace H : (if 0 ≤ (ji3) then (if 0 ≤ (IntKind.u64.wrap (64 - (ji3))) then (some (Go.bits .or .u64 (shl .u64 a0 (ji3)) (shr .u64 a0 (IntKind.u64.wrap (64 - (ji3)))))) else (none)) else (none)) = some r := by first | (rw [hji3] at H; exact H) | (simp only [hji3] at H ⊢; exact H)
 by_cases c4 : 0 ≤ (ji3)
 ·rw [if_pos c4] at H
  have c4b0 := eq_true c4
  have c4b1 := decide_eq_true c4
  clear c4
  obtain ⟨ji5, hji5⟩ : ∃ j_ : Int, (shl .u64 a0 (ji3)) = j_ := ⟨_, rfl⟩
  replace H : (if 0 ≤ (IntKind.u64.wrap (64 - (ji3))) then (some (Go.bits .or .u64 (ji5) (shr .u64 a0 (IntKind.u64.wrap (64 - (ji3)))))) else (none)) = some r := by first | (rw [hji5] at H; exact H) | (simp only [hji5] at H ⊢; exact H)
  have hji5_ : (IntKind.u64.wrap (a0 * 2 ^ min (ji3).toNat 64)) = ji5 := hji5
  have hji5z : (ji3) ≤ 64 → (IntKind.u64.wrap (a0 * 2 ^ (ji3).toNat)) = ji5 := shl_small hji5
  obtain ⟨ji6, hji6⟩ : ∃ j_ : Int, (IntKind.u64.wrap (64 - (ji3))) = j_ := ⟨_, rfl⟩
  replace H : (if 0 ≤ (ji6) then (some (Go.bits .or .u64 (ji5) (shr .u64 a0 (ji6)))) else (none)) = some r := by first | (rw [hji6] at H; exact H) | (simp only [hji6] at H ⊢; exact H)
  by_cases c7 : 0 ≤ (ji6)
  ·rw [if_pos c7] at H
   have c7b0 := eq_true c7
   have c7b1 := decide_eq_true c7
   clear c7
   obtain ⟨ji8, hji8⟩ : ∃ j_ : Int, (shr .u64 a0 (ji6)) = j_ := ⟨_, rfl⟩
   replace H : (some (Go.bits .or .u64 (ji5) (ji8))) = some r := by first | (rw [hji8] at H; exact H) | (simp only [hji8] at H ⊢; exact H)
   have hji8_ : (a0 / 2 ^ min (ji6).toNat 64) = ji8 := hji8
   have hji8z : (ji6) ≤ 64 → (a0 / 2 ^ (ji6).toNat) = ji8 := shr_small hji8
   obtain rfl := Option.some.inj H
   go_enter Try.func128, Try.ntmps128
   go_wp2
   go_ret
   exact ⟨by first | rfl | (simp; done) | (simp only [← hji3, ← hji5, ← hji6, ← hji8] <;> (first | rfl | simp)) | (simp [*]; done), by repeat (first | exact Drawn0.refl _ | apply Drawn0.step)⟩
  ·rw [if_neg c7] at H
   exact absurd H (by simp)
 ·rw [if_neg c4] at H
  exact absurd H (by simp)
end
section
def binary_bigEndian_Uint64.f  (l1 : List Int) : Option (Int) := if 7 < (l1.length : Int) then (if 6 < (l1.length : Int) then (if 5 < (l1.length : Int) then (if 4 < (l1.length : Int) then (if 3 < (l1.length : Int) then (if 2 < (l1.length : Int) then (if 1 < (l1.length : Int) then (if 0 < (l1.length : Int) then (some (Go.bits .or .u64 (Go.bits .or .u64 (Go.bits .or .u64 (Go.bits .or .u64 (Go.bits .or .u64 (Go.bits .or .u64 (Go.bits .or .u64 (IntKind.u64.wrap (rd l1 7)) (IntKind.u64.wrap ((IntKind.u64.wrap (rd l1 6)) * 256))) (IntKind.u64.wrap ((IntKind.u64.wrap (rd l1 5)) * 65536))) (IntKind.u64.wrap ((IntKind.u64.wrap (rd l1 4)) * 16777216))) (IntKind.u64.wrap ((IntKind.u64.wrap (rd l1 3)) * 4294967296))) (IntKind.u64.wrap ((IntKind.u64.wrap (rd l1 2)) * 1099511627776))) (IntKind.u64.wrap ((IntKind.u64.wrap (rd l1 1)) * 281474976710656))) (IntKind.u64.wrap ((IntKind.u64.wrap (rd l1 0)) * 72057594037927936)))) else (none)) else (none)) else (none)) else (none)) else (none)) else (none)) else (none)) else (none)
theorem binary_bigEndian_Uint64.calls  (A1 : Option Addr) (c1 : Nat) (l1 : List Int) (r : Int) (w : World) (hr1 : Kd.C (Kd.int .u8) w A1 l1.length l1) (hc1 : l1.length ≤ c1) (h : binary_bigEndian_Uint64.f l1 = some r) :
  Calls Try.prog 129 #[.agg #[], .slice A1 l1.length c1] w fun e w' => e = .returned (.int .u64 r) ∧ Below w.heap.size w w' := by
 have hu141 := Try.underlying141
 have HR1 := Aside0.mk hr1
 have HC1 := Aside0.mk hc1
 clear hr1 hc1
 have HB := a_ (Below.refl w.heap.size w)
 have H : (if 7 < (l1.length : Int) then (if 6 < (l1.length : Int) then (if 5 < (l1.length : Int) then (if 4 < (l1.length : Int) then (if 3 < (l1.length : Int) then (if 2 < (l1.length : Int) then (if 1 < (l1.length : Int) then (if 0 < (l1.length : Int) then (some (Go.bits .or .u64 (Go.bits .or .u64 (Go.bits .or .u64 (Go.bits .or .u64 (Go.bits .or .u64 (Go.bits .or .u64 (Go.bits .or .u64 (IntKind.u64.wrap (rd l1 7)) (IntKind.u64.wrap ((IntKind.u64.wrap (rd l1 6)) * 256))) (IntKind.u64.wrap ((IntKind.u64.wrap (rd l1 5)) * 65536))) (IntKind.u64.wrap ((IntKind.u64.wrap (rd l1 4)) * 16777216))) (IntKind.u64.wrap ((IntKind.u64.wrap (rd l1 3)) * 4294967296))) (IntKind.u64.wrap ((IntKind.u64.wrap (rd l1 2)) * 1099511627776))) (IntKind.u64.wrap ((IntKind.u64.wrap (rd l1 1)) * 281474976710656))) (IntKind.u64.wrap ((IntKind.u64.wrap (rd l1 0)) * 72057594037927936)))) else (none)) else (none)) else (none)) else (none)) else (none)) else (none)) else (none)) else (none)) = some r := h
 clear h
 by_cases c3 : 7 < (l1.length : Int)
 ·rw [if_pos c3] at H
  have c3b0 := decide_eq_true c3
  have c3b1 : decide (7 < l1.length) = true := decide_eq_true (by omega)
  clear c3
  by_cases c4 : 6 < (l1.length : Int)
  ·rw [if_pos c4] at H
   have c4b0 := decide_eq_true c4
   have c4b1 : decide (6 < l1.length) = true := decide_eq_true (by omega)
   clear c4
   by_cases c5 : 5 < (l1.length : Int)
   ·rw [if_pos c5] at H
    have c5b0 := decide_eq_true c5
    have c5b1 : decide (5 < l1.length) = true := decide_eq_true (by omega)
    clear c5
    by_cases c6 : 4 < (l1.length : Int)
    ·rw [if_pos c6] at H
     have c6b0 := decide_eq_true c6
     have c6b1 : decide (4 < l1.length) = true := decide_eq_true (by omega)
     clear c6
     by_cases c7 : 3 < (l1.length : Int)
     ·rw [if_pos c7] at H
      have c7b0 := decide_eq_true c7
      have c7b1 : decide (3 < l1.length) = true := decide_eq_true (by omega)
      clear c7
      by_cases c8 : 2 < (l1.length : Int)
      ·rw [if_pos c8] at H
       have c8b0 := decide_eq_true c8
       have c8b1 : decide (2 < l1.length) = true := decide_eq_true (by omega)
       clear c8
       by_cases c9 : 1 < (l1.length : Int)
       ·rw [if_pos c9] at H
        have c9b0 := decide_eq_true c9
        have c9b1 : decide (1 < l1.length) = true := decide_eq_true (by omega)
        clear c9
        by_cases c10 : 0 < (l1.length : Int)
        ·rw [if_pos c10] at H
         have c10b0 := decide_eq_true c10
         have c10b1 : decide (0 < l1.length) = true := decide_eq_true (by omega)
         clear c10
         obtain rfl := Option.some.inj H
         go_enter Try.func129, Try.ntmps129
         go_wp2_with (first | ((with_reducible refine gate_dst (N := 2) rfl ?_); refine boxE_ (cs := #[]) (t := 141) ?_; intro gb336 hg w11 hbox hb; have BK336 := a_ (hbox); have GW336 := sizeB_ hg; replace HB := stepB_ hb; clear hb hbox hg; have p337 : 0 ≤ (7 : Int) := (by omega); have q337 : 7 < (l1.length : Int) := ofd_; obtain ⟨ad337, e337, hx337_0⟩ := Kd.at_int HR1.out 7 p337 q337; cases e337; (try simp only [show (7 : Int).toNat = 7 from rfl, Nat.reduceMul, Nat.reduceEqDiff, Go.Addr.add, ↓reduceIte] at hx337_0); have qi337 : (7 < l1.length) = True := eq_true (by omega); (try rw [show ((7 : Int)).toNat = 7 from rfl] at hx337_0); replace hx337_0 := pc_ HB.out hx337_0; replace p337 := eq_true p337; replace q337 := eq_true q337; have p338 : 0 ≤ (7 : Int) := (by omega); have q338 : 7 < (l1.length : Int) := ofd_; obtain ⟨ad338, e338, hx338_0⟩ := Kd.at_int HR1.out 7 p338 q338; obtain rfl : ad337 = ad338 := (by injection e338); (try simp only [show (7 : Int).toNat = 7 from rfl, Nat.reduceMul, Nat.reduceEqDiff, Go.Addr.add, ↓reduceIte] at hx338_0); have qi338 : (7 < l1.length) = True := eq_true (by omega); (try rw [show ((7 : Int)).toNat = 7 from rfl] at hx338_0); replace hx338_0 := pc_ HB.out hx338_0; replace p338 := eq_true p338; replace q338 := eq_true q338; have p339 : 0 ≤ (6 : Int) := (by omega); have q339 : 6 < (l1.length : Int) := ofd_; obtain ⟨ad339, e339, hx339_0⟩ := Kd.at_int HR1.out 6 p339 q339; obtain rfl : ad337 = ad339 := (by injection e339); (try simp only [show (6 : Int).toNat = 6 from rfl, Nat.reduceMul, Nat.reduceEqDiff, Go.Addr.add, ↓reduceIte] at hx339_0); have qi339 : (6 < l1.length) = True := eq_true (by omega); (try rw [show ((6 : Int)).toNat = 6 from rfl] at hx339_0); replace hx339_0 := pc_ HB.out hx339_0; replace p339 := eq_true p339; replace q339 := eq_true q339; have p340 : 0 ≤ (5 : Int) := (by omega); have q340 : 5 < (l1.length : Int) := ofd_; obtain ⟨ad340, e340, hx340_0⟩ := Kd.at_int HR1.out 5 p340 q340; obtain rfl : ad337 = ad340 := (by injection e340); (try simp only [show (5 : Int).toNat = 5 from rfl, Nat.reduceMul, Nat.reduceEqDiff, Go.Addr.add, ↓reduceIte] at hx340_0); have qi340 : (5 < l1.length) = True := eq_true (by omega); (try rw [show ((5 : Int)).toNat = 5 from rfl] at hx340_0); replace hx340_0 := pc_ HB.out hx340_0; replace p340 := eq_true p340; replace q340 := eq_true q340; have p341 : 0 ≤ (4 : Int) := (by omega); have q341 : 4 < (l1.length : Int) := ofd_; obtain ⟨ad341, e341, hx341_0⟩ := Kd.at_int HR1.out 4 p341 q341; obtain rfl : ad337 = ad341 := (by injection e341); (try simp only [show (4 : Int).toNat = 4 from rfl, Nat.reduceMul, Nat.reduceEqDiff, Go.Addr.add, ↓reduceIte] at hx341_0); have qi341 : (4 < l1.length) = True := eq_true (by omega); (try rw [show ((4 : Int)).toNat = 4 from rfl] at hx341_0); replace hx341_0 := pc_ HB.out hx341_0; replace p341 := eq_true p341; replace q341 := eq_true q341; have p342 : 0 ≤ (3 : Int) := (by omega); have q342 : 3 < (l1.length : Int) := ofd_; obtain ⟨ad342, e342, hx342_0⟩ := Kd.at_int HR1.out 3 p342 q342; obtain rfl : ad337 = ad342 := (by injection e342); (try simp only [show (3 : Int).toNat = 3 from rfl, Nat.reduceMul, Nat.reduceEqDiff, Go.Addr.add, ↓reduceIte] at hx342_0); have qi342 : (3 < l1.length) = True := eq_true (by omega); (try rw [show ((3 : Int)).toNat = 3 from rfl] at hx342_0); replace hx342_0 := pc_ HB.out hx342_0; replace p342 := eq_true p342; replace q342 := eq_true q342; have p343 : 0 ≤ (2 : Int) := (by omega); have q343 : 2 < (l1.length : Int) := ofd_; obtain ⟨ad343, e343, hx343_0⟩ := Kd.at_int HR1.out 2 p343 q343; obtain rfl : ad337 = ad343 := (by injection e343); (try simp only [show (2 : Int).toNat = 2 from rfl, Nat.reduceMul, Nat.reduceEqDiff, Go.Addr.add, ↓reduceIte] at hx343_0); have qi343 : (2 < l1.length) = True := eq_true (by omega); (try rw [show ((2 : Int)).toNat = 2 from rfl] at hx343_0); replace hx343_0 := pc_ HB.out hx343_0; replace p343 := eq_true p343; replace q343 := eq_true q343; have p344 : 0 ≤ (1 : Int) := (by omega); have q344 : 1 < (l1.length : Int) := ofd_; obtain ⟨ad344, e344, hx344_0⟩ := Kd.at_int HR1.out 1 p344 q344; obtain rfl : ad337 = ad344 := (by injection e344); (try simp only [show (1 : Int).toNat = 1 from rfl, Nat.reduceMul, Nat.reduceEqDiff, Go.Addr.add, ↓reduceIte] at hx344_0); have qi344 : (1 < l1.length) = True := eq_true (by omega); (try rw [show ((1 : Int)).toNat = 1 from rfl] at hx344_0); replace hx344_0 := pc_ HB.out hx344_0; replace p344 := eq_true p344; replace q344 := eq_true q344; have p345 : 0 ≤ (0 : Int) := (by omega); have q345 : 0 < (l1.length : Int) := ofd_; obtain ⟨ad345, e345, hx345_0⟩ := Kd.at_int HR1.out 0 p345 q345; obtain rfl : ad337 = ad345 := (by injection e345); have qi345 : (0 < l1.length) = True := eq_true (by omega); (try rw [show ((0 : Int)).toNat = 0 from rfl] at hx345_0); (try rw [Addr.add_zero'] at hx345_0); replace hx345_0 := pc_ HB.out hx345_0; replace p345 := eq_true p345; replace q345 := eq_true q345))
         repeat (go_quiet (first | ((with_reducible refine gate_dst (N := 2) rfl ?_); refine boxE_ (cs := #[]) (t := 141) ?_; intro gb336 hg w11 hbox hb; have BK336 := a_ (hbox); have GW336 := sizeB_ hg; replace HB := stepB_ hb; clear hb hbox hg; have p337 : 0 ≤ (7 : Int) := (by omega); have q337 : 7 < (l1.length : Int) := ofd_; obtain ⟨ad337, e337, hx337_0⟩ := Kd.at_int HR1.out 7 p337 q337; cases e337; (try simp only [show (7 : Int).toNat = 7 from rfl, Nat.reduceMul, Nat.reduceEqDiff, Go.Addr.add, ↓reduceIte] at hx337_0); have qi337 : (7 < l1.length) = True := eq_true (by omega); (try rw [show ((7 : Int)).toNat = 7 from rfl] at hx337_0); replace hx337_0 := pc_ HB.out hx337_0; replace p337 := eq_true p337; replace q337 := eq_true q337; have p338 : 0 ≤ (7 : Int) := (by omega); have q338 : 7 < (l1.length : Int) := ofd_; obtain ⟨ad338, e338, hx338_0⟩ := Kd.at_int HR1.out 7 p338 q338; obtain rfl : ad337 = ad338 := (by injection e338); (try simp only [show (7 : Int).toNat = 7 from rfl, Nat.reduceMul, Nat.reduceEqDiff, Go.Addr.add, ↓reduceIte] at hx338_0); have qi338 : (7 < l1.length) = True := eq_true (by omega); (try rw [show ((7 : Int)).toNat = 7 from rfl] at hx338_0); replace hx338_0 := pc_ HB.out hx338_0; replace p338 := eq_true p338; replace q338 := eq_true q338; have p339 : 0 ≤ (6 : Int) := (by omega); have q339 : 6 < (l1.length : Int) := ofd_; obtain ⟨ad339, e339, hx339_0⟩ := Kd.at_int HR1.out 6 p339 q339; obtain rfl : ad337 = ad339 := (by injection e339); (try simp only [show (6 : Int).toNat = 6 from rfl, Nat.reduceMul, Nat.reduceEqDiff, Go.Addr.add, ↓reduceIte] at hx339_0); have qi339 : (6 < l1.length) = True := eq_true (by omega); (try rw [show ((6 : Int)).toNat = 6 from rfl] at hx339_0); replace hx339_0 := pc_ HB.out hx339_0; replace p339 := eq_true p339; replace q339 := eq_true q339; have p340 : 0 ≤ (5 : Int) := (by omega); have q340 : 5 < (l1.length : Int) := ofd_; obtain ⟨ad340, e340, hx340_0⟩ := Kd.at_int HR1.out 5 p340 q340; obtain rfl : ad337 = ad340 := (by injection e340); (try simp only [show (5 : Int).toNat = 5 from rfl, Nat.reduceMul, Nat.reduceEqDiff, Go.Addr.add, ↓reduceIte] at hx340_0); have qi340 : (5 < l1.length) = True := eq_true (by omega); (try rw [show ((5 : Int)).toNat = 5 from rfl] at hx340_0); replace hx340_0 := pc_ HB.out hx340_0; replace p340 := eq_true p340; replace q340 := eq_true q340; have p341 : 0 ≤ (4 : Int) := (by omega); have q341 : 4 < (l1.length : Int) := ofd_; obtain ⟨ad341, e341, hx341_0⟩ := Kd.at_int HR1.out 4 p341 q341; obtain rfl : ad337 = ad341 := (by injection e341); (try simp only [show (4 : Int).toNat = 4 from rfl, Nat.reduceMul, Nat.reduceEqDiff, Go.Addr.add, ↓reduceIte] at hx341_0); have qi341 : (4 < l1.length) = True := eq_true (by omega); (try rw [show ((4 : Int)).toNat = 4 from rfl] at hx341_0); replace hx341_0 := pc_ HB.out hx341_0; replace p341 := eq_true p341; replace q341 := eq_true q341; have p342 : 0 ≤ (3 : Int) := (by omega); have q342 : 3 < (l1.length : Int) := ofd_; obtain ⟨ad342, e342, hx342_0⟩ := Kd.at_int HR1.out 3 p342 q342; obtain rfl : ad337 = ad342 := (by injection e342); (try simp only [show (3 : Int).toNat = 3 from rfl, Nat.reduceMul, Nat.reduceEqDiff, Go.Addr.add, ↓reduceIte] at hx342_0); have qi342 : (3 < l1.length) = True := eq_true (by omega); (try rw [show ((3 : Int)).toNat = 3 from rfl] at hx342_0); replace hx342_0 := pc_ HB.out hx342_0; replace p342 := eq_true p342; replace q342 := eq_true q342; have p343 : 0 ≤ (2 : Int) := (by omega); have q343 : 2 < (l1.length : Int) := ofd_; obtain ⟨ad343, e343, hx343_0⟩ := Kd.at_int HR1.out 2 p343 q343; obtain rfl : ad337 = ad343 := (by injection e343); (try simp only [show (2 : Int).toNat = 2 from rfl, Nat.reduceMul, Nat.reduceEqDiff, Go.Addr.add, ↓reduceIte] at hx343_0); have qi343 : (2 < l1.length) = True := eq_true (by omega); (try rw [show ((2 : Int)).toNat = 2 from rfl] at hx343_0); replace hx343_0 := pc_ HB.out hx343_0; replace p343 := eq_true p343; replace q343 := eq_true q343; have p344 : 0 ≤ (1 : Int) := (by omega); have q344 : 1 < (l1.length : Int) := ofd_; obtain ⟨ad344, e344, hx344_0⟩ := Kd.at_int HR1.out 1 p344 q344; obtain rfl : ad337 = ad344 := (by injection e344); (try simp only [show (1 : Int).toNat = 1 from rfl, Nat.reduceMul, Nat.reduceEqDiff, Go.Addr.add, ↓reduceIte] at hx344_0); have qi344 : (1 < l1.length) = True := eq_true (by omega); (try rw [show ((1 : Int)).toNat = 1 from rfl] at hx344_0); replace hx344_0 := pc_ HB.out hx344_0; replace p344 := eq_true p344; replace q344 := eq_true q344; have p345 : 0 ≤ (0 : Int) := (by omega); have q345 : 0 < (l1.length : Int) := ofd_; obtain ⟨ad345, e345, hx345_0⟩ := Kd.at_int HR1.out 0 p345 q345; obtain rfl : ad337 = ad345 := (by injection e345); have qi345 : (0 < l1.length) = True := eq_true (by omega); (try rw [show ((0 : Int)).toNat = 0 from rfl] at hx345_0); (try rw [Addr.add_zero'] at hx345_0); replace hx345_0 := pc_ HB.out hx345_0; replace p345 := eq_true p345; replace q345 := eq_true q345)); try go_wp2_with (first | ((with_reducible refine gate_dst (N := 2) rfl ?_); refine boxE_ (cs := #[]) (t := 141) ?_; intro gb336 hg w11 hbox hb; have BK336 := a_ (hbox); have GW336 := sizeB_ hg; replace HB := stepB_ hb; clear hb hbox hg; have p337 : 0 ≤ (7 : Int) := (by omega); have q337 : 7 < (l1.length : Int) := ofd_; obtain ⟨ad337, e337, hx337_0⟩ := Kd.at_int HR1.out 7 p337 q337; cases e337; (try simp only [show (7 : Int).toNat = 7 from rfl, Nat.reduceMul, Nat.reduceEqDiff, Go.Addr.add, ↓reduceIte] at hx337_0); have qi337 : (7 < l1.length) = True := eq_true (by omega); (try rw [show ((7 : Int)).toNat = 7 from rfl] at hx337_0); replace hx337_0 := pc_ HB.out hx337_0; replace p337 := eq_true p337; replace q337 := eq_true q337; have p338 : 0 ≤ (7 : Int) := (by omega); have q338 : 7 < (l1.length : Int) := ofd_; obtain ⟨ad338, e338, hx338_0⟩ := Kd.at_int HR1.out 7 p338 q338; obtain rfl : ad337 = ad338 := (by injection e338); (try simp only [show (7 : Int).toNat = 7 from rfl, Nat.reduceMul, Nat.reduceEqDiff, Go.Addr.add, ↓reduceIte] at hx338_0); have qi338 : (7 < l1.length) = True := eq_true (by omega); (try rw [show ((7 : Int)).toNat = 7 from rfl] at hx338_0); replace hx338_0 := pc_ HB.out hx338_0; replace p338 := eq_true p338; replace q338 := eq_true q338; have p339 : 0 ≤ (6 : Int) := (by omega); have q339 : 6 < (l1.length : Int) := ofd_; obtain ⟨ad339, e339, hx339_0⟩ := Kd.at_int HR1.out 6 p339 q339; obtain rfl : ad337 = ad339 := (by injection e339); (try simp only [show (6 : Int).toNat = 6 from rfl, Nat.reduceMul, Nat.reduceEqDiff, Go.Addr.add, ↓reduceIte] at hx339_0); have qi339 : (6 < l1.length) = True := eq_true (by omega); (try rw [show ((6 : Int)).toNat = 6 from rfl] at hx339_0); replace hx339_0 := pc_ HB.out hx339_0; replace p339 := eq_true p339; replace q339 := eq_true q339; have p340 : 0 ≤ (5 : Int) := (by omega); have q340 : 5 < (l1.length : Int) := ofd_; obtain ⟨ad340, e340, hx340_0⟩ := Kd.at_int HR1.out 5 p340 q340; obtain rfl : ad337 = ad340 := (by injection e340); (try simp only [show (5 : Int).toNat = 5 from rfl, Nat.reduceMul, Nat.reduceEqDiff, Go.Addr.add, ↓reduceIte] at hx340_0); have qi340 : (5 < l1.length) = True := eq_true (by omega); (try rw [show ((5 : Int)).toNat = 5 from rfl] at hx340_0); replace hx340_0 := pc_ HB.out hx340_0; replace p340 := eq_true p340; replace q340 := eq_true q340; have p341 : 0 ≤ (4 : Int) := (by omega); have q341 : 4 < (l1.length : Int) := ofd_; obtain ⟨ad341, e341, hx341_0⟩ := Kd.at_int HR1.out 4 p341 q341; obtain rfl : ad337 = ad341 := (by injection e341); (try simp only [show (4 : Int).toNat = 4 from rfl, Nat.reduceMul, Nat.reduceEqDiff, Go.Addr.add, ↓reduceIte] at hx341_0); have qi341 : (4 < l1.length) = True := eq_true (by omega); (try rw [show ((4 : Int)).toNat = 4 from rfl] at hx341_0); replace hx341_0 := pc_ HB.out hx341_0; replace p341 := eq_true p341; replace q341 := eq_true q341; have p342 : 0 ≤ (3 : Int) := (by omega); have q342 : 3 < (l1.length : Int) := ofd_; obtain ⟨ad342, e342, hx342_0⟩ := Kd.at_int HR1.out 3 p342 q342; obtain rfl : ad337 = ad342 := (by injection e342); (try simp only [show (3 : Int).toNat = 3 from rfl, Nat.reduceMul, Nat.reduceEqDiff, Go.Addr.add, ↓reduceIte] at hx342_0); have qi342 : (3 < l1.length) = True := eq_true (by omega); (try rw [show ((3 : Int)).toNat = 3 from rfl] at hx342_0); replace hx342_0 := pc_ HB.out hx342_0; replace p342 := eq_true p342; replace q342 := eq_true q342; have p343 : 0 ≤ (2 : Int) := (by omega); have q343 : 2 < (l1.length : Int) := ofd_; obtain ⟨ad343, e343, hx343_0⟩ := Kd.at_int HR1.out 2 p343 q343; obtain rfl : ad337 = ad343 := (by injection e343); (try simp only [show (2 : Int).toNat = 2 from rfl, Nat.reduceMul, Nat.reduceEqDiff, Go.Addr.add, ↓reduceIte] at hx343_0); have qi343 : (2 < l1.length) = True := eq_true (by omega); (try rw [show ((2 : Int)).toNat = 2 from rfl] at hx343_0); replace hx343_0 := pc_ HB.out hx343_0; replace p343 := eq_true p343; replace q343 := eq_true q343; have p344 : 0 ≤ (1 : Int) := (by omega); have q344 : 1 < (l1.length : Int) := ofd_; obtain ⟨ad344, e344, hx344_0⟩ := Kd.at_int HR1.out 1 p344 q344; obtain rfl : ad337 = ad344 := (by injection e344); (try simp only [show (1 : Int).toNat = 1 from rfl, Nat.reduceMul, Nat.reduceEqDiff, Go.Addr.add, ↓reduceIte] at hx344_0); have qi344 : (1 < l1.length) = True := eq_true (by omega); (try rw [show ((1 : Int)).toNat = 1 from rfl] at hx344_0); replace hx344_0 := pc_ HB.out hx344_0; replace p344 := eq_true p344; replace q344 := eq_true q344; have p345 : 0 ≤ (0 : Int) := (by omega); have q345 : 0 < (l1.length : Int) := ofd_; obtain ⟨ad345, e345, hx345_0⟩ := Kd.at_int HR1.out 0 p345 q345; obtain rfl : ad337 = ad345 := (by injection e345); have qi345 : (0 < l1.length) = True := eq_true (by omega); (try rw [show ((0 : Int)).toNat = 0 from rfl] at hx345_0); (try rw [Addr.add_zero'] at hx345_0); replace hx345_0 := pc_ HB.out hx345_0; replace p345 := eq_true p345; replace q345 := eq_true q345)))
         go_ret
         exact ⟨rfl_, bel_⟩
        ·rw [if_neg c10] at H
         exact absurd H (by simp)
       ·rw [if_neg c9] at H
        exact absurd H (by simp)
      ·rw [if_neg c8] at H
       exact absurd H (by simp)
     ·rw [if_neg c7] at H
      exact absurd H (by simp)
    ·rw [if_neg c6] at H
     exact absurd H (by simp)
   ·rw [if_neg c5] at H
    exact absurd H (by simp)
  ·rw [if_neg c4] at H
   exact absurd H (by simp)
 ·rw [if_neg c3] at H
  exact absurd H (by simp)
end
section
def spec_l1In.f (a0 a1 a2 : Int) : Option (Bool) := if a0 ≥ a1 then (some (decide (a0 ≤ a2))) else (some false)
theorem spec_l1In.calls (a0 a1 a2 : Int) (r : Bool) (w : World) (h : spec_l1In.f a0 a1 a2 = some r) :
  Calls Try.prog 94 #[.int .i64 a0, .int .i64 a1, .int .i64 a2] w fun e w' => e = .returned (.bool r) ∧ Drawn0 w w' := by
 have H := h
 unfold spec_l1In.f at H
 clear h
 by_cases c4 : a0 ≥ a1
 ·rw [if_pos c4] at H
  have c4b0 : decide (a1 ≤ a0) = true := decide_eq_true c4
  clear c4
  obtain rfl := Option.some.inj H
  go_enter Try.func94, Try.ntmps94
  go_wp2
  go_ret
  exact ⟨rl_, dr_⟩
 ·rw [if_neg c4] at H
  have c4b0 : decide (a1 ≤ a0) = false := decide_eq_false c4
  clear c4
  obtain rfl := Option.some.inj H
  go_enter Try.func94, Try.ntmps94
  go_wp2
  go_ret
  exact ⟨rl_, dr_⟩
end
section
def spec_TreeSplit.l0 : Nat → Int → Int → Option (Int)
 | 0, _, _ => none
 | k + 1, x0, x3 => if (wrap64 (2 * x3)) < x0 then (spec_TreeSplit.l0 k x0 (wrap64 (2 * x3))) else (some x3)
def spec_TreeSplit.f (k : Nat) (a0 : Int) : Option (Int) := (spec_l1In.f a0 2 256).bind fun t107 => (if t107 = true then (spec_TreeSplit.l0 k a0 1) else (some 0))
theorem spec_TreeSplit.calls (k : Nat) (a0 r : Int) (w : World) (h : spec_TreeSplit.f k a0 = some r) :
  Calls Try.prog 88 #[.int .i64 a0] w fun e w' => e = .returned (.int .i64 r) ∧ Drawn0 w w' := by
 have H := h
 unfold spec_TreeSplit.f at H
 clear h
 obtain ⟨t107, A2, H⟩ := bnd_ H
 by_cases c3 : t107 = true
 ·subst c3
  rw [if_pos rfl] at H
  have H' := Aside0.mk H
  clear H
  go_enter Try.func88, Try.ntmps88
  go_wp2_with (first | (refine gcL_ 94 (some 5) Try.func94 #[.int .i64 a0, .int .i64 2, .int .i64 256] ?_; (with_reducible refine (spec_l1In.calls a0 2 256 true _ A2.out).mono ?_); rintro e w' ⟨rfl, ⟨nd, rfl⟩⟩; refine ⟨_, rfl, ?_⟩))
  go_loopg [3] k (fun kq v3 w' => ∃ (x3_1 : Int), v3 = .int .i64 x3_1 ∧ Aside0 (spec_TreeSplit.l0 kq a0 x3_1 = some r) ∧ Aside0 (kq ≤ k) ∧ Drawn0 w w')
  case atStart => exact ⟨(1), rl_, H', ⟨Nat.le_refl _⟩, by repeat (first | exact Drawn0.refl _ | apply Drawn0.step)⟩
  case round =>
   clear H'
   (try clear c3)
   obtain ⟨x3_1, rfl, HA, HK1, ⟨m1, rfl⟩⟩ := hrel
   cases gk with
   | zero => exact absurd HA.out (by simp [spec_TreeSplit.l0])
   | succ k1 =>
    have H := HA.out
    clear HA
    simp only [spec_TreeSplit.l0] at H
    by_cases c4 : (wrap64 (2 * x3_1)) < a0
    ·rw [if_pos c4] at H
     have c4b0 := decide_eq_true c4
     clear c4
     have H' := Aside0.mk H
     clear H
     go_wp2
     go_roundg k1
     case measure => have := HK1.out; omega
     case rel => exact ⟨(wrap64 (2 * x3_1)), rl_, H', ⟨by have := HK1.out; omega⟩, by repeat (first | exact Drawn0.refl _ | apply Drawn0.step)⟩
    ·rw [if_neg c4] at H
     have c4b0 := decide_eq_false c4
     clear c4
     obtain rfl := Option.some.inj H
     go_wp2
     go_ret
     exact ⟨rl_, dr_⟩
 ·replace c3 := Bool.eq_false_iff.mpr c3
  subst c3
  rw [if_neg (show ¬ (false = true) by decide)] at H
  obtain rfl := Option.some.inj H
  go_enter Try.func88, Try.ntmps88
  go_wp2_with (first | (refine gcL_ 94 (some 5) Try.func94 #[.int .i64 a0, .int .i64 2, .int .i64 256] ?_; (with_reducible refine (spec_l1In.calls a0 2 256 false _ A2.out).mono ?_); rintro e w' ⟨rfl, ⟨nd, rfl⟩⟩; refine ⟨_, rfl, ?_⟩))
  go_ret
  exact ⟨rl_, dr_⟩
end
section
def impl_in.f (a0 a1 a2 : Int) : Option (Bool) := if a0 ≥ a1 then (some (decide (a0 ≤ a2))) else (some false)
theorem impl_in.calls (a0 a1 a2 : Int) (r : Bool) (w : World) (h : impl_in.f a0 a1 a2 = some r) :
  Calls Try.prog 75 #[.int .i64 a0, .int .i64 a1, .int .i64 a2] w fun e w' => e = .returned (.bool r) ∧ Drawn0 w w' := by
 have H := h
 unfold impl_in.f at H
 clear h
 by_cases c4 : a0 ≥ a1
 ·rw [if_pos c4] at H
  have c4b0 : decide (a1 ≤ a0) = true := decide_eq_true c4
  clear c4
  obtain rfl := Option.some.inj H
  go_enter Try.func75, Try.ntmps75
  go_wp2
  go_ret
  exact ⟨rl_, dr_⟩
 ·rw [if_neg c4] at H
  have c4b0 : decide (a1 ≤ a0) = false := decide_eq_false c4
  clear c4
  obtain rfl := Option.some.inj H
  go_enter Try.func75, Try.ntmps75
  go_wp2
  go_ret
  exact ⟨rl_, dr_⟩
end
section
def impl_TreeSplit.l0 : Nat → Int → Int → Option (Int)
 | 0, _, _ => none
 | k + 1, x0, x3 => if (wrap64 (2 * x3)) < x0 then (impl_TreeSplit.l0 k x0 (wrap64 (x3 * 2))) else (some x3)
def impl_TreeSplit.f (k : Nat) (a0 : Int) : Option (Int) := (impl_in.f a0 2 256).bind fun t278 => (if t278 = true then (impl_TreeSplit.l0 k a0 1) else (some 0))
theorem impl_TreeSplit.calls (k : Nat) (a0 r : Int) (w : World) (h : impl_TreeSplit.f k a0 = some r) :
  Calls Try.prog 109 #[.int .i64 a0] w fun e w' => e = .returned (.int .i64 r) ∧ Drawn0 w w' := by
 have H := h
 unfold impl_TreeSplit.f at H
 clear h
 obtain ⟨t278, A2, H⟩ := bnd_ H
 by_cases c3 : t278 = true
 ·subst c3
  rw [if_pos rfl] at H
  have H' := Aside0.mk H
  clear H
  go_enter Try.func109, Try.ntmps109
  go_wp2_with (first | (refine gcL_ 75 (some 5) Try.func75 #[.int .i64 a0, .int .i64 2, .int .i64 256] ?_; (with_reducible refine (impl_in.calls a0 2 256 true _ A2.out).mono ?_); rintro e w' ⟨rfl, ⟨nd, rfl⟩⟩; refine ⟨_, rfl, ?_⟩))
  go_loopg [3] k (fun kq v3 w' => ∃ (x3_1 : Int), v3 = .int .i64 x3_1 ∧ Aside0 (impl_TreeSplit.l0 kq a0 x3_1 = some r) ∧ Aside0 (kq ≤ k) ∧ Drawn0 w w')
  case atStart => exact ⟨(1), rl_, H', ⟨Nat.le_refl _⟩, by repeat (first | exact Drawn0.refl _ | apply Drawn0.step)⟩
  case round =>
   clear H'
   (try clear c3)
   obtain ⟨x3_1, rfl, HA, HK1, ⟨m1, rfl⟩⟩ := hrel
   cases gk with
   | zero => exact absurd HA.out (by simp [impl_TreeSplit.l0])
   | succ k1 =>
    have H := HA.out
    clear HA
    simp only [impl_TreeSplit.l0] at H
    by_cases c4 : (wrap64 (2 * x3_1)) < a0
    ·rw [if_pos c4] at H
     have c4b0 := decide_eq_true c4
     clear c4
     have H' := Aside0.mk H
     clear H
     go_wp2
     go_roundg k1
     case measure => have := HK1.out; omega
     case rel => exact ⟨(wrap64 (x3_1 * 2)), rl_, H', ⟨by have := HK1.out; omega⟩, by repeat (first | exact Drawn0.refl _ | apply Drawn0.step)⟩
    ·rw [if_neg c4] at H
     have c4b0 := decide_eq_false c4
     clear c4
     obtain rfl := Option.some.inj H
     go_wp2
     go_ret
     exact ⟨rl_, dr_⟩
 ·replace c3 := Bool.eq_false_iff.mpr c3
  subst c3
  rw [if_neg (show ¬ (false = true) by decide)] at H
  obtain rfl := Option.some.inj H
  go_enter Try.func109, Try.ntmps109
  go_wp2_with (first | (refine gcL_ 75 (some 5) Try.func75 #[.int .i64 a0, .int .i64 2, .int .i64 256] ?_; (with_reducible refine (impl_in.calls a0 2 256 false _ A2.out).mono ?_); rintro e w' ⟨rfl, ⟨nd, rfl⟩⟩; refine ⟨_, rfl, ?_⟩))
  go_ret
  exact ⟨rl_, dr_⟩
end
end
end Go.Proofs.Ytflckegggopdnaa.B
namespace Go.Proofs.Ytflckegggopdnaa.B
section
open Go.RowKit Go.Maps Go.Proofs.YtflckegggopdnaaW.PrintWords Go.Proofs.YtflckegggopdnaaW.PrintLast Go.Proofs.YtflckegggopdnaaW.PrintMore
set_option linter.unusedVariables false
set_option linter.unusedSimpArgs false
set_option maxRecDepth 100000
theorem mapWide : (match Try.prog.underlying 100 with | some (.array _ _) | some (.struct _) => true | _ => false) = true := by rw [Try.underlying100]
theorem mapRow : (100 : TypeId) < Try.prog.types.size := of_decide_eq_true (by kernel_rfl)
theorem mapDeep : Try.prog.keyTypeAt 2 100 = true := by kernel_rfl
theorem mapLaw : Keyed Try.prog 100 := Keyed.of_law (deep_law_laid JFacts.laidOut (m := 2) (by omega) mapRow mapDeep mapWide)
theorem mapType : Try.prog.underlying 107 = some (.map 100 29) := by kernel_rfl
theorem mapKeyType : Try.prog.keyType 100 = true := by kernel_rfl
theorem mapCells : Try.prog.cellsOf 100 = 2 := by kernel_rfl
theorem mapCell : Try.prog.cellsOf 3 = 1 := by kernel_rfl
theorem mapInt : Try.prog.underlying 3 = some (.int .i64) := by kernel_rfl
theorem mapSize : ∃ n, Try.prog.types.size + 1 = n + 2 := by
 have h : (100 : Nat) < Try.prog.types.size := mapRow
 exact ⟨Try.prog.types.size - 1, by omega⟩
def kl (a b : Int) : Lit := .string (keyBytes [.int .i64 a, .int .i64 b])
theorem mapOne (n : Nat) {a : Int} (ha : (Lit.int .i64 a).wf = true) : Try.prog.keyLits (n + 1) 3 [.int .i64 a] = some [.int .i64 a] := by
 simp only [Program.keyLits, mapInt]
 rw [if_pos ⟨trivial, ha⟩]
theorem mapTwo (n : Nat) {a b : Int} (ha : (Lit.int .i64 a).wf = true) (hb : (Lit.int .i64 b).wf = true) : Try.prog.keyLits (n + 2) 100 [.int .i64 a, .int .i64 b] = some [.int .i64 a, .int .i64 b] := by
 unfold Program.keyLits
 rw [Try.underlying100]
 show (if _ ∧ _ then _ else _) = _
 rw [if_pos ⟨by rw [mapCells]; rfl, by kernel_rfl⟩]
 simp only [List.mapM_cons, List.mapM_nil, mapCell, List.drop_zero, List.drop_succ_cons, List.take_succ_cons, List.take_zero, mapOne n ha, mapOne n hb]
 rfl
def nv (a b : Int) : Value := .agg #[.int .i64 a, .int .i64 b]
theorem mapKey {a b : Int} (ha : (Lit.int .i64 a).wf = true) (hb : (Lit.int .i64 b).wf = true) : keyOf Try.prog 100 (nv a b) = some (kl a b) := by
 obtain ⟨n, hn⟩ := mapSize
 unfold keyOf nv
 rw [Try.underlying100]
 have hf : (Value.agg #[.int .i64 a, .int .i64 b]).formed Try.prog 100 = true := by simp [Value.formed, Try.underlying100, mapCells]
 show (if (Try.prog.keyType 100 && (Value.agg #[.int .i64 a, .int .i64 b]).formed Try.prog 100) = true then _ else _) = _
 rw [if_pos (by rw [mapKeyType, hf]; rfl), hn]
 show (Try.prog.keyLits (n + 2) 100 [.int .i64 a, .int .i64 b]).map _ = _
 rw [mapTwo n ha hb]
 rfl
abbrev MapD := List (S100 × S29)
def lookD : MapD → Int → Int → Option S29
 | [], _, _ => none
 | p :: M, a, b => if p.1.f0 = a ∧ p.1.f1 = b then some p.2 else lookD M a b
def dv (d : S29) : Value := .agg #[.int .u64 d.f0, .int .u64 d.f1, .int .u64 d.f2, .int .u64 d.f3]
def okN (a b : Int) : Prop := (Lit.int .i64 a).wf = true ∧ (Lit.int .i64 b).wf = true
def dmap : MapD → DataW Value
 | [] => .map []
 | p :: M => (dmap M).put (kl p.1.f0 p.1.f1) (.held (dv p.2))
def rdM (v : Value) : Option (DataW Value × List MemPlace) := some (.held v, [])
def IsM (w : World) (b n : Nat) (M : MapD) : Prop := w.ownsMap Try.prog 100 rdM b n (dmap M) ∧ ∀ p ∈ M, okN p.1.f0 p.1.f1
theorem kl_inj {a b c d : Int} (h1 : okN a b) (h2 : okN c d) (h : kl a b = kl c d) : a = c ∧ b = d := by
 have e := mapLaw.inj (mapKey h1.1 h1.2) (by rw [h]; exact mapKey h2.1 h2.2)
 unfold nv at e
 simp at e
 exact e
theorem dmap_isMap (M : MapD) : IsMap (dmap M) := by
 induction M with
 | nil => exact ⟨[], rfl⟩
 | cons p M ih =>
  obtain ⟨es, h⟩ := ih
  show IsMap ((dmap M).put _ _)
  rw [h]
  exact ⟨_, rfl⟩
theorem look_is (M : MapD) (hM : ∀ p ∈ M, okN p.1.f0 p.1.f1) {a b : Int} (h : okN a b) (z : Value) : Maps.has (dmap M) (kl a b) = (lookD M a b).isSome ∧ (dmap M).atKey (kl a b) (.held z) = .held (match lookD M a b with | some d => dv d | none => z) := by
 induction M with
 | nil => exact ⟨rfl, rfl⟩
 | cons p M ih =>
  obtain ⟨i1, i2⟩ := ih fun q hq => hM q (List.mem_cons_of_mem _ hq)
  have hp := hM p List.mem_cons_self
  by_cases c : p.1.f0 = a ∧ p.1.f1 = b
  ·have e : lookD (p :: M) a b = some p.2 := by simp only [lookD]; rw [if_pos c]
   rw [e]
   obtain ⟨rfl, rfl⟩ := c
   have hk := mapLaw.key (mapKey hp.1 hp.2)
   exact ⟨has_put_same (dmap_isMap M) hk _, atKey_put_same (dmap_isMap M) hk _ _⟩
  ·have e : lookD (p :: M) a b = lookD M a b := by simp only [lookD]; rw [if_neg c]
   rw [e]
   have hne : kl a b ≠ kl p.1.f0 p.1.f1 := fun hh => c (by obtain ⟨x, y⟩ := kl_inj h hp hh; exact ⟨x.symm, y.symm⟩)
   exact ⟨(has_put_other hne _).trans i1, (atKey_put_other hne _ _).trans i2⟩
theorem IsM.below {w w' : World} {b n : Nat} {M : MapD} (h : IsM w b n M) (hb : Below w.heap.size w w') : IsM w' b n M := by
 obtain ⟨⟨es, c, h1, h2⟩, h3⟩ := h
 exact ⟨⟨es, c, blk_below h1 hb, h2⟩, h3⟩
theorem IsM.alloc {w : World} {b n : Nat} {M : MapD} (h : IsM w b n M) (o : Obj) : IsM (w.alloc o) b n M := ⟨h.1.alloc o, h.2⟩
theorem IsM.drew {w : World} {b n : Nat} {M : MapD} (h : IsM w b n M) : IsM w.drew b n M := ⟨h.1.drew, h.2⟩
theorem IsM.drewN {w : World} {b n : Nat} {M : MapD} (h : IsM w b n M) (m : Nat) : IsM (w.drewN m) b n M := h.below (pw_below_drewN (Below.refl _ _) m)
theorem IsM.set {w : World} {b n : Nat} {M : MapD} (h : IsM w b n M) {a : Addr} (ha : b ≠ a.block) (u : Value) : IsM (w.setCell a u) b n M := ⟨h.1.setCell ha u, h.2⟩
theorem IsM.grown {w w' : World} {b n : Nat} {M : MapD} (h : IsM w b n M) {row : Option Nat} (hg : w.grownBy w' row) (hne : some b ≠ row) : IsM w' b n M := ⟨h.1.kept hg hne, h.2⟩
theorem IsM.made (w : World) : IsM (w.alloc (.map #[] 0)) w.heap.size 0 [] := ⟨World.ownsMap_made _ _ _ _, fun p hp => by simp at hp⟩
section
variable {ops : Array Oper} {rest : List Oper} {o : Oper} {a : Act} {Q : Exit → Act → World → Prop} {w : World} {b n : Nat} {M : MapD} {x y : Int}
theorem zeroD (w : World) : (zeroValue 29).run Try.prog w = .ok (.agg #[.int .u64 0, .int .u64 0, .int .u64 0, .int .u64 0]) w := by kernel_rfl
theorem lookM_ (hI : IsM w b n M) (m k : Operand) (ok : okN x y) (hm : a.eval m = .map (some b)) (hx : a.eval k = nv x y)
  (hK : wpList Try.prog ops Q rest (a.put o.dst (.tuple #[match lookD M x y with | some d => dv d | none => .agg #[.int .u64 0, .int .u64 0, .int .u64 0, .int .u64 0], .bool (lookD M x y).isSome])) w)
  (hop : o.op = Op.lookup 107 m k true := by rfl) (hg : o.guard = none := by rfl) : wpList Try.prog ops Q (o :: rest) a w := by
 obtain ⟨l1, l2⟩ := look_is M hI.2 ok (.agg #[.int .u64 0, .int .u64 0, .int .u64 0, .int .u64 0])
 refine wpList_lookup_own_ok w hg m k 107 hop 100 29 mapLaw mapType rdM (zeroD w) (.held (.agg #[.int .u64 0, .int .u64 0, .int .u64 0, .int .u64 0])) [] rfl b n (dmap M) hm hI.1 _ (kl x y) hx (mapKey ok.1 ok.2) (fun v ps hv => ?_)
 rw [l2] at hv
 unfold rdM at hv
 simp only [Option.some.injEq, Prod.mk.injEq, DataW.held.injEq] at hv
 rw [hv.1, l1]
 exact hK
end
end
end Go.Proofs.Ytflckegggopdnaa.B
namespace Go.Proofs.Ytflckegggopdnaa.B
section
open Go.RowKit Go.Maps Go.Proofs.YtflckegggopdnaaW.PrintWords Go.Proofs.YtflckegggopdnaaW.PrintLast Go.Proofs.YtflckegggopdnaaW.PrintMore
set_option linter.unusedVariables false
instance okNDec (a b : Int) : Decidable (okN a b) := inferInstanceAs (Decidable (_ ∧ _))
def impl_lookAt.f (M : MapD) (a b : Int) : Option (Int × Int × Int × Int × Bool) := if okN a b then some (match lookD M a b with | some d => (d.f0, d.f1, d.f2, d.f3, true) | none => (0, 0, 0, 0, false)) else none
section
variable {ops : Array Oper} {rest : List Oper} {o : Oper} {a : Act} {Q : Exit → Act → World → Prop} {w : World} {mb mn : Nat} {M : MapD} {x y t1 t2 t3 t4 : Int} {t5 : Bool}
theorem goLook_ {N : Option Tmp} {m k : Operand} (hI : IsM w mb mn M) (h : impl_lookAt.f M x y = some (t1, t2, t3, t4, t5))
  (K : ∀ w', Below w.heap.size w w' → wpList Try.prog ops Q rest (a.put N (.tuple #[.agg #[.int .u64 t1, .int .u64 t2, .int .u64 t3, .int .u64 t4], .bool t5])) w')
  (hop : o.op = Op.lookup 107 m k true := by rfl) (hd : o.dst = N := by rfl) (hg : o.guard = none := by rfl) (hm : a.eval m = .map (some mb) := by rfl) (hx : a.eval k = .agg #[.int .i64 x, .int .i64 y] := by rfl) : wpList Try.prog ops Q (o :: rest) a w := by
 unfold impl_lookAt.f at h
 by_cases c : okN x y
 ·rw [if_pos c] at h
  refine lookM_ hI m k c hm hx ?_ hop hg
  rw [hd]
  have K0 := K w (Below.refl _ _)
  cases e : lookD M x y with
  | none =>
   rw [e] at h
   simp only [Option.some.injEq, Prod.mk.injEq] at h
   obtain ⟨rfl, rfl, rfl, rfl, rfl⟩ := h
   exact K0
  | some d =>
   rw [e] at h
   simp only [Option.some.injEq, Prod.mk.injEq] at h
   obtain ⟨rfl, rfl, rfl, rfl, rfl⟩ := h
   exact K0
 ·rw [if_neg c] at h
  exact absurd h (by simp)
theorem goMake_ {W : World} {N : Option Tmp} (h : ∀ g, g = W.heap.size → ∀ w1, IsM w1 g 0 [] → Below W.heap.size W w1 → wpList Try.prog ops Q rest (a.put N (.map (some g))) w1)
  (hop : o.op = Op.makeMap 107 none := by rfl) (hd : o.dst = N := by rfl) (hg : o.guard = none := by rfl) : wpList Try.prog ops Q (o :: rest) a W := by
 refine wpList_plain hg fun K' hK' => ?_
 unfold Oper.wp
 simp [execOp, hop, run_makeMap, Result.andThen]
 refine hK' _ _ ?_
 rw [hd]
 exact h _ rfl _ (IsM.made W) (below_alloc (Below.refl _ _) _)
def impl_makeAt.f : Option MapD := some []
def impl_putAt.f (M : MapD) (a b c d e f : Int) : Option MapD := if okN a b then some ((⟨a, b⟩, ⟨c, d, e, f⟩) :: M) else none
theorem isU_ {W : World} (h : IsM w mb mn M) (t : IsM w mb mn M → IsM W mb mn M := by intro h_; (with_reducible repeat (first | apply IsM.drewN | apply IsM.drew | apply IsM.alloc)); exact h_) : IsM W mb mn M := t h
theorem isFarA_ {W : World} {g j : Nat} {u : Value} (hp : Aside0 (mb ≠ g)) (h : IsM W mb mn M) : IsM (W.setCell ⟨g, j, none⟩ u) mb mn M := IsM.set h hp.out u
theorem isS_ {W : World} (h : IsM w mb mn M) (t : IsM w mb mn M → IsM W mb mn M := by intro h_; (with_reducible repeat (first | apply IsM.drewN | apply IsM.drew | apply IsM.alloc | (apply isFarA_; assumption))); exact h_) : IsM W mb mn M := t h
theorem IsM.ne (h : IsM w mb mn M) {g : Nat} {cs : Array Value} {t : TypeId} (hb : w.heap[g]? = some (.cells cs t (0, 0))) : mb ≠ g := by
 rintro rfl
 obtain ⟨⟨es, c, h1, _⟩, _⟩ := h
 rw [h1] at hb
 simp at hb
theorem R_map {α : Type} {d : Kd α} {e base : Nat} {ok : Nat → Prop} {v : Value} {xs : List α} (h : d.R e w base ok v xs) (hI : IsM w mb mn M) : d.R e w base (fun k => ok k ∧ k ≠ mb) v xs :=
 Kd.R_mono (Kd.R_bound h) (fun k hk => ⟨hk.1, fun e => by
  obtain ⟨_, _, _, q, _, cs, hc⟩ := hk
  exact hI.ne (by rw [← e] at *; exact hc) e.symm⟩)
theorem R_grownM {α : Type} {d : Kd α} {e base : Nat} {ok : Nat → Prop} {v : Value} {xs : List α} {w1 : World} (h : d.R e w base ok v xs) (hI : IsM w mb mn M) (hg : w.grownBy w1 (some mb)) : d.R e w1 base ok v xs :=
 Kd.R_mono (Kd.R_step (R_map h hI) (fun k ho hlt => hg.block k hlt (fun e => ho.2 (Option.some.inj e)))) (fun _ hk => hk.1)
theorem goPut_ {P : Program} {m k v : Operand} {K : Act → World → Prop} {c d e f : Int} {M' : MapD} (hP : P = Try.prog) (hI : IsM w mb mn M) (hA : impl_putAt.f M x y c d e f = some M') (hn : mn < maxLen)
  (h : ∀ w', IsM w' mb (mn + 1) M' → w.grownBy w' (some mb) → K (a.put none undef) w')
  (hop : o.op = Op.mapUpdate 107 m k v := by rfl) (hw : Region.wanted o (yielded ops a.tmps) = true := by rfl) (hN : o.dst = none := by rfl)
  (hm : a.eval m = .map (some mb) := by rfl) (hx : a.eval k = .agg #[.int .i64 x, .int .i64 y] := by rfl) (hv : a.eval v = .agg #[.int .u64 c, .int .u64 d, .int .u64 e, .int .u64 f] := by rfl) :
  if Region.wanted o (yielded ops a.tmps) = true then Oper.wp P o a w K Q else K (a.put none undef) w := by
 subst hP
 unfold impl_putAt.f at hA
 by_cases ok : okN x y
 ·rw [if_pos ok] at hA
  obtain rfl := Option.some.inj hA
  rw [if_pos hw]
  obtain ⟨w', hrun, r1, r2⟩ := hI.1.update mapLaw mapType hn (mapKey ok.1 ok.2) (val := .agg #[.int .u64 c, .int .u64 d, .int .u64 e, .int .u64 f]) (d := .held (.agg #[.int .u64 c, .int .u64 d, .int .u64 e, .int .u64 f])) (ps := []) rfl
  have hM : IsM w' mb (mn + 1) ((⟨x, y⟩, ⟨c, d, e, f⟩) :: M) := ⟨r1, fun p hp => by
   rcases List.mem_cons.1 hp with q | q
   ·rw [q]; exact ok
   ·exact hI.2 p q⟩
  have K0 := h w' hM r2
  unfold nv at hrun
  unfold Oper.wp
  simp only [execOp, hop, hm, hx, hv]
  simp [hrun, Result.andThen]
  show K (a.put o.dst undef) w'
  rw [hN]
  exact K0
 ·rw [if_neg ok] at hA
  exact absurd hA (by simp)
end
end
end Go.Proofs.Ytflckegggopdnaa.B
namespace Go.Proofs.Ytflckegggopdnaa.B
section
open Go.RowKit Go.Proofs.YtflckegggopdnaaW.PrintWords Go.Proofs.YtflckegggopdnaaW.PrintLast Go.Proofs.YtflckegggopdnaaW.PrintMore
set_option linter.unusedVariables false
set_option maxHeartbeats 8000000
set_option maxRecDepth 100000
set_option linter.unusedSimpArgs false
def impl_Digest.f (l0 : List S29) : Option (List S29) := if (l0.length : Int) ≤ 8796093022208 then some l0 else none
theorem impl_Digest.calls (A0 : Option Addr) (c0 : Nat) (l0 : List S29) (r : List S29) (w : World) (hr0 : Kd.C k29 w A0 l0.length l0) (hc0 : l0.length ≤ c0) (h : impl_Digest.f l0 = some r) :
  Calls Try.prog 65 #[.slice A0 l0.length c0] w fun e w' => ∃ v0_ : Value, e = .returned (v0_) ∧ Kd.R k29 29 w' w.heap.size (fun _ => True) v0_ r ∧ Below w.heap.size w w' := by
 have HR0 := Aside0.mk hr0
 clear hr0
 have HB := a_ (Below.refl w.heap.size w)
 unfold impl_Digest.f at h
 by_cases c1 : (l0.length : Int) ≤ 8796093022208
 ·rw [if_pos c1] at h
  obtain rfl := Option.some.inj h
  by_cases c2 : (l0.length : Int) = 0
  ·have c2b0 : ((l0.length : Int) == 0) = true := beq_iff_eq.mpr c2
   obtain rfl : l0 = [] := List.eq_nil_of_length_eq_zero (by omega)
   go_enter Try.func65, Try.ntmps65
   go_wp2
   go_ret
   exact ⟨_, rfl, Kd.R_nil _ _ _ _ _, bel_⟩
  ·have c2b0 : ((l0.length : Int) == 0) = false := beq_eq_false_iff_ne.mpr c2
   have hp : 0 < l0.length := by omega
   go_enter Try.func65, Try.ntmps65
   go_wp2_with (first
    | ((with_reducible refine gate_dst (N := 9) rfl ?_); refine Kd.R_make k29 _ 29 rfl (N := 9) rfl 49 _ _ rfl (l0.length : Int) rfl rfl Try.underlying49 (.agg #[(.int .u64 0), (.int .u64 0), (.int .u64 0), (.int .u64 0)]) 32 info29 rfl (by decide) (by omega) z29 (ok := fun _ => True) (okp := fun _ => True) (k29_mkM _ _ _ z29) (fun _ hk => hk) trivial (by omega) (Nat.le_trans (Nat.mul_le_mul_right _ (by omega : (l0.length : Int).toNat ≤ 8796093022208)) (by omega)) (Below.refl _ _) (Nat.le_refl _) ?_; intro v244 w4 ho5 hb hg_ hnew_; clear hg_ hnew_; have HO := a_ (Kd.R_lower ho5 (below_size bel_)); have HR1 := a_ (Kd.C_below HR0.out HB.out); have HR2 := a_ (Kd.C_below HR0.out (stepB_ hb).out); replace HB := stepB_ hb; clear hb ho5 HR1)
    | ((with_reducible refine gate_dst (N := 12) rfl ?_); refine R_copy k29 (w0 := w) w.heap.size 29 rfl (.tmp 10) (.tmp 11) 49 49 rfl Try.underlying49 (by rw [show ((Try.prog.info? 29).map (·.size)) = some 4 from by kernel_rfl]; rfl) (by decide) (fun _ _ _ _ _ _ h_ => h_) (v := v244) (A := A0) (c := c0) (ys := l0) rfl rfl HO.out HR2.out (by simp) hp HB.out ?_; intro w5 ho6 hb6; clear HO HR2 HB; have HO := Aside0.mk ho6; have HB := Aside0.mk hb6; clear ho6 hb6))
   go_ret
   exact ⟨_, rfl, HO.out, HB.out⟩
 ·rw [if_neg c1] at h
  exact absurd h (by simp)
def impl_copied_string.f (l0 : List ByteArray) : Option (List ByteArray) := if (l0.length : Int) ≤ 8796093022208 then some l0 else none
theorem impl_copied_string.calls (A0 : Option Addr) (c0 : Nat) (l0 r : List ByteArray) (w : World) (hr0 : Kd.C Kd.string w A0 l0.length l0) (hc0 : l0.length ≤ c0) (h : impl_copied_string.f l0 = some r) :
  Calls Try.prog 99 #[.slice A0 l0.length c0] w fun e w' => ∃ v0_ : Value, e = .returned (v0_) ∧ Kd.R Kd.string 9 w' w.heap.size (fun _ => True) v0_ r ∧ Below w.heap.size w w' := by
 have HR0 := Aside0.mk hr0
 clear hr0
 have HB := a_ (Below.refl w.heap.size w)
 unfold impl_copied_string.f at h
 by_cases c1 : (l0.length : Int) ≤ 8796093022208
 ·rw [if_pos c1] at h
  obtain rfl := Option.some.inj h
  by_cases c2 : (l0.length : Int) = 0
  ·have c2b0 : ((l0.length : Int) == 0) = true := beq_iff_eq.mpr c2
   obtain rfl : l0 = [] := List.eq_nil_of_length_eq_zero (by omega)
   go_enter Try.func99, Try.ntmps99
   go_wp2
   go_ret
   exact ⟨_, rfl, Kd.R_nil _ _ _ _ _, bel_⟩
  ·have c2b0 : ((l0.length : Int) == 0) = false := beq_eq_false_iff_ne.mpr c2
   have hp : 0 < l0.length := by omega
   go_enter Try.func99, Try.ntmps99
   go_wp2_with (first
    | ((with_reducible refine gate_dst (N := 9) rfl ?_); refine Kd.R_make Kd.string _ 9 rfl (N := 9) rfl 61 _ _ rfl (l0.length : Int) rfl rfl Try.underlying61 (.string ⟨#[]⟩) 16 info9 rfl (by decide) (by omega) (⟨#[]⟩ : ByteArray) (ok := fun _ => True) (okp := fun _ => True) rfl (fun _ hk => hk) trivial (by omega) (Nat.le_trans (Nat.mul_le_mul_right _ (by omega : (l0.length : Int).toNat ≤ 8796093022208)) (by omega)) (Below.refl _ _) (Nat.le_refl _) ?_; intro v244 w4 ho5 hb hg_ hnew_; clear hg_ hnew_; have HO := a_ (Kd.R_lower ho5 (below_size bel_)); have HR1 := a_ (Kd.C_below HR0.out HB.out); have HR2 := a_ (Kd.C_below HR0.out (stepB_ hb).out); replace HB := stepB_ hb; clear hb ho5 HR1)
    | ((with_reducible refine gate_dst (N := 12) rfl ?_); refine R_copy Kd.string (w0 := w) w.heap.size 9 rfl (.tmp 10) (.tmp 11) 61 61 rfl Try.underlying61 (by rw [show ((Try.prog.info? 9).map (·.size)) = some 1 from by kernel_rfl]; rfl) (by decide) (fun _ _ _ _ _ _ h_ => h_) (v := v244) (A := A0) (c := c0) (ys := l0) rfl rfl HO.out HR2.out (by simp) hp HB.out ?_; intro w5 ho6 hb6; clear HO HR2 HB; have HO := Aside0.mk ho6; have HB := Aside0.mk hb6; clear ho6 hb6))
   go_ret
   exact ⟨_, rfl, HO.out, HB.out⟩
 ·rw [if_neg c1] at h
  exact absurd h (by simp)
end
end Go.Proofs.Ytflckegggopdnaa.B
namespace Go.Proofs.Ytflckegggopdnaa.B
section
open Go.RowKit Go.Proofs.YtflckegggopdnaaW.PrintWords Go.Proofs.YtflckegggopdnaaW.PrintLast Go.Proofs.YtflckegggopdnaaW.PrintMore
attribute [local go_sem] max2_int min2_int max_two min_two max_three min_three max_four min_four
set_option linter.unusedVariables false
set_option maxHeartbeats 8000000
set_option maxRecDepth 100000
set_option linter.unusedSimpArgs false
section
def spec_l2Half.l0 : Nat → Int → Int → Option (Int)
 | 0, _, _ => none
 | k + 1, x0, x3 => if (wrap64 (2 * x3)) ≤ x0 then (spec_l2Half.l0 k x0 (wrap64 (2 * x3))) else (some x3)
def spec_l2Half.f (k : Nat) (a0 : Int) : Option (Int) := spec_l2Half.l0 k a0 1
theorem spec_l2Half.calls (k : Nat) (a0 r : Int) (w : World) (h : spec_l2Half.f k a0 = some r) :
  Calls Try.prog 93 #[.int .i64 a0] w fun e w' => e = .returned (.int .i64 r) ∧ Drawn0 w w' := by
 have H := h
 unfold spec_l2Half.f at H
 clear h
 have H' := Aside0.mk H
 clear H
 go_enter Try.func93, Try.ntmps93
 go_wp2
 go_loopg [3] k (fun kq v3 w' => ∃ (x3_1 : Int), v3 = .int .i64 x3_1 ∧ Aside0 (spec_l2Half.l0 kq a0 x3_1 = some r) ∧ Aside0 (kq ≤ k) ∧ Drawn0 w w')
 case atStart => exact ⟨(1), rl_, H', ⟨Nat.le_refl _⟩, by repeat (first | exact Drawn0.refl _ | apply Drawn0.step)⟩
 case round =>
  clear H'
  obtain ⟨x3_1, rfl, HA, HK1, ⟨m1, rfl⟩⟩ := hrel
  cases gk with
  | zero => exact absurd HA.out (by simp [spec_l2Half.l0])
  | succ k1 =>
   have H := HA.out
   clear HA
   simp only [spec_l2Half.l0] at H
   by_cases c2 : (wrap64 (2 * x3_1)) ≤ a0
   ·rw [if_pos c2] at H
    have c2b0 := decide_eq_true c2
    clear c2
    have H' := Aside0.mk H
    clear H
    go_wp2
    go_roundg k1
    case measure => have := HK1.out; omega
    case rel => exact ⟨(wrap64 (2 * x3_1)), rl_, H', ⟨by have := HK1.out; omega⟩, by repeat (first | exact Drawn0.refl _ | apply Drawn0.step)⟩
   ·rw [if_neg c2] at H
    have c2b0 := decide_eq_false c2
    clear c2
    obtain rfl := Option.some.inj H
    go_wp2
    go_ret
    exact ⟨rl_, dr_⟩
end
end
end Go.Proofs.Ytflckegggopdnaa.B
