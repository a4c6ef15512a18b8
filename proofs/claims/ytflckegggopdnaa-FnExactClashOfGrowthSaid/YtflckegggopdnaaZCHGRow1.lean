/- What the Go functions of these names do; condition: .f gives an answer. -/
import Derived.Test.YtflckegggopdnaaZCHP0
import Derived.Test.YtflckegggopdnaaZCHP4
import Derived.Test.YtflckegggopdnaaZCHP9
import Derived.Test.YtflckegggopdnaaZCHP2
import Derived.Test.YtflckegggopdnaaZCHGUp1
import Derived.Test.YtflckegggopdnaaZCHGUp2
namespace Go.Proofs.Ytflckegggopdnaa.B
open Go.RowKit Go.Proofs.YtflckegggopdnaaW.PrintWords Go.Proofs.YtflckegggopdnaaW.PrintLast Go.Proofs.YtflckegggopdnaaW.PrintMore
attribute [local go_sem] max2_int min2_int max_two min_two max_three min_three max_four min_four
set_option linter.unusedVariables false
set_option maxHeartbeats 8000000
set_option maxRecDepth 100000
set_option linter.unusedSimpArgs false
section
def spec_l4Behind.l0 : Nat → List ByteArray → List ByteArray → Int → Option (List ByteArray)
 | 0, _, _, _ => none
 | k + 1, x1, x5, x6 => if x6 < (x1.length : Int) then (if 0 ≤ x6 then (if x5.length < 8796093022208 then (spec_l4Behind.l0 k x1 (x5 ++ [rdOf ByteArray.empty x1 x6]) (wrap64 (x6 + 1))) else (none)) else (none)) else (some x5)
def spec_l4Behind.f (k : Nat) (a0 : ByteArray) (l1 : List ByteArray) : Option (List ByteArray) := spec_l4Behind.l0 k l1 (([a0] : List ByteArray)) 0
theorem spec_l4Behind.calls (k : Nat) (a0 : ByteArray) (A1 : Option Addr) (c1 : Nat) (l1 r : List ByteArray) (w : World) (hr1 : Kd.C Kd.string w A1 l1.length l1) (hc1 : l1.length ≤ c1) (h : spec_l4Behind.f k a0 l1 = some r) :
  Calls Try.prog 89 #[.string a0, .slice A1 l1.length c1] w fun e w' => ∃ v0_ : Value, e = .returned (v0_) ∧ Kd.R Kd.string 9 w' w.heap.size (fun _ => True) v0_ r ∧ Below w.heap.size w w' := by
 have HR1 := Aside0.mk hr1
 have HC1 := Aside0.mk hc1
 clear hr1 hc1
 have HB := a_ (Below.refl w.heap.size w)
 have H := h
 unfold spec_l4Behind.f at H
 clear h
 obtain ⟨y675, hy675⟩ : ∃ y_ : List ByteArray, y_ = (([a0] : List ByteArray)) := ⟨_, rfl⟩
 replace H : (spec_l4Behind.l0 k l1 y675 0) = some r := rpl_ hy675 H
 have Ny675 := Aside0.mk hy675
 clear hy675
 have H' := Aside0.mk H
 clear H
 go_enter Try.func89, Try.ntmps89
 go_wp2_with (first | ((with_reducible refine gate_dst (N := 8) rfl ?_); refine Kd.R_lit Kd.string _ 9 ?hg (N := 8) ?hd (xs := ([a0] : List ByteArray)) (inner := [.string a0]) (ok := fun _ => True) (okp := fun _ => True) ?hr ?hp (fun _ hk => hk) trivial (Below.refl _ _) (Nat.le_refl _) (by simp) ?_; (case hd => rfl); (case hg => rfl); (case hr => first | (go_simp; done) | (go_simp; rfl)); (case hp => exact (Reps.one (show Kd.M Kd.string _ _ _ a0 [.string a0] from rfl) (Reps.none _ _))); intro v676 w3 ho4 hb hg_ hnew_; clear hg_ hnew_; (first | rw [← Ny675.out] at ho4 | (simp only [Int.reduceToNat] at ho4; rw [← Ny675.out] at ho4)); have HO677 := a_ (Kd.R_lower ho4 (below_size bel_)); replace HB := stepB_ hb; clear hb ho4))
 go_loopg [5, 6] k (fun kq v5 v6 w' => ∃ (x5_1 : List ByteArray) (x6_1 : Int), v6 = .int .i64 x6_1 ∧ Aside0 (spec_l4Behind.l0 kq l1 x5_1 x6_1 = some r) ∧ Aside0 (kq ≤ k) ∧ Aside0 (Kd.R Kd.string 9 w' w.heap.size (fun _ => True) v5 x5_1) ∧ Aside0 (Below w.heap.size w w'))
 case atStart => exact ⟨(y675), (0), rl_, H', ⟨Nat.le_refl _⟩, ⟨kdU_ HO677.out⟩, ⟨bel_⟩⟩
 case round =>
  clear H'
  (try clear c1)
  obtain ⟨x5_1, x6_1, rfl, HA, HK1, HO_5, HB⟩ := hrel
  cases gk with
  | zero => exact absurd HA.out (by simp [spec_l4Behind.l0])
  | succ k1 =>
   have H := HA.out
   clear HA
   simp only [spec_l4Behind.l0] at H
   by_cases c5 : x6_1 < (l1.length : Int)
   ·rw [if_pos c5] at H
    have c5b0 := decide_eq_true c5
    clear c5
    by_cases c6 : 0 ≤ x6_1
    ·rw [if_pos c6] at H
     have c6b0 := decide_eq_true c6
     clear c6
     by_cases c7 : x5_1.length < 8796093022208
     ·rw [if_pos c7] at H
      have LMc7 := Aside0.mk c7
      clear c7
      obtain ⟨y679, hy679⟩ : ∃ y_ : List ByteArray, y_ = (x5_1 ++ [rdOf ByteArray.empty l1 x6_1]) := ⟨_, rfl⟩
      replace H : (spec_l4Behind.l0 k1 l1 y679 (wrap64 (x6_1 + 1))) = some r := rpl_ hy679 H
      have Ny679 := Aside0.mk hy679
      clear hy679
      have H' := Aside0.mk H
      clear H
      have p678 : 0 ≤ (x6_1 : Int) := ofd_
      have q678 : x6_1 < (l1.length : Int) := ofd_
      obtain ⟨ad678, e678, hx678_0⟩ := Kd.at_string HR1.out x6_1 p678 q678
      cases e678
      replace hx678_0 := pc_ HB.out hx678_0
      replace p678 := eq_true p678
      replace q678 := eq_true q678
      go_wp2_with (first | ((with_reducible refine gate_builtin (b := .append) (xs := #[.tmp 15, .tmp 20]) rfl ?_); at_builtin; refine Kd.R_append Kd.string (w0 := w) w.heap.size rfl (.tmp 15) (.tmp 20) 61 9 (.string ⟨#[]⟩) 16 rfl Try.underlying61 info9 rfl (by decide) (by omega) u5 x5_1 (rdOf ByteArray.empty l1 x6_1) [.string (rdOf ByteArray.empty l1 x6_1)] (fun _ => True) (fun _ => False) rfl rfl ?aP (fun _ hk => hk.elim) ?aF ?aO ?aB ?aS ?aL ?_; (case aP => exact rfl); (case aB => exact bel_); (case aF => exact (fun _ _ => trivial)); (case aO => exact (kdU_ HO_5.out)); (case aS => exact (below_size bel_)); (case aL => have := LMc7.out; omega); intro v680 w8 ho hb hg hat; rw [← Ny679.out] at ho; replace HB := a_ (hb); have HO681 := a_ (ho); clear HO_5; clear ho hb hg hat))
      go_roundg k1
      case measure => have := HK1.out; omega
      case rel => exact ⟨(y679), (wrap64 (x6_1 + 1)), rl_, H', ⟨by have := HK1.out; omega⟩, ⟨kdU_ HO681.out⟩, ⟨bel_⟩⟩
     ·rw [if_neg c7] at H
      exact absurd H (by simp)
    ·rw [if_neg c6] at H
     exact absurd H (by simp)
   ·rw [if_neg c5] at H
    have c5b0 := decide_eq_false c5
    clear c5
    obtain rfl := Option.some.inj H
    go_wp2
    go_ret
    exact ⟨_, rfl_, by (with_reducible repeat (first | apply Kd.R_alloc | apply Kd.R_drewN | apply Kd.R_drew)); exact HO_5.out, bel_⟩
end
section
def spec_l4Down.f : Nat → Int → Int → ByteArray → List (S29) → Option (List ByteArray)
 | 0, _, _, _, _ => none
 | k + 1, a0, a1, a2, l3 => if a0 < 2 then ((spec_l1LeafText.f a2).bind fun t682 => (some (([t682] : List ByteArray)))) else ((spec_TreeSplit.f k a0).bind fun t686 => (if 0 ≤ (wrap64 ((l3.length : Int) - 1)) then (if (wrap64 ((l3.length : Int) - 1)) < (l3.length : Int) then (if (wrap64 ((l3.length : Int) - 1)) ≤ (l3.length : Int) then ((some (l3.take ((wrap64 ((l3.length : Int) - 1)) : Int).toNat : List (S29))).bind fun y689 => (if a1 < t686 then ((spec_HashLeaf.f k a2).bind fun bt693 => ((spec_l3Up.f k t686 a1 bt693.1 bt693.2.1 bt693.2.2.1 bt693.2.2.2 y689).bind fun bt697 => ((spec_l1PairText.f k bt697.1 bt697.2.1 bt697.2.2.1 bt697.2.2.2 ((rd_T29 l3 (wrap64 ((l3.length : Int) - 1))).f0) ((rd_T29 l3 (wrap64 ((l3.length : Int) - 1))).f1) ((rd_T29 l3 (wrap64 ((l3.length : Int) - 1))).f2) ((rd_T29 l3 (wrap64 ((l3.length : Int) - 1))).f3)).bind fun t701 => ((spec_l4Down.f k t686 a1 a2 y689).bind fun t702 => ((spec_l4Behind.f k t701 t702).bind fun t705 => (some t705)))))) else ((spec_HashLeaf.f k a2).bind fun bt708 => ((spec_l3Up.f k (wrap64 (a0 - t686)) (wrap64 (a1 - t686)) bt708.1 bt708.2.1 bt708.2.2.1 bt708.2.2.2 y689).bind fun bt712 => ((spec_l1PairText.f k ((rd_T29 l3 (wrap64 ((l3.length : Int) - 1))).f0) ((rd_T29 l3 (wrap64 ((l3.length : Int) - 1))).f1) ((rd_T29 l3 (wrap64 ((l3.length : Int) - 1))).f2) ((rd_T29 l3 (wrap64 ((l3.length : Int) - 1))).f3) bt712.1 bt712.2.1 bt712.2.2.1 bt712.2.2.2).bind fun t716 => ((spec_l4Down.f k (wrap64 (a0 - t686)) (wrap64 (a1 - t686)) a2 y689).bind fun t717 => ((spec_l4Behind.f k t716 t717).bind fun t720 => (some t720)))))))) else (none)) else (none)) else (none)))
def spec_l4Down.T7 : Bool × List (List Nat × List Nat) := (true, [([], []), ([], []), ([], []), ([2], [2]), ([], []), ([0, 1, 3, 4, 3], [0, 1, 3, 4]), ([], []), ([5, 6, 5], [5, 6]), ([], []), ([], []), ([], []), ([], []), ([8, 9, 10, 11, 7], [8, 9, 10, 11]), ([7, 12, 12], [7, 12]), ([13, 13, 0, 1, 2, 3, 4, 5, 6, 7, 8, 9, 10, 11, 12, 13], [13])])
def spec_l4Down.B7 : List Nat := [0, 0, 0, 4, 0, 31, 0, 127, 0, 0, 0, 0, 4095, 8191, 16383]
theorem spec_l4Down.tab7 : rtab .any (opsOf Try.f48 7) = spec_l4Down.T7 := by kernel_rfl
theorem spec_l4Down.bits7 : waitsOk spec_l4Down.T7.2 spec_l4Down.B7 = true := by kernel_rfl
def spec_l4Down.T8 : Bool × List (List Nat × List Nat) := (true, [([], []), ([], []), ([], []), ([1, 2], [1, 2]), ([], []), ([], []), ([4, 5], [4, 5]), ([], []), ([7], [7]), ([], []), ([3, 6, 8, 9, 8], [3, 6, 8, 9]), ([0, 10, 10], [0, 10]), ([], []), ([], []), ([12, 13], [12, 13]), ([], []), ([], []), ([15, 16], [15, 16]), ([], []), ([], []), ([14, 17, 18, 19, 11], [14, 17, 18, 19]), ([11, 20, 20], [11, 20]), ([21, 21, 0, 1, 2, 3, 4, 5, 6, 7, 8, 9, 10, 11, 12, 13, 14, 15, 16, 17, 18, 19, 20, 21], [21])])
def spec_l4Down.B8 : List Nat := [0, 0, 0, 6, 0, 0, 48, 0, 128, 0, 1022, 2047, 0, 0, 12288, 0, 0, 98304, 0, 0, 1048575, 2097151, 4194303]
theorem spec_l4Down.tab8 : rtab .any (opsOf Try.f48 8) = spec_l4Down.T8 := by kernel_rfl
theorem spec_l4Down.bits8 : waitsOk spec_l4Down.T8.2 spec_l4Down.B8 = true := by kernel_rfl
theorem spec_l4Down.calls (k : Nat) : ∀ (a0 a1 : Int) (a2 : ByteArray) (A3 : Option Addr) (c3 : Nat) (l3 : List (S29)) (r : List ByteArray) (w : World) (hr3 : Kd.C k29 w A3 l3.length l3) (hc3 : l3.length ≤ c3) (h : spec_l4Down.f k a0 a1 a2 l3 = some r),
  Calls Try.prog 48 #[.int .i64 a0, .int .i64 a1, .string a2, .slice A3 l3.length c3] w fun e w' => ∃ v0_ : Value, e = .returned (v0_) ∧ Kd.R Kd.string 9 w' w.heap.size (fun _ => True) v0_ r ∧ Below w.heap.size w w' := by
 induction k using Nat.strongRecOn with
 | _ k ih =>
 intro a0 a1 a2 A3 c3 l3 r w hr3 hc3 h
 cases k with
 | zero => exact absurd h (by simp [spec_l4Down.f])
 | succ k =>
 simp only [spec_l4Down.f] at h
 have hu29 := Try.underlying29
 have HR3 := Aside0.mk hr3
 have HC3 := Aside0.mk hc3
 clear hr3 hc3
 have HB := a_ (Below.refl w.heap.size w)
 have H : (if a0 < 2 then ((spec_l1LeafText.f a2).bind fun t682 => (some (([t682] : List ByteArray)))) else ((spec_TreeSplit.f k a0).bind fun t686 => (if 0 ≤ (wrap64 ((l3.length : Int) - 1)) then (if (wrap64 ((l3.length : Int) - 1)) < (l3.length : Int) then (if (wrap64 ((l3.length : Int) - 1)) ≤ (l3.length : Int) then ((some (l3.take ((wrap64 ((l3.length : Int) - 1)) : Int).toNat : List (S29))).bind fun y689 => (if a1 < t686 then ((spec_HashLeaf.f k a2).bind fun bt693 => ((spec_l3Up.f k t686 a1 bt693.1 bt693.2.1 bt693.2.2.1 bt693.2.2.2 y689).bind fun bt697 => ((spec_l1PairText.f k bt697.1 bt697.2.1 bt697.2.2.1 bt697.2.2.2 ((rd_T29 l3 (wrap64 ((l3.length : Int) - 1))).f0) ((rd_T29 l3 (wrap64 ((l3.length : Int) - 1))).f1) ((rd_T29 l3 (wrap64 ((l3.length : Int) - 1))).f2) ((rd_T29 l3 (wrap64 ((l3.length : Int) - 1))).f3)).bind fun t701 => ((spec_l4Down.f k t686 a1 a2 y689).bind fun t702 => ((spec_l4Behind.f k t701 t702).bind fun t705 => (some t705)))))) else ((spec_HashLeaf.f k a2).bind fun bt708 => ((spec_l3Up.f k (wrap64 (a0 - t686)) (wrap64 (a1 - t686)) bt708.1 bt708.2.1 bt708.2.2.1 bt708.2.2.2 y689).bind fun bt712 => ((spec_l1PairText.f k ((rd_T29 l3 (wrap64 ((l3.length : Int) - 1))).f0) ((rd_T29 l3 (wrap64 ((l3.length : Int) - 1))).f1) ((rd_T29 l3 (wrap64 ((l3.length : Int) - 1))).f2) ((rd_T29 l3 (wrap64 ((l3.length : Int) - 1))).f3) bt712.1 bt712.2.1 bt712.2.2.1 bt712.2.2.2).bind fun t716 => ((spec_l4Down.f k (wrap64 (a0 - t686)) (wrap64 (a1 - t686)) a2 y689).bind fun t717 => ((spec_l4Behind.f k t716 t717).bind fun t720 => (some t720)))))))) else (none)) else (none)) else (none)))) = some r := h
 clear h
 by_cases c5 : a0 < 2
 ·rw [if_pos c5] at H
  have c5b0 := decide_eq_true c5
  clear c5
  obtain ⟨t682, A6, H⟩ := bnd_ H
  obtain ⟨y683, hy683⟩ : ∃ y_ : List ByteArray, y_ = (([t682] : List ByteArray)) := ⟨_, rfl⟩
  replace H : (some y683) = some r := rpl_ hy683 H
  have Ny683 := Aside0.mk hy683
  clear hy683
  obtain rfl := Option.some.inj H
  go_enter Try.func48, Try.ntmps48
  go_wp2_with (first | (refine gcL_ 87 (some 15) Try.func87 #[.string a2] ?_; (with_reducible refine (spec_l1LeafText.calls a2 t682 _ A6.out).mono ?_); rintro e w7 ⟨rfl, hb⟩; refine ⟨_, rfl, ?_⟩; replace HB := stepB_ hb; (try clear hb); (try clear hk)) | ((with_reducible refine gate_dst (N := 16) rfl ?_); refine Kd.R_lit Kd.string _ 9 ?hg (N := 16) ?hd (xs := ([t682] : List ByteArray)) (inner := [.string t682]) (ok := fun _ => True) (okp := fun _ => True) ?hr ?hp (fun _ hk => hk) trivial (Below.refl _ _) (Nat.le_refl _) (by simp) ?_; (case hd => rfl); (case hg => rfl); (case hr => first | (go_simp; done) | (go_simp; rfl)); (case hp => exact (Reps.one (show Kd.M Kd.string _ _ _ t682 [.string t682] from rfl) (Reps.none _ _))); intro v684 w8 ho9 hb hg_ hnew_; clear hg_ hnew_; (first | rw [← Ny683.out] at ho9 | (simp only [Int.reduceToNat] at ho9; rw [← Ny683.out] at ho9)); have HO685 := a_ (Kd.R_lower ho9 (below_size bel_)); replace HB := stepB_ hb; clear hb ho9))
  go_ret
  exact ⟨_, rfl_, by (with_reducible repeat (first | apply Kd.R_alloc | apply Kd.R_drewN | apply Kd.R_drew)); exact HO685.out, bel_⟩
 ·rw [if_neg c5] at H
  have c5b0 := decide_eq_false c5
  clear c5
  obtain ⟨t686, A10, H⟩ := bnd_ H
  obtain ⟨ji11, hji11⟩ : ∃ j_ : Int, (wrap64 ((l3.length : Int) - 1)) = j_ := ⟨_, rfl⟩
  replace H : (if 0 ≤ (ji11) then (if (ji11) < (l3.length : Int) then (if (ji11) ≤ (l3.length : Int) then ((some (l3.take ((ji11) : Int).toNat : List (S29))).bind fun y689 => (if a1 < t686 then ((spec_HashLeaf.f k a2).bind fun bt693 => ((spec_l3Up.f k t686 a1 bt693.1 bt693.2.1 bt693.2.2.1 bt693.2.2.2 y689).bind fun bt697 => ((spec_l1PairText.f k bt697.1 bt697.2.1 bt697.2.2.1 bt697.2.2.2 ((rd_T29 l3 (ji11)).f0) ((rd_T29 l3 (ji11)).f1) ((rd_T29 l3 (ji11)).f2) ((rd_T29 l3 (ji11)).f3)).bind fun t701 => ((spec_l4Down.f k t686 a1 a2 y689).bind fun t702 => ((spec_l4Behind.f k t701 t702).bind fun t705 => (some t705)))))) else ((spec_HashLeaf.f k a2).bind fun bt708 => ((spec_l3Up.f k (wrap64 (a0 - t686)) (wrap64 (a1 - t686)) bt708.1 bt708.2.1 bt708.2.2.1 bt708.2.2.2 y689).bind fun bt712 => ((spec_l1PairText.f k ((rd_T29 l3 (ji11)).f0) ((rd_T29 l3 (ji11)).f1) ((rd_T29 l3 (ji11)).f2) ((rd_T29 l3 (ji11)).f3) bt712.1 bt712.2.1 bt712.2.2.1 bt712.2.2.2).bind fun t716 => ((spec_l4Down.f k (wrap64 (a0 - t686)) (wrap64 (a1 - t686)) a2 y689).bind fun t717 => ((spec_l4Behind.f k t716 t717).bind fun t720 => (some t720)))))))) else (none)) else (none)) else (none)) = some r := by first | (rw [hji11] at H; exact H) | (simp only [hji11] at H ⊢; exact H)
  (try rw [hji11] at A10)
  have hji11w : (IntKind.i64.wrap ((l3.length : Int) - 1)) = ji11 := (i64_w _).trans hji11
  by_cases c12 : 0 ≤ (ji11)
  ·rw [if_pos c12] at H
   have c12b0 := decide_eq_true c12
   clear c12
   by_cases c13 : (ji11) < (l3.length : Int)
   ·rw [if_pos c13] at H
    have c13b0 := decide_eq_true c13
    clear c13
    have c14b0 := eq_true (ofd_ : 0 ≤ (ji11))
    by_cases c15 : (ji11) ≤ (l3.length : Int)
    ·rw [if_pos c15] at H
     have c15b0 := eq_true c15
     have c15b1 := decide_eq_true c15
     clear c15
     obtain ⟨y689, hy689⟩ : ∃ y_ : List (S29), y_ = (l3.take ((ji11) : Int).toNat) := ⟨_, rfl⟩
     replace H : (if a1 < t686 then ((spec_HashLeaf.f k a2).bind fun bt693 => ((spec_l3Up.f k t686 a1 bt693.1 bt693.2.1 bt693.2.2.1 bt693.2.2.2 y689).bind fun bt697 => ((spec_l1PairText.f k bt697.1 bt697.2.1 bt697.2.2.1 bt697.2.2.2 ((rd_T29 l3 (ji11)).f0) ((rd_T29 l3 (ji11)).f1) ((rd_T29 l3 (ji11)).f2) ((rd_T29 l3 (ji11)).f3)).bind fun t701 => ((spec_l4Down.f k t686 a1 a2 y689).bind fun t702 => ((spec_l4Behind.f k t701 t702).bind fun t705 => (some t705)))))) else ((spec_HashLeaf.f k a2).bind fun bt708 => ((spec_l3Up.f k (wrap64 (a0 - t686)) (wrap64 (a1 - t686)) bt708.1 bt708.2.1 bt708.2.2.1 bt708.2.2.2 y689).bind fun bt712 => ((spec_l1PairText.f k ((rd_T29 l3 (ji11)).f0) ((rd_T29 l3 (ji11)).f1) ((rd_T29 l3 (ji11)).f2) ((rd_T29 l3 (ji11)).f3) bt712.1 bt712.2.1 bt712.2.2.1 bt712.2.2.2).bind fun t716 => ((spec_l4Down.f k (wrap64 (a0 - t686)) (wrap64 (a1 - t686)) a2 y689).bind fun t717 => ((spec_l4Behind.f k t716 t717).bind fun t720 => (some t720))))))) = some r := rpl_ hy689 H
     have Ny689 := Aside0.mk hy689
     clear hy689
     by_cases c16 : a1 < t686
     ·rw [if_pos c16] at H
      have c16b0 := decide_eq_true c16
      clear c16
      obtain ⟨⟨t693, t694, t695, t696⟩, A17, H⟩ := bnd_ H
      dsimp only at H
      obtain ⟨⟨t697, t698, t699, t700⟩, A18, H⟩ := bnd_ H
      dsimp only at H
      obtain ⟨t701, A19, H⟩ := bnd_ H
      obtain ⟨t702, A20, H⟩ := bnd_ H
      obtain ⟨t705, A21, H⟩ := bnd_ H
      obtain rfl := Option.some.inj H
      go_enter Try.func48, Try.ntmps48
      try go_wp2_with (first | (refine gcL_ 88 (some 18) Try.func88 #[.int .i64 a0] ?_; (with_reducible refine (spec_TreeSplit.calls k a0 t686 _ A10.out).mono ?_); rintro e w' ⟨rfl, ⟨nd, rfl⟩⟩; refine ⟨_, rfl, ?_⟩; have p687 : 0 ≤ ((ji11) : Int) := ofd_; have q687 : (ji11) < (l3.length : Int) := ofd_; obtain ⟨ad687, e687, hx687_0, hx687_1, hx687_2, hx687_3⟩ := at_T29 HR3.out (ji11) p687 q687; cases e687; replace p687 := eq_true p687; replace q687 := eq_true q687) | ((with_reducible refine gate_dst (N := 10) rfl ?_); refine boxE_ (cs := #[.int .u64 0, .int .u64 0, .int .u64 0, .int .u64 0]) (t := 29) ?_; intro gb688 hg w22 hbox hb; have BK688 := a_ (hbox); have GW688 := sizeB_ hg; replace HB := stepB_ hb; clear hb hbox hg; obtain ⟨z23_0, z23_1, z23_2, z23_3, f23_0, f23_1, f23_2, f23_3⟩ := cz4_ BK688.out) | ((with_reducible refine gate_store (t := 29) (p := 10) rfl ?_); refine store_event (t := 29) (p := 10) (v := ?vo_w24) (w1 := ((((w22.setCell ⟨gb688, 0, none⟩ (.int .u64 ((rd_T29 l3 (ji11)).f0))).setCell ⟨gb688, 1, none⟩ (.int .u64 ((rd_T29 l3 (ji11)).f1))).setCell ⟨gb688, 2, none⟩ (.int .u64 ((rd_T29 l3 (ji11)).f2))).setCell ⟨gb688, 3, none⟩ (.int .u64 ((rd_T29 l3 (ji11)).f3)))) ?hg ?ho ?hn ?hr ?_; (case ho => rfl); (case hg => rfl); (case hn => rfl); (case hr => first | (go_simp; done) | (go_simp; rfl)); intro w24 hw; have n0_ : Aside0 (w24.heap[gb688]? = some (.cells #[.int .u64 ((rd_T29 l3 (ji11)).f0), .int .u64 ((rd_T29 l3 (ji11)).f1), .int .u64 ((rd_T29 l3 (ji11)).f2), .int .u64 ((rd_T29 l3 (ji11)).f3)] 29 (0, 0))) := ⟨(by rw [hw]; exact (blkF_ BK688.out))⟩; have n1_ : Aside0 (Below w.heap.size w w24) := ⟨(by rw [hw]; exact bel_)⟩; clear hw; clear BK688; clear HB; have BK688 := n0_; have HB := n1_; clear n0_ n1_; have q25 : ((ji11) : Int) ≤ ((l3.length : Int) : Int) := ofd_; obtain ⟨i025, hi025, _, hsz25, _⟩ := info_parts info29; have hroom25 : l3.length ≤ c3 := HC3.out; have hC25 : Kd.C k29 _ (some ad687) l3.length l3 := HR3.out; have hcut25 := cut_to (P := Try.prog) 49 29 .i64 Try.underlying49 hi025 (some ad687) l3.length c3 (ji11) (ofd_) q25 hroom25; have hr25 := Kd.C_take (m := ((ji11) : Int).toNat) hC25 (by omega); have hy25 : y689.length = ((ji11) : Int).toNat := (by rw [Ny689.out, List.length_take]; omega); rw [← Ny689.out] at hr25; rw [← hy25] at hcut25; have HR692 := Aside0.mk hr25; have HC692 := a_ (show y689.length ≤ c3 from by omega); clear hr25 hC25 hroom25 hi025 hsz25; have KY25 := Aside0.mk hy25; clear hy25; replace q25 := eq_true q25))
      replace BK688 := a_ (blk_drew BK688.out)
      replace HB := a_ (below_drew1 HB.out)
      refine start_ (n := 15) (S := fun w' => hd4_ w' gb688 (.int .u64 ((rd_T29 l3 (ji11)).f0)) (.int .u64 ((rd_T29 l3 (ji11)).f1)) (.int .u64 ((rd_T29 l3 (ji11)).f2)) (.int .u64 ((rd_T29 l3 (ji11)).f3))) (ds := []) #[false, false, false, false, false, false, false, false, false, false, false, false, false, false, false] (by kernel_rfl) rfl rfl (hc4_ BK688.out) (fun hHeld => ?_); refine with_tabW spec_l4Down.tab7 spec_l4Down.bits7 (fun HT HW_ => ?_)
      generalize w24.drew = w26 at BK688 HB hHeld ⊢
      refine pP_ 0 (some 33) (b_ 15 1) HT ?_
      refine pP_ 1 (some 34) (b_ 15 3) HT ?_
      refine pP_ 2 (some 35) (b_ 15 7) HT ?_
      refine pP_ 4 (some 37) (b_ 15 23) HT ?_
      refine pP_ 8 (some 41) (b_ 15 279) HT ?_
      refine pP_ 9 (some 42) (b_ 15 791) HT ?_
      refine pP_ 10 (some 43) (b_ 15 1815) HT ?_
      refine pP_ 11 (some 44) (b_ 15 3863) HT ?_
      refine takeP_ 6 (some 39) (b_ 15 3927) HT HW_ hHeld ?_
      refine oneP_ 3 (some 36) (b_ 15 3935) HT (fun K hK => ?_)
      refine goN_ Try.func92 #[.string a2] ?_
      with_reducible refine (spec_HashLeaf.calls k a2 t693 t694 t695 t696 _ A17.out).mono ?_
      rintro e w27 ⟨rfl, hb⟩
      refine ⟨_, rfl, ?_⟩
      replace BK688 := bb_ BK688.out hb
      replace HB := stepB_ hb
      (try clear hb); (try clear hk)
      refine hK.out _ _ (hc4_ BK688.out) (fun hHeld => ?_)
      clear hK K
      refine normP_ (some 36) ?_
      refine oneP_ 5 (some 38) (b_ 15 3967) HT (fun K hK => ?_)
      refine goN_ Try.func91 #[.int .i64 t686, .int .i64 a1, .agg #[.int .u64 t693, .int .u64 t694, .int .u64 t695, .int .u64 t696], .slice (some ad687) y689.length c3] ?_
      with_reducible refine (spec_l3Up.calls k t686 a1 t693 t694 t695 t696 _ _ y689 t697 t698 t699 t700 _ ?side1 ?side2 A18.out).mono ?_
      (case side1 => exact cU_ (Kd.C_below HR692.out HB.out))
      (case side2 => exact HC692.out)
      rintro e w28 ⟨rfl, hb⟩
      refine ⟨_, rfl, ?_⟩
      replace BK688 := bb_ BK688.out hb
      replace HB := stepB_ hb
      (try clear hb); (try clear hk)
      refine hK.out _ _ (hc4_ BK688.out) (fun hHeld => ?_)
      clear hK K
      refine normP_ (some 38) ?_
      refine oneP_ 7 (some 40) (b_ 15 4095) HT (fun K hK => ?_)
      refine goes_ Try.func90 (by kernel_rfl) rfl #[.agg #[.int .u64 t697, .int .u64 t698, .int .u64 t699, .int .u64 t700], .agg #[.int .u64 ((rd_T29 l3 (ji11)).f0), .int .u64 ((rd_T29 l3 (ji11)).f1), .int .u64 ((rd_T29 l3 (ji11)).f2), .int .u64 ((rd_T29 l3 (ji11)).f3)]] (by rfl) rfl rfl (by (try simp only [List.map_toArray, List.map_cons, List.map_nil]); first | done | (simp only [hji11]; rfl) | rfl | (simp only [List.length_drop, List.length_take]; rfl)) ?_
      with_reducible refine (spec_l1PairText.calls k t697 t698 t699 t700 ((rd_T29 l3 (ji11)).f0) ((rd_T29 l3 (ji11)).f1) ((rd_T29 l3 (ji11)).f2) ((rd_T29 l3 (ji11)).f3) t701 _ A19.out).mono ?_
      rintro e w29 ⟨rfl, hb⟩
      refine ⟨_, rfl, ?_⟩
      replace BK688 := bb_ BK688.out hb
      replace HB := stepB_ hb
      (try clear hb); (try clear hk)
      refine hK.out _ _ (hc4_ BK688.out) (fun hHeld => ?_)
      clear hK K
      refine normP_ (some 40) ?_
      refine oneP_ 12 (some 45) (b_ 15 8191) HT (fun K hK => ?_)
      refine goN_ Try.func48 #[.int .i64 t686, .int .i64 a1, .string a2, .slice (some ad687) y689.length c3] ?_
      with_reducible refine (ih k (by omega) t686 a1 a2 _ _ y689 t702 _ ?side1 ?side2 A20.out).mono ?_
      (case side1 => exact cU_ (Kd.C_below HR692.out HB.out))
      (case side2 => exact HC692.out)
      rintro e w30 ⟨v703, rfl, ho0, hb⟩
      refine ⟨_, rfl, ?_⟩
      have HO704 := a_ (Kd.R_lower ho0 (below_size bel_))
      replace BK688 := bb_ BK688.out hb
      replace HB := stepB_ hb
      (try clear hb); (try clear hk); (try clear ho0)
      obtain ⟨Ao31, co31, eo31⟩ := Kd.R_slice HO704.out
      (first | subst eo31 | (injection eo31 with f1_ f2_ f3_; have f4_ := f1_.symm; have f5_ := f3_.symm; clear f1_ f2_ f3_; subst f4_; subst f5_))
      refine hK.out _ _ (hc4_ BK688.out) (fun hHeld => ?_)
      clear hK K
      refine normP_ (some 45) ?_
      refine oneP_ 13 (some 46) (b_ 15 16383) HT (fun K hK => ?_)
      refine goN_ Try.func89 #[.string t701, .slice Ao31 t702.length co31] ?_
      with_reducible refine (spec_l4Behind.calls k t701 _ _ t702 t705 _ ?side1 ?side2 A21.out).mono ?_
      (case side1 => exact cU_ (Kd.R_reads' HO704.out).2.2)
      (case side2 => exact (Kd.R_reads' HO704.out).2.1)
      rintro e w32 ⟨v706, rfl, ho0, hb⟩
      refine ⟨_, rfl, ?_⟩
      have HO707 := a_ (Kd.R_lower (Kd.R_new' ho0 (Kd.R_lt (kdU_ HO704.out))) (below_size bel_))
      replace HO704 := a_ (Kd.R_elder' (kdU_ HO704.out) (Kd.R_base ho0) hb)
      replace BK688 := bb_ BK688.out hb
      replace HB := stepB_ hb
      (try clear hb); (try clear hk); (try clear ho0)
      refine hK.out _ _ (hc4_ BK688.out) (fun hHeld => ?_)
      clear hK K
      refine normP_ (some 46) ?_
      refine pP_ 14 (some 8) (b_ 15 32767) HT ?_
      refine done_ (done_of HT.out (by kernel_rfl)) ?_
      try go_wp2
      go_ret
      exact ⟨_, by first | rfl | (simp [errW_none, errW_some] <;> rfl) | (simp only [← hji11]; first | rfl | (simp [errW_none, errW_some] <;> rfl)) | (simp [*, errW_none, errW_some] <;> rfl), by (with_reducible repeat (first | apply Kd.R_alloc | apply Kd.R_drewN | apply Kd.R_drew)); exact Kd.R_mono HO707.out (fun _ hk => trivial), bel_⟩
     ·rw [if_neg c16] at H
      have c16b0 := decide_eq_false c16
      clear c16
      obtain ⟨⟨t708, t709, t710, t711⟩, A33, H⟩ := bnd_ H
      dsimp only at H
      obtain ⟨⟨t712, t713, t714, t715⟩, A34, H⟩ := bnd_ H
      dsimp only at H
      obtain ⟨t716, A35, H⟩ := bnd_ H
      obtain ⟨t717, A36, H⟩ := bnd_ H
      obtain ⟨t720, A37, H⟩ := bnd_ H
      obtain rfl := Option.some.inj H
      go_enter Try.func48, Try.ntmps48
      try go_wp2_with (first | (refine gcL_ 88 (some 18) Try.func88 #[.int .i64 a0] ?_; (with_reducible refine (spec_TreeSplit.calls k a0 t686 _ A10.out).mono ?_); rintro e w' ⟨rfl, ⟨nd, rfl⟩⟩; refine ⟨_, rfl, ?_⟩; have p687 : 0 ≤ ((ji11) : Int) := ofd_; have q687 : (ji11) < (l3.length : Int) := ofd_; obtain ⟨ad687, e687, hx687_0, hx687_1, hx687_2, hx687_3⟩ := at_T29 HR3.out (ji11) p687 q687; cases e687; replace p687 := eq_true p687; replace q687 := eq_true q687) | ((with_reducible refine gate_dst (N := 10) rfl ?_); refine boxE_ (cs := #[.int .u64 0, .int .u64 0, .int .u64 0, .int .u64 0]) (t := 29) ?_; intro gb688 hg w38 hbox hb; have BK688 := a_ (hbox); have GW688 := sizeB_ hg; replace HB := stepB_ hb; clear hb hbox hg; obtain ⟨z39_0, z39_1, z39_2, z39_3, f39_0, f39_1, f39_2, f39_3⟩ := cz4_ BK688.out) | ((with_reducible refine gate_store (t := 29) (p := 10) rfl ?_); refine store_event (t := 29) (p := 10) (v := ?vo_w40) (w1 := ((((w38.setCell ⟨gb688, 0, none⟩ (.int .u64 ((rd_T29 l3 (ji11)).f0))).setCell ⟨gb688, 1, none⟩ (.int .u64 ((rd_T29 l3 (ji11)).f1))).setCell ⟨gb688, 2, none⟩ (.int .u64 ((rd_T29 l3 (ji11)).f2))).setCell ⟨gb688, 3, none⟩ (.int .u64 ((rd_T29 l3 (ji11)).f3)))) ?hg ?ho ?hn ?hr ?_; (case ho => rfl); (case hg => rfl); (case hn => rfl); (case hr => first | (go_simp; done) | (go_simp; rfl)); intro w40 hw; have n0_ : Aside0 (w40.heap[gb688]? = some (.cells #[.int .u64 ((rd_T29 l3 (ji11)).f0), .int .u64 ((rd_T29 l3 (ji11)).f1), .int .u64 ((rd_T29 l3 (ji11)).f2), .int .u64 ((rd_T29 l3 (ji11)).f3)] 29 (0, 0))) := ⟨(by rw [hw]; exact (blkF_ BK688.out))⟩; have n1_ : Aside0 (Below w.heap.size w w40) := ⟨(by rw [hw]; exact bel_)⟩; clear hw; clear BK688; clear HB; have BK688 := n0_; have HB := n1_; clear n0_ n1_; have q41 : ((ji11) : Int) ≤ ((l3.length : Int) : Int) := ofd_; obtain ⟨i041, hi041, _, hsz41, _⟩ := info_parts info29; have hroom41 : l3.length ≤ c3 := HC3.out; have hC41 : Kd.C k29 _ (some ad687) l3.length l3 := HR3.out; have hcut41 := cut_to (P := Try.prog) 49 29 .i64 Try.underlying49 hi041 (some ad687) l3.length c3 (ji11) (ofd_) q41 hroom41; have hr41 := Kd.C_take (m := ((ji11) : Int).toNat) hC41 (by omega); have hy41 : y689.length = ((ji11) : Int).toNat := (by rw [Ny689.out, List.length_take]; omega); rw [← Ny689.out] at hr41; rw [← hy41] at hcut41; have HR692 := Aside0.mk hr41; have HC692 := a_ (show y689.length ≤ c3 from by omega); clear hr41 hC41 hroom41 hi041 hsz41; have KY41 := Aside0.mk hy41; clear hy41; replace q41 := eq_true q41))
      replace BK688 := a_ (blk_drew BK688.out)
      replace HB := a_ (below_drew1 HB.out)
      refine start_ (n := 23) (S := fun w' => hd4_ w' gb688 (.int .u64 ((rd_T29 l3 (ji11)).f0)) (.int .u64 ((rd_T29 l3 (ji11)).f1)) (.int .u64 ((rd_T29 l3 (ji11)).f2)) (.int .u64 ((rd_T29 l3 (ji11)).f3))) (ds := []) #[false, false, false, false, false, false, false, false, false, false, false, false, false, false, false, false, false, false, false, false, false, false, false] (by kernel_rfl) rfl rfl (hc4_ BK688.out) (fun hHeld => ?_); refine with_tabW spec_l4Down.tab8 spec_l4Down.bits8 (fun HT HW_ => ?_)
      generalize w40.drew = w42 at BK688 HB hHeld ⊢
      refine pP_ 1 (some 48) (b_ 23 2) HT ?_
      refine pP_ 2 (some 49) (b_ 23 6) HT ?_
      refine pP_ 3 (some 50) (b_ 23 14) HT ?_
      refine pP_ 4 (some 51) (b_ 23 30) HT ?_
      refine pP_ 5 (some 52) (b_ 23 62) HT ?_
      refine pP_ 6 (some 53) (b_ 23 126) HT ?_
      refine pP_ 7 (some 54) (b_ 23 254) HT ?_
      refine pP_ 9 (some 56) (b_ 23 766) HT ?_
      refine pP_ 12 (some 59) (b_ 23 4862) HT ?_
      refine pP_ 13 (some 60) (b_ 23 13054) HT ?_
      refine pP_ 14 (some 61) (b_ 23 29438) HT ?_
      refine pP_ 15 (some 62) (b_ 23 62206) HT ?_
      refine pP_ 16 (some 63) (b_ 23 127742) HT ?_
      refine pP_ 17 (some 64) (b_ 23 258814) HT ?_
      refine pP_ 18 (some 65) (b_ 23 520958) HT ?_
      refine pP_ 19 (some 66) (b_ 23 1045246) HT ?_
      refine takeP_ 0 (some 47) (b_ 23 1045247) HT HW_ hHeld ?_
      refine oneP_ 8 (some 55) (b_ 23 1045503) HT (fun K hK => ?_)
      refine goN_ Try.func92 #[.string a2] ?_
      with_reducible refine (spec_HashLeaf.calls k a2 t708 t709 t710 t711 _ A33.out).mono ?_
      rintro e w43 ⟨rfl, hb⟩
      refine ⟨_, rfl, ?_⟩
      replace BK688 := bb_ BK688.out hb
      replace HB := stepB_ hb
      (try clear hb); (try clear hk)
      refine hK.out _ _ (hc4_ BK688.out) (fun hHeld => ?_)
      clear hK K
      refine normP_ (some 55) ?_
      refine oneP_ 10 (some 57) (b_ 23 1046527) HT (fun K hK => ?_)
      refine goN_ Try.func91 #[.int .i64 (wrap64 (a0 - t686)), .int .i64 (wrap64 (a1 - t686)), .agg #[.int .u64 t708, .int .u64 t709, .int .u64 t710, .int .u64 t711], .slice (some ad687) y689.length c3] ?_
      with_reducible refine (spec_l3Up.calls k (wrap64 (a0 - t686)) (wrap64 (a1 - t686)) t708 t709 t710 t711 _ _ y689 t712 t713 t714 t715 _ ?side1 ?side2 A34.out).mono ?_
      (case side1 => exact cU_ (Kd.C_below HR692.out HB.out))
      (case side2 => exact HC692.out)
      rintro e w44 ⟨rfl, hb⟩
      refine ⟨_, rfl, ?_⟩
      replace BK688 := bb_ BK688.out hb
      replace HB := stepB_ hb
      (try clear hb); (try clear hk)
      refine hK.out _ _ (hc4_ BK688.out) (fun hHeld => ?_)
      clear hK K
      refine normP_ (some 57) ?_
      refine oneP_ 11 (some 58) (b_ 23 1048575) HT (fun K hK => ?_)
      refine goes_ Try.func90 (by kernel_rfl) rfl #[.agg #[.int .u64 ((rd_T29 l3 (ji11)).f0), .int .u64 ((rd_T29 l3 (ji11)).f1), .int .u64 ((rd_T29 l3 (ji11)).f2), .int .u64 ((rd_T29 l3 (ji11)).f3)], .agg #[.int .u64 t712, .int .u64 t713, .int .u64 t714, .int .u64 t715]] (by rfl) rfl rfl (by (try simp only [List.map_toArray, List.map_cons, List.map_nil]); first | done | (simp only [hji11]; rfl) | rfl | (simp only [List.length_drop, List.length_take]; rfl)) ?_
      with_reducible refine (spec_l1PairText.calls k ((rd_T29 l3 (ji11)).f0) ((rd_T29 l3 (ji11)).f1) ((rd_T29 l3 (ji11)).f2) ((rd_T29 l3 (ji11)).f3) t712 t713 t714 t715 t716 _ A35.out).mono ?_
      rintro e w45 ⟨rfl, hb⟩
      refine ⟨_, rfl, ?_⟩
      replace BK688 := bb_ BK688.out hb
      replace HB := stepB_ hb
      (try clear hb); (try clear hk)
      refine hK.out _ _ (hc4_ BK688.out) (fun hHeld => ?_)
      clear hK K
      refine normP_ (some 58) ?_
      refine oneP_ 20 (some 67) (b_ 23 2097151) HT (fun K hK => ?_)
      refine goN_ Try.func48 #[.int .i64 (wrap64 (a0 - t686)), .int .i64 (wrap64 (a1 - t686)), .string a2, .slice (some ad687) y689.length c3] ?_
      with_reducible refine (ih k (by omega) (wrap64 (a0 - t686)) (wrap64 (a1 - t686)) a2 _ _ y689 t717 _ ?side1 ?side2 A36.out).mono ?_
      (case side1 => exact cU_ (Kd.C_below HR692.out HB.out))
      (case side2 => exact HC692.out)
      rintro e w46 ⟨v718, rfl, ho0, hb⟩
      refine ⟨_, rfl, ?_⟩
      have HO719 := a_ (Kd.R_lower ho0 (below_size bel_))
      replace BK688 := bb_ BK688.out hb
      replace HB := stepB_ hb
      (try clear hb); (try clear hk); (try clear ho0)
      obtain ⟨Ao47, co47, eo47⟩ := Kd.R_slice HO719.out
      (first | subst eo47 | (injection eo47 with f1_ f2_ f3_; have f4_ := f1_.symm; have f5_ := f3_.symm; clear f1_ f2_ f3_; subst f4_; subst f5_))
      refine hK.out _ _ (hc4_ BK688.out) (fun hHeld => ?_)
      clear hK K
      refine normP_ (some 67) ?_
      refine oneP_ 21 (some 68) (b_ 23 4194303) HT (fun K hK => ?_)
      refine goN_ Try.func89 #[.string t716, .slice Ao47 t717.length co47] ?_
      with_reducible refine (spec_l4Behind.calls k t716 _ _ t717 t720 _ ?side1 ?side2 A37.out).mono ?_
      (case side1 => exact cU_ (Kd.R_reads' HO719.out).2.2)
      (case side2 => exact (Kd.R_reads' HO719.out).2.1)
      rintro e w48 ⟨v721, rfl, ho0, hb⟩
      refine ⟨_, rfl, ?_⟩
      have HO722 := a_ (Kd.R_lower (Kd.R_new' ho0 (Kd.R_lt (kdU_ HO719.out))) (below_size bel_))
      replace HO719 := a_ (Kd.R_elder' (kdU_ HO719.out) (Kd.R_base ho0) hb)
      replace BK688 := bb_ BK688.out hb
      replace HB := stepB_ hb
      (try clear hb); (try clear hk); (try clear ho0)
      refine hK.out _ _ (hc4_ BK688.out) (fun hHeld => ?_)
      clear hK K
      refine normP_ (some 68) ?_
      refine pP_ 22 (some 8) (b_ 23 8388607) HT ?_
      refine done_ (done_of HT.out (by kernel_rfl)) ?_
      try go_wp2
      go_ret
      exact ⟨_, by first | rfl | (simp [errW_none, errW_some] <;> rfl) | (simp only [← hji11]; first | rfl | (simp [errW_none, errW_some] <;> rfl)) | (simp [*, errW_none, errW_some] <;> rfl), by (with_reducible repeat (first | apply Kd.R_alloc | apply Kd.R_drewN | apply Kd.R_drew)); exact Kd.R_mono HO722.out (fun _ hk => trivial), bel_⟩
    ·rw [if_neg c15] at H
     exact absurd H (by simp)
   ·rw [if_neg c13] at H
    exact absurd H (by simp)
  ·rw [if_neg c12] at H
   exact absurd H (by simp)
end
section
def impl_ClashRow.l0 : Nat → ByteArray → List (S128) → List ByteArray → Int → Option (List ByteArray × Bool)
 | 0, _, _, _, _ => none
 | k + 1, x2, x10, x11, x12 => if x12 ≥ 0 then (if 0 ≤ x12 then (if x12 < (x10.length : Int) then ((impl_pairText.f k ((rd_T128 x10 x12).f0.f0) ((rd_T128 x10 x12).f0.f1) ((rd_T128 x10 x12).f0.f2) ((rd_T128 x10 x12).f0.f3) ((rd_T128 x10 x12).f1.f0) ((rd_T128 x10 x12).f1.f1) ((rd_T128 x10 x12).f1.f2) ((rd_T128 x10 x12).f1.f3)).bind fun t902 => (if x11.length < 8796093022208 then (impl_ClashRow.l0 k x2 x10 (x11 ++ [t902]) (wrap64 (x12 - 1))) else (none))) else (none)) else (none)) else ((impl_leafText.f x2).bind fun t906 => (if x11.length < 8796093022208 then ((impl_copied_string.f (x11 ++ [t906])).bind fun t910 => (some (t910, true))) else (none)))
def impl_ClashRow.f (k : Nat) (a0 a1 : Int) (a2 : ByteArray) (l3 : List (S29)) : Option (List ByteArray × Bool) := (impl_pathOk.f k a0 a1 a2 l3).bind fun t896 => (if t896 = true then ((impl_pathPairs.f k a0 a1 a2 l3).bind fun t897 => (impl_ClashRow.l0 k a2 t897 ([] : List ByteArray) (wrap64 ((t897.length : Int) - 1)))) else (some (([] : List ByteArray), false)))
def impl_ClashRow.T8 : Bool × List (List Nat × List Nat) := (true, [([], []), ([], []), ([], []), ([1, 2], [1, 2]), ([3], [3]), ([4], [4]), ([], []), ([], []), ([6, 7], [6, 7]), ([8], [8]), ([9], [9]), ([5, 10], [5, 10]), ([11], [11]), ([0, 12, 11], [0, 12]), ([13, 13, 0, 1, 2, 3, 4, 5, 6, 7, 8, 9, 10, 11, 12, 13], [0, 13])])
def impl_ClashRow.B8 : List Nat := [0, 0, 0, 6, 14, 30, 0, 0, 192, 448, 960, 2046, 4094, 8191, 16383]
theorem impl_ClashRow.tab8 : rtab .any (opsOf Try.f52 8) = impl_ClashRow.T8 := by kernel_rfl
theorem impl_ClashRow.bits8 : waitsOk impl_ClashRow.T8.2 impl_ClashRow.B8 = true := by kernel_rfl
theorem impl_ClashRow.calls (k : Nat) (a0 a1 : Int) (a2 : ByteArray) (A3 : Option Addr) (c3 : Nat) (l3 : List (S29)) (r1 : List ByteArray) (r2 : Bool) (w : World) (hr3 : Kd.C k29 w A3 l3.length l3) (hc3 : l3.length ≤ c3) (h : impl_ClashRow.f k a0 a1 a2 l3 = some (r1, r2)) :
  Calls Try.prog 52 #[.int .i64 a0, .int .i64 a1, .string a2, .slice A3 l3.length c3] w fun e w' => ∃ v0_ : Value, e = .returned (.tuple #[v0_, .bool r2]) ∧ Kd.R Kd.string 9 w' w.heap.size (fun _ => True) v0_ r1 ∧ Below w.heap.size w w' := by
 have hu29 := Try.underlying29
 have HR3 := Aside0.mk hr3
 have HC3 := Aside0.mk hc3
 clear hr3 hc3
 have HB := a_ (Below.refl w.heap.size w)
 have H := h
 unfold impl_ClashRow.f at H
 clear h
 obtain ⟨t896, A5, H⟩ := bnd_ H
 by_cases c6 : t896 = true
 ·subst c6
  rw [if_pos rfl] at H
  obtain ⟨t897, A7, H⟩ := bnd_ H
  have H' := Aside0.mk H
  clear H
  go_enter Try.func52, Try.ntmps52
  go_wp2_with (first | (refine gcL_ 96 (some 17) Try.func96 #[.int .i64 a0, .int .i64 a1, .string a2, .slice A3 l3.length c3] ?_; (with_reducible refine (impl_pathOk.calls k a0 a1 a2 _ _ l3 true _ ?side1 ?side2 A5.out).mono ?_); (case side1 => repeat (first | exact HR3.out | (with_reducible refine Kd.C_alloc ?_ _) | (with_reducible refine Kd.C_drewN ?_ _) | (with_reducible refine Kd.C_drew ?_))); (case side2 => exact HC3.out); rintro e w8 ⟨rfl, hb⟩; refine ⟨_, rfl, ?_⟩; replace HB := stepB_ hb; (try clear hb)) | (refine gcL_ 97 (some 23) Try.func97 #[.int .i64 a0, .int .i64 a1, .string a2, .slice A3 l3.length c3] ?_; (with_reducible refine (impl_pathPairs.calls k a0 a1 a2 _ _ l3 t897 _ ?side1 ?side2 A7.out).mono ?_); (case side1 => exact cU_ (Kd.C_below HR3.out HB.out)); (case side2 => exact HC3.out); rintro e w9 ⟨v898, rfl, ho0, hb⟩; refine ⟨_, rfl, ?_⟩; have HO899 := a_ (Kd.R_lower ho0 (below_size bel_)); replace HB := stepB_ hb; (try clear hb); (try clear ho0); obtain ⟨Ao10, co10, eo10⟩ := Kd.R_slice HO899.out; subst eo10))
  go_loopg [11, 12] k (fun kq v11 v12 w' => ∃ (x11_1 : List ByteArray) (x12_1 : Int), v12 = .int .i64 x12_1 ∧ Aside0 (impl_ClashRow.l0 kq a2 t897 x11_1 x12_1 = some (r1, r2)) ∧ Aside0 (kq ≤ k) ∧ Aside0 (Kd.R k128 128 w' w.heap.size (fun _ => True) (.slice Ao10 t897.length co10) t897) ∧ Aside0 (Kd.R Kd.string 9 w' w.heap.size (fun _ => True) v11 x11_1) ∧ Aside0 (Below w.heap.size w w'))
  case atStart => exact ⟨(([] : List ByteArray)), (wrap64 ((t897.length : Int) - 1)), rl_, H', ⟨Nat.le_refl _⟩, ⟨kdU_ HO899.out⟩, ⟨by first | exact Kd.R_nil _ _ _ _ _ | exact Kd.N_nil _ _ _ _ _ | exact Kd.V_nil _ _ _ _ _ | exact Kd.Q_nil _ _ _ _ _ | exact Kd.S_nil _ _ _ _ _⟩, ⟨bel_⟩⟩
  case round =>
   clear H'
   (try clear c3); (try clear c6)
   obtain ⟨x11_1, x12_1, rfl, HA, HK1, HO_10, HO_11, HB⟩ := hrel
   cases gk with
   | zero => exact absurd HA.out (by simp [impl_ClashRow.l0])
   | succ k1 =>
    have H := HA.out
    clear HA
    simp only [impl_ClashRow.l0] at H
    by_cases c11 : x12_1 ≥ 0
    ·rw [if_pos c11] at H
     have c11b0 : decide (0 ≤ x12_1) = true := decide_eq_true c11
     clear c11
     by_cases c12 : 0 ≤ x12_1
     ·rw [if_pos c12] at H
      have c12b0 := decide_eq_true c12
      clear c12
      by_cases c13 : x12_1 < (t897.length : Int)
      ·rw [if_pos c13] at H
       have c13b0 := decide_eq_true c13
       clear c13
       obtain ⟨t902, A14, H⟩ := bnd_ H
       by_cases c15 : x11_1.length < 8796093022208
       ·rw [if_pos c15] at H
        have LMc15 := Aside0.mk c15
        clear c15
        obtain ⟨y903, hy903⟩ : ∃ y_ : List ByteArray, y_ = (x11_1 ++ [t902]) := ⟨_, rfl⟩
        replace H : (impl_ClashRow.l0 k1 a2 t897 y903 (wrap64 (x12_1 - 1))) = some (r1, r2) := rpl_ hy903 H
        have Ny903 := Aside0.mk hy903
        clear hy903
        have H' := Aside0.mk H
        clear H
        try go_wp2
        replace HO_10 := a_ (Kd.R_drew HO_10.out)
        replace HO_11 := a_ (Kd.R_drew HO_11.out)
        replace HB := a_ (below_drew1 HB.out)
        have p900 : 0 ≤ (x12_1 : Int) := ofd_
        have q900 : x12_1 < (t897.length : Int) := ofd_
        obtain ⟨ad900, e900, hx900_0, hx900_1, hx900_2, hx900_3, hx900_4, hx900_5, hx900_6, hx900_7⟩ := at_T128 (Kd.R_reads' HO_10.out).2.2 x12_1 p900 q900
        cases e900
        replace p900 := eq_true p900
        replace q900 := eq_true q900
        have p901 : 0 ≤ (x12_1 : Int) := ofd_
        have q901 : x12_1 < (t897.length : Int) := ofd_
        obtain ⟨ad901, e901, hx901_0, hx901_1, hx901_2, hx901_3, hx901_4, hx901_5, hx901_6, hx901_7⟩ := at_T128 (Kd.R_reads' HO_10.out).2.2 x12_1 p901 q901
        obtain rfl : ad900 = ad901 := (by injection e901)
        replace p901 := eq_true p901
        replace q901 := eq_true q901
        refine start_ (n := 15) (S := fun w' => w'.cell? (ad900.add ((x12_1).toNat * 8)) = some (.int .u64 ((rd_T128 t897 x12_1).f0.f0)) ∧ w'.cell? ⟨(ad900.add ((x12_1).toNat * 8)).block, (ad900.add ((x12_1).toNat * 8)).off + 1, none⟩ = some (.int .u64 ((rd_T128 t897 x12_1).f0.f1)) ∧ w'.cell? ⟨(ad900.add ((x12_1).toNat * 8)).block, (ad900.add ((x12_1).toNat * 8)).off + 2, none⟩ = some (.int .u64 ((rd_T128 t897 x12_1).f0.f2)) ∧ w'.cell? ⟨(ad900.add ((x12_1).toNat * 8)).block, (ad900.add ((x12_1).toNat * 8)).off + 3, none⟩ = some (.int .u64 ((rd_T128 t897 x12_1).f0.f3)) ∧ w'.cell? ⟨(ad900.add ((x12_1).toNat * 8)).block, (ad900.add ((x12_1).toNat * 8)).off + 4, none⟩ = some (.int .u64 ((rd_T128 t897 x12_1).f1.f0)) ∧ w'.cell? ⟨(ad900.add ((x12_1).toNat * 8)).block, (ad900.add ((x12_1).toNat * 8)).off + 5, none⟩ = some (.int .u64 ((rd_T128 t897 x12_1).f1.f1)) ∧ w'.cell? ⟨(ad900.add ((x12_1).toNat * 8)).block, (ad900.add ((x12_1).toNat * 8)).off + 6, none⟩ = some (.int .u64 ((rd_T128 t897 x12_1).f1.f2)) ∧ w'.cell? ⟨(ad900.add ((x12_1).toNat * 8)).block, (ad900.add ((x12_1).toNat * 8)).off + 7, none⟩ = some (.int .u64 ((rd_T128 t897 x12_1).f1.f3)) ∧ w'.cell? (ad900.add ((x12_1).toNat * 8)) = some (.int .u64 ((rd_T128 t897 x12_1).f0.f0)) ∧ w'.cell? ⟨(ad900.add ((x12_1).toNat * 8)).block, (ad900.add ((x12_1).toNat * 8)).off + 1, none⟩ = some (.int .u64 ((rd_T128 t897 x12_1).f0.f1)) ∧ w'.cell? ⟨(ad900.add ((x12_1).toNat * 8)).block, (ad900.add ((x12_1).toNat * 8)).off + 2, none⟩ = some (.int .u64 ((rd_T128 t897 x12_1).f0.f2)) ∧ w'.cell? ⟨(ad900.add ((x12_1).toNat * 8)).block, (ad900.add ((x12_1).toNat * 8)).off + 3, none⟩ = some (.int .u64 ((rd_T128 t897 x12_1).f0.f3)) ∧ w'.cell? ⟨(ad900.add ((x12_1).toNat * 8)).block, (ad900.add ((x12_1).toNat * 8)).off + 4, none⟩ = some (.int .u64 ((rd_T128 t897 x12_1).f1.f0)) ∧ w'.cell? ⟨(ad900.add ((x12_1).toNat * 8)).block, (ad900.add ((x12_1).toNat * 8)).off + 5, none⟩ = some (.int .u64 ((rd_T128 t897 x12_1).f1.f1)) ∧ w'.cell? ⟨(ad900.add ((x12_1).toNat * 8)).block, (ad900.add ((x12_1).toNat * 8)).off + 6, none⟩ = some (.int .u64 ((rd_T128 t897 x12_1).f1.f2)) ∧ w'.cell? ⟨(ad900.add ((x12_1).toNat * 8)).block, (ad900.add ((x12_1).toNat * 8)).off + 7, none⟩ = some (.int .u64 ((rd_T128 t897 x12_1).f1.f3))) (ds := [12, 13]) #[false, false, false, false, false, false, false, false, false, false, false, false, false, false, false] (by kernel_rfl) rfl rfl ⟨hx900_0, hx900_1, hx900_2, hx900_3, hx900_4, hx900_5, hx900_6, hx900_7, hx901_0, hx901_1, hx901_2, hx901_3, hx901_4, hx901_5, hx901_6, hx901_7⟩ (fun hHeld => ?_); refine with_tabW impl_ClashRow.tab8 impl_ClashRow.bits8 (fun HT HW_ => ?_)
        generalize wr.drew = w16 at HO_10 HO_11 HB hx900_0 hx900_1 hx900_2 hx900_3 hx900_4 hx900_5 hx900_6 hx900_7 hx901_0 hx901_1 hx901_2 hx901_3 hx901_4 hx901_5 hx901_6 hx901_7 hHeld ⊢
        refine pP_ 0 (some 31) (b_ 15 1) HT ?_
        refine pP_ 1 (some 32) (b_ 15 3) HT ?_
        refine pP_ 2 (some 33) (b_ 15 7) HT ?_
        refine pP_ 3 (some 34) (b_ 15 15) HT ?_
        refine pP_ 4 (some 35) (b_ 15 31) HT ?_
        refine pP_ 6 (some 37) (b_ 15 95) HT ?_
        refine pP_ 7 (some 38) (b_ 15 223) HT ?_
        refine pP_ 8 (some 39) (b_ 15 479) HT ?_
        refine pP_ 9 (some 40) (b_ 15 991) HT ?_
        refine takeP_ 5 (some 36) (b_ 15 1023) HT HW_ hHeld ?_
        refine takeP_ 10 (some 41) (b_ 15 2047) HT HW_ hHeld ?_
        refine oneP_ 11 (some 42) (b_ 15 4095) HT (fun K hK => ?_)
        refine goN_ Try.func98 #[.agg #[.int .u64 ((rd_T128 t897 x12_1).f0.f0), .int .u64 ((rd_T128 t897 x12_1).f0.f1), .int .u64 ((rd_T128 t897 x12_1).f0.f2), .int .u64 ((rd_T128 t897 x12_1).f0.f3)], .agg #[.int .u64 ((rd_T128 t897 x12_1).f1.f0), .int .u64 ((rd_T128 t897 x12_1).f1.f1), .int .u64 ((rd_T128 t897 x12_1).f1.f2), .int .u64 ((rd_T128 t897 x12_1).f1.f3)]] ?_
        with_reducible refine (impl_pairText.calls k1 ((rd_T128 t897 x12_1).f0.f0) ((rd_T128 t897 x12_1).f0.f1) ((rd_T128 t897 x12_1).f0.f2) ((rd_T128 t897 x12_1).f0.f3) ((rd_T128 t897 x12_1).f1.f0) ((rd_T128 t897 x12_1).f1.f1) ((rd_T128 t897 x12_1).f1.f2) ((rd_T128 t897 x12_1).f1.f3) t902 _ A14.out).mono ?_
        rintro e w17 ⟨rfl, hb⟩
        have HS0_ := (hb.cell (World.block_lt_of_cell? _ _ (hHeld.1))).trans (hHeld.1)
        have HS1_ := (hb.cell (World.block_lt_of_cell? _ _ (hHeld.2.1))).trans (hHeld.2.1)
        have HS2_ := (hb.cell (World.block_lt_of_cell? _ _ (hHeld.2.2.1))).trans (hHeld.2.2.1)
        have HS3_ := (hb.cell (World.block_lt_of_cell? _ _ (hHeld.2.2.2.1))).trans (hHeld.2.2.2.1)
        have HS4_ := (hb.cell (World.block_lt_of_cell? _ _ (hHeld.2.2.2.2.1))).trans (hHeld.2.2.2.2.1)
        have HS5_ := (hb.cell (World.block_lt_of_cell? _ _ (hHeld.2.2.2.2.2.1))).trans (hHeld.2.2.2.2.2.1)
        have HS6_ := (hb.cell (World.block_lt_of_cell? _ _ (hHeld.2.2.2.2.2.2.1))).trans (hHeld.2.2.2.2.2.2.1)
        have HS7_ := (hb.cell (World.block_lt_of_cell? _ _ (hHeld.2.2.2.2.2.2.2.1))).trans (hHeld.2.2.2.2.2.2.2.1)
        have HS8_ := (hb.cell (World.block_lt_of_cell? _ _ (hHeld.2.2.2.2.2.2.2.2.1))).trans (hHeld.2.2.2.2.2.2.2.2.1)
        have HS9_ := (hb.cell (World.block_lt_of_cell? _ _ (hHeld.2.2.2.2.2.2.2.2.2.1))).trans (hHeld.2.2.2.2.2.2.2.2.2.1)
        have HS10_ := (hb.cell (World.block_lt_of_cell? _ _ (hHeld.2.2.2.2.2.2.2.2.2.2.1))).trans (hHeld.2.2.2.2.2.2.2.2.2.2.1)
        have HS11_ := (hb.cell (World.block_lt_of_cell? _ _ (hHeld.2.2.2.2.2.2.2.2.2.2.2.1))).trans (hHeld.2.2.2.2.2.2.2.2.2.2.2.1)
        have HS12_ := (hb.cell (World.block_lt_of_cell? _ _ (hHeld.2.2.2.2.2.2.2.2.2.2.2.2.1))).trans (hHeld.2.2.2.2.2.2.2.2.2.2.2.2.1)
        have HS13_ := (hb.cell (World.block_lt_of_cell? _ _ (hHeld.2.2.2.2.2.2.2.2.2.2.2.2.2.1))).trans (hHeld.2.2.2.2.2.2.2.2.2.2.2.2.2.1)
        have HS14_ := (hb.cell (World.block_lt_of_cell? _ _ (hHeld.2.2.2.2.2.2.2.2.2.2.2.2.2.2.1))).trans (hHeld.2.2.2.2.2.2.2.2.2.2.2.2.2.2.1)
        have HS15_ := (hb.cell (World.block_lt_of_cell? _ _ (hHeld.2.2.2.2.2.2.2.2.2.2.2.2.2.2.2))).trans (hHeld.2.2.2.2.2.2.2.2.2.2.2.2.2.2.2)
        refine ⟨_, rfl, ?_⟩
        replace HO_10 := rb_ HO_10.out hb
        replace HO_11 := rb_ HO_11.out hb
        replace HB := stepB_ hb
        (try clear hb)
        refine hK.out _ _ ⟨HS0_, HS1_, HS2_, HS3_, HS4_, HS5_, HS6_, HS7_, HS8_, HS9_, HS10_, HS11_, HS12_, HS13_, HS14_, HS15_⟩ (fun hHeld => ?_)
        clear hK K
        refine normP_ (some 42) ?_
        refine last_ (i := 12) (N := some 43) (b_ 15 8191) rfl rfl (one_of HT.out (by kernel_rfl)) (by decide) (fun K hK => ?_)
        refine value_ (w1 := ?_) (v := ?_) (by rfl) rfl ?_ ?_
        rotate_left 2
        ·go_simp
         constructor
         ·rfl
         ·rfl
        refine hK.out _ _ ?_
        clear hK K
        refine normP_ (some 43) ?_
        refine last_ (i := 13) (N := some 44) (b_ 15 16383) rfl rfl (one_of HT.out (by kernel_rfl)) (by decide) (fun K hK => ?_)
        refine Kd.R_append_step Kd.string (w0 := w) w.heap.size (by rfl) (.tmp 31) (.tmp 43) 61 9 (.string ⟨#[]⟩) 16 rfl Try.underlying61 info9 rfl (by decide) (by omega) u11 x11_1 t902 [.string t902] (fun _ => True) (fun _ => False) rfl rfl ?aP (fun _ hk => hk.elim) ?aF ?aO ?aB ?aS ?aL ?_
        (case aP => exact rfl)
        (case aB => exact bel_)
        (case aF => exact (fun _ _ => trivial))
        (case aO => exact (kdU_ HO_11.out))
        (case aS => exact (below_size bel_))
        (case aL => have := LMc15.out; omega)
        intro v904 w18 ho hb hg hat
        rw [← Ny903.out] at ho
        replace HO_10 := a_ (Kd.R_over' (kdU_ HO_10.out) (Kd.R_typed (kdU_ HO_11.out)) (by decide) hg)
        replace HB := a_ (hb)
        have HO905 := a_ (ho)
        clear HO_11
        clear ho hb hg hat
        refine hK.out _ _ ?_
        clear hK K
        refine normP_ (some 44) ?_
        refine pP_ 14 (some 11) (b_ 15 32767) HT ?_
        refine done_ (done_of HT.out (by kernel_rfl)) ?_
        try go_wp2
        go_roundg k1
        case measure => have := HK1.out; omega
        case rel => exact ⟨(y903), (wrap64 (x12_1 - 1)), rl_, H', ⟨by have := HK1.out; omega⟩, ⟨kdU_ HO_10.out⟩, ⟨kdU_ HO905.out⟩, ⟨bel_⟩⟩
       ·rw [if_neg c15] at H
        exact absurd H (by simp)
      ·rw [if_neg c13] at H
       exact absurd H (by simp)
     ·rw [if_neg c12] at H
      exact absurd H (by simp)
    ·rw [if_neg c11] at H
     have c11b0 : decide (0 ≤ x12_1) = false := decide_eq_false c11
     clear c11
     obtain ⟨t906, A19, H⟩ := bnd_ H
     by_cases c20 : x11_1.length < 8796093022208
     ·rw [if_pos c20] at H
      have LMc20 := Aside0.mk c20
      clear c20
      obtain ⟨y907, hy907⟩ : ∃ y_ : List ByteArray, y_ = (x11_1 ++ [t906]) := ⟨_, rfl⟩
      replace H : ((impl_copied_string.f y907).bind fun t910 => (some (t910, true))) = some (r1, r2) := rpl_ hy907 H
      have Ny907 := Aside0.mk hy907
      clear hy907
      obtain ⟨t910, A21, H⟩ := bnd_ H
      simp only [Option.some.injEq, Prod.mk.injEq] at H
      obtain ⟨rfl, rfl⟩ := H
      go_wp2_with (first | (refine gcL_ 100 (some 47) Try.func100 #[.string a2] ?_; (with_reducible refine (impl_leafText.calls a2 t906 _ A19.out).mono ?_); rintro e w' ⟨rfl, ⟨nd, rfl⟩⟩; refine ⟨_, rfl, ?_⟩) | ((with_reducible refine gate_builtin (b := .append) (xs := #[.tmp 45, .tmp 48]) rfl ?_); at_builtin; refine Kd.R_append Kd.string (w0 := w) w.heap.size rfl (.tmp 45) (.tmp 48) 61 9 (.string ⟨#[]⟩) 16 rfl Try.underlying61 info9 rfl (by decide) (by omega) u11 x11_1 t906 [.string t906] (fun _ => True) (fun _ => False) rfl rfl ?aP (fun _ hk => hk.elim) ?aF ?aO ?aB ?aS ?aL ?_; (case aP => exact rfl); (case aB => exact bel_); (case aF => exact (fun _ _ => trivial)); (case aO => exact (kdU_ HO_11.out)); (case aS => exact (below_size bel_)); (case aL => have := LMc20.out; omega); intro v908 w22 ho hb hg hat; rw [← Ny907.out] at ho; replace HO_10 := a_ (Kd.R_over' (kdU_ HO_10.out) (Kd.R_typed (kdU_ HO_11.out)) (by decide) hg); replace HB := a_ (hb); have HO909 := a_ (ho); clear HO_11; clear ho hb hg hat; obtain ⟨Ao23, co23, eo23⟩ := Kd.R_slice HO909.out; subst eo23) | (refine gcL_ 99 (some 50) Try.func99 #[.slice Ao23 y907.length co23] ?_; (with_reducible refine (impl_copied_string.calls _ _ y907 t910 _ ?side1 ?side2 A21.out).mono ?_); (case side1 => exact cU_ (Kd.R_reads' HO909.out).2.2); (case side2 => exact (Kd.R_reads' HO909.out).2.1); rintro e w24 ⟨v911, rfl, ho0, hb⟩; refine ⟨_, rfl, ?_⟩; replace HO_10 := rb_ HO_10.out hb; have HO912 := a_ (Kd.R_lower (Kd.R_new' ho0 (Kd.R_lt (kdU_ HO909.out))) (below_size bel_)); replace HO909 := a_ (Kd.R_elder' (kdU_ HO909.out) (Kd.R_base ho0) hb); replace HB := stepB_ hb; (try clear hb); (try clear hk); (try clear ho0)))
      go_ret2
      exact ⟨_, rfl_, by (with_reducible repeat (first | apply Kd.R_alloc | apply Kd.R_drewN | apply Kd.R_drew)); exact Kd.R_mono HO912.out (fun _ hk => trivial), bel_⟩
     ·rw [if_neg c20] at H
      exact absurd H (by simp)
 ·replace c6 := Bool.eq_false_iff.mpr c6
  subst c6
  rw [if_neg (show ¬ (false = true) by decide)] at H
  simp only [Option.some.injEq, Prod.mk.injEq] at H
  obtain ⟨rfl, rfl⟩ := H
  go_enter Try.func52, Try.ntmps52
  go_wp2_with (first | (refine gcL_ 96 (some 17) Try.func96 #[.int .i64 a0, .int .i64 a1, .string a2, .slice A3 l3.length c3] ?_; (with_reducible refine (impl_pathOk.calls k a0 a1 a2 _ _ l3 false _ ?side1 ?side2 A5.out).mono ?_); (case side1 => repeat (first | exact HR3.out | (with_reducible refine Kd.C_alloc ?_ _) | (with_reducible refine Kd.C_drewN ?_ _) | (with_reducible refine Kd.C_drew ?_))); (case side2 => exact HC3.out); rintro e w25 ⟨rfl, hb⟩; refine ⟨_, rfl, ?_⟩; replace HB := stepB_ hb; (try clear hb); (try clear hk)))
  go_ret2
  exact ⟨_, rfl_, by first | exact Kd.R_nil _ _ _ _ _ | exact Kd.N_nil _ _ _ _ _ | exact Kd.V_nil _ _ _ _ _ | exact Kd.Q_nil _ _ _ _ _ | exact Kd.S_nil _ _ _ _ _, bel_⟩
end
end Go.Proofs.Ytflckegggopdnaa.B
